/- For every input the law TopMemory returns true. No condition. -/
import Derived.Test.YtoidpggbbfncpaaGreatDoorCards
import Derived.Test.YtoidpggbbfncpaaGreatDoorTie
import Derived.Deep.DeepHandedRow
import Derived.Test.YtoidpggbbfncpaaGreatDoorRows
import Derived.Test.YtoidpggbbfncpaaGreatDoorTopMemoryWalks
import Derived.Test.YtoidpggbbfncpaaGreatDoorTopMemoryWalks2
import Derived.Test.YtoidpggbbfncpaaGreatDoorTopMemoryWalks3
import Derived.Test.YtoidpggbbfncpaaGreatDoorTopMemoryWalks4
import Derived.Test.YtoidpggbbfncpaaGreatDoorTopMemoryWalks5
import Derived.Test.YtoidpggbbfncpaaGreatDoorTopMemoryWalks6
import Derived.Test.YtoidpggbbfncpaaGreatDoorTopMemoryEc3
import Derived.Test.YtoidpggbbfncpaaGreatDoorTopMemoryRa1
import Derived.Test.YtoidpggbbfncpaaGreatDoorTopMemoryRb1
import Derived.Test.YtoidpggbbfncpaaGreatDoorTopMemoryRc1
set_option linter.unusedSimpArgs false
set_option linter.unusedVariables false
set_option maxRecDepth 100000
set_option maxHeartbeats 1000000
namespace Go.Proofs.YtoidpggbbfncpaaGreatDoor
open Go Go.Ing Go.RowKit Go.ChangeShapes Go.WideShapes Go.ChangeAt
theorem own : ownKnob Tryz.prog.godebug = none := by kernel_rfl
theorem laidOut : laidOutB Tryz.prog = true := by kernel_rfl
theorem Ew : (Rows.laid_internal_strconv_uint64pow10 : DataW Unit) = Lib.tabData .u64 Lib.pow10Tab := by kernel_rfl
theorem Ee : ("internal/strconv.uint64pow10", (Lib.tabData .u64 Lib.pow10Tab : DataW Unit)) ∈ Rows.topMemoryRow.laid := Ew ▸ (.tail _ (.tail _ (.head _)))
theorem GB : (Rows.laid_inglenook_words_verbs : DataW Unit) = K7 AI.F9 := by kernel_rfl
theorem Ff : ("inglenook/words.verbs", (K7 AI.F9 : DataW Unit)) ∈ Rows.topMemoryRow.laid := GB ▸ (.tail _ (.tail _ (.tail _ (.tail _ (.tail _ (.tail _ (.head _)))))))
theorem G8 : ("strconv.ErrSyntax", (Rows.laid_strconv_ErrSyntax : DataW Unit)) ∈ Rows.topMemoryRow.laid := .tail _ (.tail _ (.tail _ (.tail _ (.tail _ (.head _)))))
theorem HJ : ("strconv.ErrRange", (Rows.laid_strconv_ErrRange : DataW Unit)) ∈ Rows.topMemoryRow.laid := .tail _ (.tail _ (.tail _ (.tail _ (.head _))))
theorem bc {H : Type} {enc : TypeId × Value → H} {w : World} : Dc H enc Tryz.prog w (Ax) Fx 3 := Ya Tryz.underlying3
theorem cm {H : Type} {enc : TypeId × Value → H} {w : World} : Dc H enc Tryz.prog w (A4) J2 9 := UO Tryz.underlying9
theorem bF {H : Type} {enc : TypeId × Value → H} {w : World} : Dc H enc Tryz.prog w (B4.enc) B4.wf 41 := B4.dc Tryz.underlying41 (by kernel_rfl) rfl (by kernel_rfl) bc rfl (by kernel_rfl) bc rfl (by kernel_rfl) bc rfl (by kernel_rfl) cm
theorem KU {t0 : Nat} (f : Hd) (l : List B4) (hu : ∀ a ∈ l, a.bytes.length ≤ 140737488351232) (w : World) (r0 : Rd w f t0 4 (l.flatMap B4.enc)) (gl0 : GV 2 E7 w) (gl1 : GV 0 AI.C2 w) (gl2 : F2 7 w) (gl3 : F2 8 w) : EG Tryz.prog 14 #[f.val] w fun v w' => v = .bool true ∧ B6 w w' := by
 refine Ai [] [] Tryz.func14 rfl rfl rfl (St.start w []) ?_
 refine Gs (Ga rfl (Gn (.t1 0) (Gs ?_)))
 refine Ag rfl YV .n .n (G5 ) (fun v1 B hv => ?_)
 obtain ⟨y2, y3, y4, y5, rfl, y6, rfl⟩ := hv
 refine BB rfl bM rfl (fun b1 => ?_)
 refine AQ (UF rfl rfl rfl rfl cE .h) ?_
 refine Gn (.t2 0 3) (Gs (Gm rfl (Gt (Qp (.c rfl .n)) ?_)))
 refine BF rfl bw (.c rfl (.c rfl .n)) (.c .h (.c .h (.c .h (.c .h .n)))) (OS _ y2 y3 y4 y5 f l hu y6) (fun w hS => ⟨Rd.pull r0 hS (.c .h (.c .h (.c .h (.c .h .n)))), gl0.pull (by simp) hS (.c .h (.c .h (.c .h (.c .h .n)))), gl1.pull (by simp) hS (.c .h (.c .h (.c .h (.c .h .n)))), gl2.pull (by simp) hS (.c .h (.c .h (.c .h (.c .h .n)))), gl3.pull (by simp) hS (.c .h (.c .h (.c .h (.c .h .n))))⟩) (fun v8 B hv => ?_)
 obtain ⟨y9, rfl, rfl⟩ := hv
 refine Gm rfl (Gt (AL rfl rfl) (Gt (AL rfl rfl) (Ga rfl (Ga rfl (Gn (.t1 5) (Gs (Gm rfl ?_)))))))
 refine Ga rfl (Gn (.t1 2) (Ac ?_))
 refine AY rfl (.tmp rfl .n) ?_
 intro w1 hS; refine ⟨?_, hS.Am⟩; rfl
mutual
def KF {H : Type} : DataW H → List Value
  | .lit (.int k n) => [.int k n]
  | .lit (.string bs) => [.string ⟨bs.toArray⟩]
  | .lit (.bool b) => [.bool b]
  | .agg ps => P3 ps
  | _ => []
def P3 {H : Type} : List (DataW H) → List Value
  | [] => []
  | d :: r => KF d ++ P3 r
end
def Py {H : Type} : DataW H → List Value
  | .iface _ (.ptr (.agg ps)) => P3 ps
  | _ => []
noncomputable def low : Nat := (World.holding Tryz.prog default ⟨#[], #[], []⟩).heap.size
noncomputable def Lo (os : Os) : World := { World.holding Tryz.prog os ⟨#[.cells (Py (Rows.laid_strconv_ErrRange : DataW Unit)).toArray 252, .cells (Py (Rows.laid_strconv_ErrSyntax : DataW Unit)).toArray 252], #[], []⟩ with heap := (((((((((World.holding Tryz.prog os ⟨#[.cells (Py (Rows.laid_strconv_ErrRange : DataW Unit)).toArray 252, .cells (Py (Rows.laid_strconv_ErrSyntax : DataW Unit)).toArray 252], #[], []⟩).heap.modify 8 fun o => match o with | .cells _ t frozen => .cells #[.iface 250 (.pointer (some ⟨low + 0, 0, none⟩))] t frozen | o => o).modify 7 fun o => match o with | .cells _ t frozen => .cells #[.iface 250 (.pointer (some ⟨low + 1, 0, none⟩))] t frozen | o => o).modify 3 fun o => match o with | .cells _ t frozen => .cells (KF (Rows.laid_math_bits_deBruijn32tab : DataW Unit)).toArray t frozen | o => o).modify 4 fun o => match o with | .cells _ t frozen => .cells (KF (Rows.laid_math_bits_deBruijn64tab : DataW Unit)).toArray t frozen | o => o).modify 2 fun o => match o with | .cells _ t frozen => .cells (KF (Rows.laid_internal_strconv_uint64pow10 : DataW Unit)).toArray t frozen | o => o).modify 6 fun o => match o with | .cells _ t frozen => .cells (KF (Rows.laid_unicode_utf8_acceptRanges : DataW Unit)).toArray t frozen | o => o).modify 0 fun o => match o with | .cells _ t frozen => .cells (KF (Rows.laid_inglenook_words_verbs : DataW Unit)).toArray t frozen | o => o).modify 5 fun o => match o with | .cells _ t frozen => .cells (KF (Rows.laid_unicode_utf8_first : DataW Unit)).toArray t frozen | o => o) }
set_option maxRecDepth 100000 in
theorem VG (os : Os) : laidMet Tryz.prog Rows.topMemoryRow.laid ((Lo os).forCall (fun _ _ => 0) ⟨#[], #[.slice none 0 0], []⟩).memory :=
  laidMet_of_run' 8 (by kernel_rfl) (by kernel_rfl)
set_option maxRecDepth 100000 in
theorem reads (os : Os) {H : Type} (enc : TypeId × Value → H) : ∃ places, DataW.whole enc Tryz.prog ((Lo os).forCall (fun _ _ => 0) ⟨#[], #[.slice none 0 0], []⟩).memory Tryz.f14.params.toList Rows.topMemorySpec.vars false (#[.slice none 0 0] : Array Value).toList 8 = some ([.nil], [], places) := ⟨[], by kernel_rfl⟩
set_option maxRecDepth 100000 in
theorem Lq (os : Os) (started : os.Started) (H : Type) (enc : TypeId × Value → H) (F : Stop.Interp) :
    ReturnsInHanded {} Tryz.checked os 14 .any ((OpenSpec.ofChange Rows.topMemorySpec).preRow enc Tryz.prog Tryz.f14 Rows.topMemoryRow.domain false Rows.topMemoryRow.laid) (((OpenSpec.ofChange Rows.topMemorySpec).at F).post enc Tryz.prog Tryz.f14 false true false false) := by
  obtain ⟨places, hx⟩ := reads os enc
  refine returnsInHanded_of_row (C := Tryz.checked) (s := (OpenSpec.ofChange Rows.topMemorySpec)) own started (by kernel_rfl) Tryz.func14
    (witness_row_at (enc := enc) (C := Tryz.checked) false (Lo os) #[.slice none 0 0] rfl (by kernel_rfl) (by kernel_rfl) (by kernel_rfl)
      (OpenSpec.preRow_of_cond 8 hx (by kernel_rfl) (fun k hk => by cases hk) (by kernel_rfl) (VG os))) ?_
  intro W base args ds gs before hval hW _ hcond hsz hL _ _
  refine WN (B := 4) laidOut (by kernel_rfl) Tryz.underlying4 (by kernel_rfl) rfl (fun ds h => by rw [Tryz.params14] at h; match ds, h with | [d1], _ => rfl) hW ?_
  obtain ⟨p, q, hA, hV, _, _, _⟩ := hW
  rw [Tryz.params14] at hA
  obtain ⟨v0, vs0, d0, ds0, p0, q0, hv0, rfl, rfl, hd0, hA⟩ := trodAll_cons hA
  obtain ⟨hvn, rfl, rfl⟩ := trodAll_nil hA
  obtain rfl : args = #[v0] := by cases args; simp_all
  obtain ⟨f, rfl, w0⟩ := Xg Tryz.underlying22 (hval 0 _ _ rfl rfl) (by kernel_rfl) (by decide) B4.fl bF hd0
  obtain ⟨_, l, r0, hl0, k0, hm0, hw0⟩ := w0
  exact KU _ _ (by exact Sl Tryz.underlying22 Tryz.underlying41 rfl Tryz.underlying9 (by kernel_rfl) (by kernel_rfl) hd0 r0 (Uc hsz (j := 0) rfl rfl)) W r0 (XP hL Ee (by kernel_rfl) (by kernel_rfl) Tryz.underlying205 Tryz.underlying173 (by kernel_rfl) (by kernel_rfl)) (XY hL Ff (by kernel_rfl) (by kernel_rfl) Tryz.underlying133 Tryz.underlying9 (by kernel_rfl) (by kernel_rfl)) (cX hL G8 rfl (by kernel_rfl) (by kernel_rfl) Tryz.underlying109) (cX hL HJ rfl (by kernel_rfl) (by kernel_rfl) Tryz.underlying109)
theorem NH : Rows.TopMemorySaid :=
  OpenClaim.holds_of_cond 14 Tryz.f14 rfl rfl rfl rfl rfl rfl rfl ⟨rfl, rfl, rfl, rfl, rfl⟩ rfl rfl rfl rfl rfl (by kernel_rfl) Tryz.func14 (by kernel_rfl)
    (of_decide_eq_true (by kernel_rfl)) (by unfold Func.isWrapper; first | (rw [if_pos (by decide +kernel)]; kernel_rfl) | (rw [if_neg (by decide +kernel)]; exact ⟨rfl, rfl⟩))
    (fun os started H enc _ F => by rw [OpenClaim.pre_eq_preRow]; exact Lq os started H enc F)
theorem Tt (f : FuncId) (fn : Func) (hf : Tryz.pinned.checked.prog.funcNamed "inglenook/inglenooktop.TopMemory" = some f) (hfn : Tryz.pinned.checked.prog.funcs[f]? = some fn) :
    true = Tryz.pinned.checked.prog.looks [] ∧ ∀ (j : Nat) t, fn.params[j]? = some t → Tryz.pinned.checked.prog.wantsStandIn t = false := by
  obtain rfl : f = 14 := Option.some.inj ((show Tryz.prog.funcNamed "inglenook/inglenooktop.TopMemory" = some 14 by kernel_rfl).symm.trans hf) |>.symm
  obtain rfl : fn = Tryz.f14 := (Option.some.inj (Tryz.func14.symm.trans hfn)).symm
  refine ⟨by kernel_rfl, fun j t ht => ?_⟩
  rw [Tryz.params14] at ht
  have hm : t ∈ [22] := by simpa using Array.mem_of_getElem? ht
  have hall : ([22].all fun u => !Tryz.prog.wantsStandIn u) = true := by kernel_rfl
  exact (show Tryz.prog.wantsStandIn t = false by simpa using List.all_eq_true.1 hall t hm)
theorem topMemory_holds : Rows.TopMemoryCardSaid :=
  Claim7.holds_tied_plain_at .later [] _ _ _ _ NH (fun _ h => by cases h) (by kernel_rfl) (fun _ h => by cases h) topMemory_row_tie rfl ⟨rfl, rfl⟩ (by kernel_rfl) rfl Tt (by kernel_rfl)
end Go.Proofs.YtoidpggbbfncpaaGreatDoor
