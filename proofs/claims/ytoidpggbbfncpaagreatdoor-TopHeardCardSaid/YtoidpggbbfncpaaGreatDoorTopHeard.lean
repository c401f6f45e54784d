/- For every input the law TopHeard returns true. No condition. -/
import Derived.Test.YtoidpggbbfncpaaGreatDoorCards
import Derived.Test.YtoidpggbbfncpaaGreatDoorTie
import Derived.Deep.DeepHandedRow
import Derived.Test.YtoidpggbbfncpaaGreatDoorRows
import Derived.Test.YtoidpggbbfncpaaGreatDoorTopHeardWalks
import Derived.Test.YtoidpggbbfncpaaGreatDoorTopHeardWalks2
import Derived.Test.YtoidpggbbfncpaaGreatDoorTopHeardWalks3
import Derived.Test.YtoidpggbbfncpaaGreatDoorTopHeardWalks4
import Derived.Test.YtoidpggbbfncpaaGreatDoorTopHeardWalks5
import Derived.Test.YtoidpggbbfncpaaGreatDoorTopHeardWalks6
import Derived.Test.YtoidpggbbfncpaaGreatDoorTopHeardEc3
import Derived.Test.YtoidpggbbfncpaaGreatDoorTopHeardRa1
import Derived.Test.YtoidpggbbfncpaaGreatDoorTopHeardRb1
import Derived.Test.YtoidpggbbfncpaaGreatDoorTopHeardRc1
set_option linter.unusedSimpArgs false
set_option linter.unusedVariables false
set_option maxRecDepth 100000
set_option maxHeartbeats 1000000
namespace Go.Proofs.YtoidpggbbfncpaaGreatDoor
open Go Go.Ing Go.RowKit Go.ChangeShapes Go.WideShapes Go.ChangeAt
theorem own : ownKnob Tryz.prog.godebug = none := by kernel_rfl
theorem laidOut : laidOutB Tryz.prog = true := by kernel_rfl
theorem FE : (Rows.laid_internal_strconv_uint64pow10 : DataW Unit) = Lib.tabData .u64 Lib.pow10Tab := by kernel_rfl
theorem Et : ("internal/strconv.uint64pow10", (Lib.tabData .u64 Lib.pow10Tab : DataW Unit)) ∈ Rows.topHeardRow.laid := FE ▸ (.tail _ (.tail _ (.head _)))
theorem Gh : (Rows.laid_inglenook_words_verbs : DataW Unit) = LU AG.Gj := by kernel_rfl
theorem GH : ("inglenook/words.verbs", (LU AG.Gj : DataW Unit)) ∈ Rows.topHeardRow.laid := Gh ▸ (.tail _ (.tail _ (.tail _ (.tail _ (.tail _ (.tail _ (.head _)))))))
theorem HU : ("strconv.ErrSyntax", (Rows.laid_strconv_ErrSyntax : DataW Unit)) ∈ Rows.topHeardRow.laid := .tail _ (.tail _ (.tail _ (.tail _ (.tail _ (.head _)))))
theorem Hu : ("strconv.ErrRange", (Rows.laid_strconv_ErrRange : DataW Unit)) ∈ Rows.topHeardRow.laid := .tail _ (.tail _ (.tail _ (.tail _ (.head _))))
theorem fC {H : Type} {enc : TypeId × Value → H} {w : World} : Dc H enc Tryz.prog w (Aw) GR 3 := ba Tryz.underlying3
theorem gM {H : Type} {enc : TypeId × Value → H} {w : World} : Dc H enc Tryz.prog w (A7) Km 9 := Wf Tryz.underlying9
theorem fN {H : Type} {enc : TypeId × Value → H} {w : World} : Dc H enc Tryz.prog w (Bx.enc) Bx.wf 41 := Bx.dc Tryz.underlying41 (by kernel_rfl) rfl (by kernel_rfl) fC rfl (by kernel_rfl) fC rfl (by kernel_rfl) fC rfl (by kernel_rfl) gM
theorem L7 {t0 : Nat} (f : Hd) (l : List Bx) (hu : ∀ a ∈ l, a.bytes.length ≤ 140737488351232) (w : World) (r0 : Rd w f t0 4 (l.flatMap Bx.enc)) (gl0 : GV 2 Fa w) (gl1 : GV 0 AG.DE w) (gl2 : G0 7 w) (gl3 : G0 8 w) : Ej Tryz.prog 4 #[f.val] w fun v w' => v = .bool true ∧ CB w w' := by
 refine Al [] [] Tryz.func4 rfl rfl rfl (St.start w []) ?_
 refine Gs (Ga rfl (Gn (.t1 0) (Gs ?_)))
 refine BH rfl fI rfl (fun b1 => ?_)
 refine AQ (AA (CD (Gm rfl (AQ (AA (Ae ?_))))))
 refine Bl (.t3 7 0 3) ?_
 refine Fq (fun (k : Int) (T1 : Vector Int 4) => 0 ≤ k ∧ k ≤ 4 ∧ OB (fun _ => -1) (Vector.replicate 4 default) T1 k) (fun (k : Int) (T1 : Vector Int 4) => (4 - k).toNat) (fun (k : Int) (T1 : Vector Int 4) => [(7, .int .i64 k)]) (fun (k : Int) (T1 : Vector Int 4) => [Ac.box b1 49 (B3 (n := 4) Aw T1)]) (0) ((Vector.replicate 4 default)) ?_ rfl rfl (fun k T1 hI1 => ?_)
 · exact ⟨by omega, by omega, .start _ _⟩
 obtain ⟨hI11, hI12, hI13⟩ := hI1
 refine Gs (Gt (A8 rfl rfl) (AQ (AA (Ap ?_))))
 refine Gc (fun c1 => ?_) (fun c1 => ?_)
 ·
  have c1p := kz c1
  refine Aa ?_
  refine AB (.t3 0 3 7) ?_
  refine AA (Ap (Ae (Gs (Gm rfl (Ga rfl (Gn (.t4 0 3 4 7) (AJ ?_)))))))
  refine Gm rfl ?_
  refine Gt (AS bR rfl rfl (by omega) (by omega)) ?_
  refine AT (AK ((AU.id (Iz B1).len (Iz B1).one).comp (AU.ar (n := 4) B1 (by omega))) rfl rfl rfl DB rfl .h) ?_
  refine AQ (AB (.t3 0 3 7) ?_)
  refine AW (AA (AJ ?_))
  refine Gt (Av rfl rfl (IntWalk.i64_in _ (by omega))) ?_
  refine Gm rfl ?_
  refine AQ (AB (.t3 0 3 7) ?_)
  refine C0 (k + 1) _ ?_ ?_ (.t3 7 0 3) (.refl _)
  · exact ⟨by omega, by omega, hI13.next (by omega) (by omega) rfl⟩
  · omega
 have c1p := kz c1
 obtain rfl : k = 4 := by omega
 refine Ba (AV (AV (Af ?_)))
 refine AB (.t2 0 3) ?_
 refine AA (Gs (Gm rfl (Gt (Rq (.c rfl .n)) ?_)))
 refine BE rfl fD (.c rfl (.c rfl .n)) (.c .h .n) (Ps _ T1 (fun j j0 j1 => by rw [hI13 j j0 j1, if_pos j1]) f l hu) (fun w hS => ⟨Rd.pull r0 hS (.c .h .n), gl0.pull (by simp) hS (.c .h .n), gl1.pull (by simp) hS (.c .h .n), gl2.pull (by simp) hS (.c .h .n), gl3.pull (by simp) hS (.c .h .n)⟩) (fun v1 B hv => ?_)
 obtain ⟨y2, rfl, rfl⟩ := hv
 refine Gm rfl (Gt (AM rfl rfl) (Gt (AM rfl rfl) (Ga rfl (Ga rfl (Gn (.t1 6) (Gs (Gm rfl ?_)))))))
 refine Ga rfl (Gn (.t1 2) (Ab ?_))
 refine AY rfl (.tmp rfl .n) ?_
 intro w1 hS; refine ⟨?_, hS.Ak⟩; rfl
mutual
def K1 {H : Type} : DataW H → List Value
  | .lit (.int k n) => [.int k n]
  | .lit (.string bs) => [.string ⟨bs.toArray⟩]
  | .lit (.bool b) => [.bool b]
  | .agg ps => RZ ps
  | _ => []
def RZ {H : Type} : List (DataW H) → List Value
  | [] => []
  | d :: r => K1 d ++ RZ r
end
def Rg {H : Type} : DataW H → List Value
  | .iface _ (.ptr (.agg ps)) => RZ ps
  | _ => []
noncomputable def low : Nat := (World.holding Tryz.prog default ⟨#[], #[], []⟩).heap.size
noncomputable def Mt (os : Os) : World := { World.holding Tryz.prog os ⟨#[.cells (Rg (Rows.laid_strconv_ErrRange : DataW Unit)).toArray 252, .cells (Rg (Rows.laid_strconv_ErrSyntax : DataW Unit)).toArray 252], #[], []⟩ with heap := (((((((((World.holding Tryz.prog os ⟨#[.cells (Rg (Rows.laid_strconv_ErrRange : DataW Unit)).toArray 252, .cells (Rg (Rows.laid_strconv_ErrSyntax : DataW Unit)).toArray 252], #[], []⟩).heap.modify 8 fun o => match o with | .cells _ t frozen => .cells #[.iface 250 (.pointer (some ⟨low + 0, 0, none⟩))] t frozen | o => o).modify 7 fun o => match o with | .cells _ t frozen => .cells #[.iface 250 (.pointer (some ⟨low + 1, 0, none⟩))] t frozen | o => o).modify 3 fun o => match o with | .cells _ t frozen => .cells (K1 (Rows.laid_math_bits_deBruijn32tab : DataW Unit)).toArray t frozen | o => o).modify 4 fun o => match o with | .cells _ t frozen => .cells (K1 (Rows.laid_math_bits_deBruijn64tab : DataW Unit)).toArray t frozen | o => o).modify 2 fun o => match o with | .cells _ t frozen => .cells (K1 (Rows.laid_internal_strconv_uint64pow10 : DataW Unit)).toArray t frozen | o => o).modify 6 fun o => match o with | .cells _ t frozen => .cells (K1 (Rows.laid_unicode_utf8_acceptRanges : DataW Unit)).toArray t frozen | o => o).modify 0 fun o => match o with | .cells _ t frozen => .cells (K1 (Rows.laid_inglenook_words_verbs : DataW Unit)).toArray t frozen | o => o).modify 5 fun o => match o with | .cells _ t frozen => .cells (K1 (Rows.laid_unicode_utf8_first : DataW Unit)).toArray t frozen | o => o) }
set_option maxRecDepth 100000 in
theorem Xo (os : Os) : laidMet Tryz.prog Rows.topHeardRow.laid ((Mt os).forCall (fun _ _ => 0) ⟨#[], #[.slice none 0 0], []⟩).memory :=
  laidMet_of_run' 8 (by kernel_rfl) (by kernel_rfl)
set_option maxRecDepth 100000 in
theorem reads (os : Os) {H : Type} (enc : TypeId × Value → H) : ∃ places, DataW.whole enc Tryz.prog ((Mt os).forCall (fun _ _ => 0) ⟨#[], #[.slice none 0 0], []⟩).memory Tryz.f4.params.toList Rows.topHeardSpec.vars false (#[.slice none 0 0] : Array Value).toList 8 = some ([.nil], [], places) := ⟨[], by kernel_rfl⟩
set_option maxRecDepth 100000 in
theorem NU (os : Os) (started : os.Started) (H : Type) (enc : TypeId × Value → H) (F : Stop.Interp) :
    ReturnsInHanded {} Tryz.checked os 4 .any ((OpenSpec.ofChange Rows.topHeardSpec).preRow enc Tryz.prog Tryz.f4 Rows.topHeardRow.domain false Rows.topHeardRow.laid) (((OpenSpec.ofChange Rows.topHeardSpec).at F).post enc Tryz.prog Tryz.f4 false true false false) := by
  obtain ⟨places, hx⟩ := reads os enc
  refine returnsInHanded_of_row (C := Tryz.checked) (s := (OpenSpec.ofChange Rows.topHeardSpec)) own started (by kernel_rfl) Tryz.func4
    (witness_row_at (enc := enc) (C := Tryz.checked) false (Mt os) #[.slice none 0 0] rfl (by kernel_rfl) (by kernel_rfl) (by kernel_rfl)
      (OpenSpec.preRow_of_cond 8 hx (by kernel_rfl) (fun k hk => by cases hk) (by kernel_rfl) (Xo os))) ?_
  intro W base args ds gs before hval hW _ hcond hsz hL _ _
  refine YF (B := 4) laidOut (by kernel_rfl) Tryz.underlying4 (by kernel_rfl) rfl (fun ds h => by rw [Tryz.params4] at h; match ds, h with | [d1], _ => rfl) hW ?_
  obtain ⟨p, q, hA, hV, _, _, _⟩ := hW
  rw [Tryz.params4] at hA
  obtain ⟨v0, vs0, d0, ds0, p0, q0, hv0, rfl, rfl, hd0, hA⟩ := trodAll_cons hA
  obtain ⟨hvn, rfl, rfl⟩ := trodAll_nil hA
  obtain rfl : args = #[v0] := by cases args; simp_all
  obtain ⟨f, rfl, w0⟩ := aA Tryz.underlying22 (hval 0 _ _ rfl rfl) (by kernel_rfl) (by decide) Bx.fl fN hd0
  obtain ⟨_, l, r0, hl0, k0, hm0, hw0⟩ := w0
  exact L7 _ _ (by exact Ts Tryz.underlying22 Tryz.underlying41 rfl Tryz.underlying9 (by kernel_rfl) (by kernel_rfl) hd0 r0 (We hsz (j := 0) rfl rfl)) W r0 (ZU hL Et (by kernel_rfl) (by kernel_rfl) Tryz.underlying205 Tryz.underlying173 (by kernel_rfl) (by kernel_rfl)) (Z9 hL GH (by kernel_rfl) (by kernel_rfl) Tryz.underlying133 Tryz.underlying9 (by kernel_rfl) (by kernel_rfl)) (gJ hL HU rfl (by kernel_rfl) (by kernel_rfl) Tryz.underlying109) (gJ hL Hu rfl (by kernel_rfl) (by kernel_rfl) Tryz.underlying109)
theorem Pj : Rows.TopHeardSaid :=
  OpenClaim.holds_of_cond 4 Tryz.f4 rfl rfl rfl rfl rfl rfl rfl ⟨rfl, rfl, rfl, rfl, rfl⟩ rfl rfl rfl rfl rfl (by kernel_rfl) Tryz.func4 (by kernel_rfl)
    (of_decide_eq_true (by kernel_rfl)) (by unfold Func.isWrapper; first | (rw [if_pos (by decide +kernel)]; kernel_rfl) | (rw [if_neg (by decide +kernel)]; exact ⟨rfl, rfl⟩))
    (fun os started H enc _ F => by rw [OpenClaim.pre_eq_preRow]; exact NU os started H enc F)
theorem V6 (f : FuncId) (fn : Func) (hf : Tryz.pinned.checked.prog.funcNamed "inglenook/inglenooktop.TopHeard" = some f) (hfn : Tryz.pinned.checked.prog.funcs[f]? = some fn) :
    true = Tryz.pinned.checked.prog.looks [] ∧ ∀ (j : Nat) t, fn.params[j]? = some t → Tryz.pinned.checked.prog.wantsStandIn t = false := by
  obtain rfl : f = 4 := Option.some.inj ((show Tryz.prog.funcNamed "inglenook/inglenooktop.TopHeard" = some 4 by kernel_rfl).symm.trans hf) |>.symm
  obtain rfl : fn = Tryz.f4 := (Option.some.inj (Tryz.func4.symm.trans hfn)).symm
  refine ⟨by kernel_rfl, fun j t ht => ?_⟩
  rw [Tryz.params4] at ht
  have hm : t ∈ [22] := by simpa using Array.mem_of_getElem? ht
  have hall : ([22].all fun u => !Tryz.prog.wantsStandIn u) = true := by kernel_rfl
  exact (show Tryz.prog.wantsStandIn t = false by simpa using List.all_eq_true.1 hall t hm)
theorem topHeard_holds : Rows.TopHeardCardSaid :=
  Claim7.holds_tied_plain_at .later [] _ _ _ _ Pj (fun _ h => by cases h) (by kernel_rfl) (fun _ h => by cases h) topHeard_row_tie rfl ⟨rfl, rfl⟩ (by kernel_rfl) rfl V6 (by kernel_rfl)
end Go.Proofs.YtoidpggbbfncpaaGreatDoor
