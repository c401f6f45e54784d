/- For every input the law TopFar returns true. No condition. -/
import Derived.Test.YtoidpggbbfncpaaGreatDoorCards
import Derived.Test.YtoidpggbbfncpaaGreatDoorTie
import Derived.Deep.DeepHandedRow
import Derived.Test.YtoidpggbbfncpaaGreatDoorRows
import Derived.Test.YtoidpggbbfncpaaGreatDoorTopFarWalks
import Derived.Test.YtoidpggbbfncpaaGreatDoorTopFarWalks2
import Derived.Test.YtoidpggbbfncpaaGreatDoorTopFarWalks3
import Derived.Test.YtoidpggbbfncpaaGreatDoorTopFarWalks4
import Derived.Test.YtoidpggbbfncpaaGreatDoorTopFarWalks5
import Derived.Test.YtoidpggbbfncpaaGreatDoorTopFarWalks6
import Derived.Test.YtoidpggbbfncpaaGreatDoorTopFarEc3
import Derived.Test.YtoidpggbbfncpaaGreatDoorTopFarRa1
import Derived.Test.YtoidpggbbfncpaaGreatDoorTopFarRb1
import Derived.Test.YtoidpggbbfncpaaGreatDoorTopFarRc1
set_option linter.unusedSimpArgs false
set_option linter.unusedVariables false
set_option maxRecDepth 100000
set_option maxHeartbeats 1000000
namespace Go.Proofs.YtoidpggbbfncpaaGreatDoor
open Go Go.Ing Go.RowKit Go.ChangeShapes Go.WideShapes Go.ChangeAt
theorem own : ownKnob Tryz.prog.godebug = none := by kernel_rfl
theorem laidOut : laidOutB Tryz.prog = true := by kernel_rfl
theorem E8 : (Rows.laid_internal_strconv_uint64pow10 : DataW Unit) = Lib.tabData .u64 Lib.pow10Tab := by kernel_rfl
theorem Eo : ("internal/strconv.uint64pow10", (Lib.tabData .u64 Lib.pow10Tab : DataW Unit)) ∈ Rows.topFarRow.laid := E8 ▸ (.tail _ (.tail _ (.head _)))
theorem Gj : (Rows.laid_inglenook_words_verbs : DataW Unit) = Lc AH.Ge := by kernel_rfl
theorem GD : ("inglenook/words.verbs", (Lc AH.Ge : DataW Unit)) ∈ Rows.topFarRow.laid := Gj ▸ (.tail _ (.tail _ (.tail _ (.tail _ (.tail _ (.tail _ (.head _)))))))
theorem HR : ("strconv.ErrSyntax", (Rows.laid_strconv_ErrSyntax : DataW Unit)) ∈ Rows.topFarRow.laid := .tail _ (.tail _ (.tail _ (.tail _ (.tail _ (.head _)))))
theorem Hp : ("strconv.ErrRange", (Rows.laid_strconv_ErrRange : DataW Unit)) ∈ Rows.topFarRow.laid := .tail _ (.tail _ (.tail _ (.tail _ (.head _))))
theorem eT {H : Type} {enc : TypeId × Value → H} {w : World} : Dc H enc Tryz.prog w (Aq) GU 3 := aq Tryz.underlying3
theorem fA {H : Type} {enc : TypeId × Value → H} {w : World} : Dc H enc Tryz.prog w (A8) Kf 9 := WQ Tryz.underlying9
theorem dr {H : Type} {enc : TypeId × Value → H} {w : World} : Dc H enc Tryz.prog w (Bz.enc) Bz.wf 41 := Bz.dc Tryz.underlying41 (by kernel_rfl) rfl (by kernel_rfl) eT rfl (by kernel_rfl) eT rfl (by kernel_rfl) eT rfl (by kernel_rfl) fA
theorem NK {t0 : Nat} (f : Hd) (l : List Bz) (hu : ∀ a ∈ l, a.bytes.length ≤ 140737488351232) (w : World) (r0 : Rd w f t0 4 (l.flatMap Bz.enc)) (gl0 : GV 2 Fp w) (gl1 : GV 0 AH.DJ w) (gl2 : Gu 7 w) (gl3 : Gu 8 w) : Ed Tryz.prog 8 #[f.val] w fun v w' => v = .bool true ∧ CA w w' := by
 refine Ak [] [] Tryz.func8 rfl rfl rfl (St.start w []) ?_
 refine Gs (Ga rfl (Gn (.t1 0) (Gs ?_)))
 refine BD rfl cH rfl (fun b1 => ?_)
 refine BD rfl cH rfl (fun b2 => ?_)
 refine AQ (AA (CG (Gm rfl (AQ (AA (Ae ?_))))))
 refine Bn (.t4 8 0 3 4) ?_
 refine Gg (fun (k : Int) (T1 : Vector Int 4) => 0 ≤ k ∧ k ≤ 4 ∧ LQ (fun _ => -1) (Vector.replicate 4 default) T1 k) (fun (k : Int) (T1 : Vector Int 4) => (4 - k).toNat) (fun (k : Int) (T1 : Vector Int 4) => [(8, .int .i64 k)]) (fun (k : Int) (T1 : Vector Int 4) => [Ab.box b2 49 (Bx (n := 4) Aq T1)]) (0) ((Vector.replicate 4 default)) ?_ rfl rfl (fun k T1 hI1 => ?_)
 · exact ⟨by omega, by omega, .start _ _⟩
 obtain ⟨hI11, hI12, hI13⟩ := hI1
 refine Gs (Gt (A7 rfl rfl) (AQ (AA (Ao ?_))))
 refine Gc (fun c1 => ?_) (fun c1 => ?_)
 ·
  have c1p := kz c1
  refine Aa ?_
  refine AB (.t4 0 3 4 8) ?_
  refine AA (Ao (Ae (Gs (Gm rfl (Ga rfl (Gn (.t5 0 3 4 5 8) (AJ ?_)))))))
  refine Gm rfl ?_
  refine Gt (AR UA rfl rfl (by omega) (by omega)) ?_
  refine AT (AK ((AU.id (HL Bu).len (HL Bu).one).comp (AU.ar (n := 4) Bu (by omega))) rfl rfl rfl C6 rfl .h) ?_
  refine AQ (AB (.t4 0 3 4 8) ?_)
  refine AV (AA (AJ ?_))
  refine Gt (Av rfl rfl (IntWalk.i64_in _ (by omega))) ?_
  refine Gm rfl ?_
  refine AQ (AB (.t4 0 3 4 8) ?_)
  refine DO (k + 1) _ ?_ ?_ (.t4 8 0 3 4) (.refl _)
  · exact ⟨by omega, by omega, hI13.next (by omega) (by omega) rfl⟩
  · omega
 have c1p := kz c1
 obtain rfl : k = 4 := by omega
 refine Bb (AW (AW (Ag ?_)))
 refine AB (.t3 0 3 4) ?_
 refine AA (Gs (Gm rfl (Gt (Rb (.c rfl (.c rfl .n))) ?_)))
 refine BF rfl eN (.c rfl (.c rfl .n)) (.c .h (.c .h .n)) (Pl _ _ T1 (fun j j0 j1 => by rw [hI13 j j0 j1, if_pos j1]) f l hu) (fun w hS => ⟨Rd.pull r0 hS (.c .h (.c .h .n)), gl0.pull (by simp) hS (.c .h (.c .h .n)), gl1.pull (by simp) hS (.c .h (.c .h .n)), gl2.pull (by simp) hS (.c .h (.c .h .n)), gl3.pull (by simp) hS (.c .h (.c .h .n))⟩) (fun v1 B hv => ?_)
 obtain ⟨y2, rfl, rfl⟩ := hv
 refine Gm rfl (Gt (AN rfl rfl) (Gt (AN rfl rfl) (Ga rfl (Ga rfl (Gn (.t1 7) (Gs (Gm rfl ?_)))))))
 refine Ga rfl (Gn (.t1 2) (Ac ?_))
 refine AY rfl (.tmp rfl .n) ?_
 intro w1 hS; refine ⟨?_, hS.Am⟩; rfl
mutual
def K0 {H : Type} : DataW H → List Value
  | .lit (.int k n) => [.int k n]
  | .lit (.string bs) => [.string ⟨bs.toArray⟩]
  | .lit (.bool b) => [.bool b]
  | .agg ps => RF ps
  | _ => []
def RF {H : Type} : List (DataW H) → List Value
  | [] => []
  | d :: r => K0 d ++ RF r
end
def RP {H : Type} : DataW H → List Value
  | .iface _ (.ptr (.agg ps)) => RF ps
  | _ => []
noncomputable def low : Nat := (World.holding Tryz.prog default ⟨#[], #[], []⟩).heap.size
noncomputable def Me (os : Os) : World := { World.holding Tryz.prog os ⟨#[.cells (RP (Rows.laid_strconv_ErrRange : DataW Unit)).toArray 252, .cells (RP (Rows.laid_strconv_ErrSyntax : DataW Unit)).toArray 252], #[], []⟩ with heap := (((((((((World.holding Tryz.prog os ⟨#[.cells (RP (Rows.laid_strconv_ErrRange : DataW Unit)).toArray 252, .cells (RP (Rows.laid_strconv_ErrSyntax : DataW Unit)).toArray 252], #[], []⟩).heap.modify 8 fun o => match o with | .cells _ t frozen => .cells #[.iface 250 (.pointer (some ⟨low + 0, 0, none⟩))] t frozen | o => o).modify 7 fun o => match o with | .cells _ t frozen => .cells #[.iface 250 (.pointer (some ⟨low + 1, 0, none⟩))] t frozen | o => o).modify 3 fun o => match o with | .cells _ t frozen => .cells (K0 (Rows.laid_math_bits_deBruijn32tab : DataW Unit)).toArray t frozen | o => o).modify 4 fun o => match o with | .cells _ t frozen => .cells (K0 (Rows.laid_math_bits_deBruijn64tab : DataW Unit)).toArray t frozen | o => o).modify 2 fun o => match o with | .cells _ t frozen => .cells (K0 (Rows.laid_internal_strconv_uint64pow10 : DataW Unit)).toArray t frozen | o => o).modify 6 fun o => match o with | .cells _ t frozen => .cells (K0 (Rows.laid_unicode_utf8_acceptRanges : DataW Unit)).toArray t frozen | o => o).modify 0 fun o => match o with | .cells _ t frozen => .cells (K0 (Rows.laid_inglenook_words_verbs : DataW Unit)).toArray t frozen | o => o).modify 5 fun o => match o with | .cells _ t frozen => .cells (K0 (Rows.laid_unicode_utf8_first : DataW Unit)).toArray t frozen | o => o) }
set_option maxRecDepth 100000 in
theorem Xp (os : Os) : laidMet Tryz.prog Rows.topFarRow.laid ((Me os).forCall (fun _ _ => 0) ⟨#[], #[.slice none 0 0], []⟩).memory :=
  laidMet_of_run' 8 (by kernel_rfl) (by kernel_rfl)
set_option maxRecDepth 100000 in
theorem reads (os : Os) {H : Type} (enc : TypeId × Value → H) : ∃ places, DataW.whole enc Tryz.prog ((Me os).forCall (fun _ _ => 0) ⟨#[], #[.slice none 0 0], []⟩).memory Tryz.f8.params.toList Rows.topFarSpec.vars false (#[.slice none 0 0] : Array Value).toList 8 = some ([.nil], [], places) := ⟨[], by kernel_rfl⟩
set_option maxRecDepth 100000 in
theorem Pd (os : Os) (started : os.Started) (H : Type) (enc : TypeId × Value → H) (F : Stop.Interp) :
    ReturnsInHanded {} Tryz.checked os 8 .any ((OpenSpec.ofChange Rows.topFarSpec).preRow enc Tryz.prog Tryz.f8 Rows.topFarRow.domain false Rows.topFarRow.laid) (((OpenSpec.ofChange Rows.topFarSpec).at F).post enc Tryz.prog Tryz.f8 false true false false) := by
  obtain ⟨places, hx⟩ := reads os enc
  refine returnsInHanded_of_row (C := Tryz.checked) (s := (OpenSpec.ofChange Rows.topFarSpec)) own started (by kernel_rfl) Tryz.func8
    (witness_row_at (enc := enc) (C := Tryz.checked) false (Me os) #[.slice none 0 0] rfl (by kernel_rfl) (by kernel_rfl) (by kernel_rfl)
      (OpenSpec.preRow_of_cond 8 hx (by kernel_rfl) (fun k hk => by cases hk) (by kernel_rfl) (Xp os))) ?_
  intro W base args ds gs before hval hW _ hcond hsz hL _ _
  refine YB (B := 4) laidOut (by kernel_rfl) Tryz.underlying4 (by kernel_rfl) rfl (fun ds h => by rw [Tryz.params8] at h; match ds, h with | [d1], _ => rfl) hW ?_
  obtain ⟨p, q, hA, hV, _, _, _⟩ := hW
  rw [Tryz.params8] at hA
  obtain ⟨v0, vs0, d0, ds0, p0, q0, hv0, rfl, rfl, hd0, hA⟩ := trodAll_cons hA
  obtain ⟨hvn, rfl, rfl⟩ := trodAll_nil hA
  obtain rfl : args = #[v0] := by cases args; simp_all
  obtain ⟨f, rfl, w0⟩ := ZK Tryz.underlying22 (hval 0 _ _ rfl rfl) (by kernel_rfl) (by decide) Bz.fl dr hd0
  obtain ⟨_, l, r0, hl0, k0, hm0, hw0⟩ := w0
  exact NK _ _ (by exact Tu Tryz.underlying22 Tryz.underlying41 rfl Tryz.underlying9 (by kernel_rfl) (by kernel_rfl) hd0 r0 (WI hsz (j := 0) rfl rfl)) W r0 (Yz hL Eo (by kernel_rfl) (by kernel_rfl) Tryz.underlying205 Tryz.underlying173 (by kernel_rfl) (by kernel_rfl)) (Ye hL GD (by kernel_rfl) (by kernel_rfl) Tryz.underlying133 Tryz.underlying9 (by kernel_rfl) (by kernel_rfl)) (ed hL HR rfl (by kernel_rfl) (by kernel_rfl) Tryz.underlying109) (ed hL Hp rfl (by kernel_rfl) (by kernel_rfl) Tryz.underlying109)
theorem Se : Rows.TopFarSaid :=
  OpenClaim.holds_of_cond 8 Tryz.f8 rfl rfl rfl rfl rfl rfl rfl ⟨rfl, rfl, rfl, rfl, rfl⟩ rfl rfl rfl rfl rfl (by kernel_rfl) Tryz.func8 (by kernel_rfl)
    (of_decide_eq_true (by kernel_rfl)) (by unfold Func.isWrapper; first | (rw [if_pos (by decide +kernel)]; kernel_rfl) | (rw [if_neg (by decide +kernel)]; exact ⟨rfl, rfl⟩))
    (fun os started H enc _ F => by rw [OpenClaim.pre_eq_preRow]; exact Pd os started H enc F)
theorem Vy (f : FuncId) (fn : Func) (hf : Tryz.pinned.checked.prog.funcNamed "inglenook/inglenooktop.TopFar" = some f) (hfn : Tryz.pinned.checked.prog.funcs[f]? = some fn) :
    true = Tryz.pinned.checked.prog.looks [] ∧ ∀ (j : Nat) t, fn.params[j]? = some t → Tryz.pinned.checked.prog.wantsStandIn t = false := by
  obtain rfl : f = 8 := Option.some.inj ((show Tryz.prog.funcNamed "inglenook/inglenooktop.TopFar" = some 8 by kernel_rfl).symm.trans hf) |>.symm
  obtain rfl : fn = Tryz.f8 := (Option.some.inj (Tryz.func8.symm.trans hfn)).symm
  refine ⟨by kernel_rfl, fun j t ht => ?_⟩
  rw [Tryz.params8] at ht
  have hm : t ∈ [22] := by simpa using Array.mem_of_getElem? ht
  have hall : ([22].all fun u => !Tryz.prog.wantsStandIn u) = true := by kernel_rfl
  exact (show Tryz.prog.wantsStandIn t = false by simpa using List.all_eq_true.1 hall t hm)
theorem topFar_holds : Rows.TopFarCardSaid :=
  Claim7.holds_tied_plain_at .later [] _ _ _ _ Se (fun _ h => by cases h) (by kernel_rfl) (fun _ h => by cases h) topFar_row_tie rfl ⟨rfl, rfl⟩ (by kernel_rfl) rfl Vy (by kernel_rfl)
end Go.Proofs.YtoidpggbbfncpaaGreatDoor
