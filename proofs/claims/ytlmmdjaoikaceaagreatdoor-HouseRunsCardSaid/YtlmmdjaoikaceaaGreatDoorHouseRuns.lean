/- For every input the law HouseRuns returns true. No condition. -/
import Derived.Test.YtlmmdjaoikaceaaGreatDoorCards
import Derived.Test.YtlmmdjaoikaceaaGreatDoorTie
import Derived.Deep.DeepHandedRow
import Derived.Test.YtlmmdjaoikaceaaGreatDoorRows
import Derived.Test.YtlmmdjaoikaceaaGreatDoorHouseRunsWalks
import Derived.Test.YtlmmdjaoikaceaaGreatDoorHouseRunsWalks2
import Derived.Test.YtlmmdjaoikaceaaGreatDoorHouseRunsWalks3
import Derived.Test.YtlmmdjaoikaceaaGreatDoorHouseRunsWalks4
import Derived.Test.YtlmmdjaoikaceaaGreatDoorHouseRunsWalks5
import Derived.Test.YtlmmdjaoikaceaaGreatDoorHouseRunsWalks6
import Derived.Test.YtlmmdjaoikaceaaGreatDoorHouseRunsWalks7
import Derived.Test.YtlmmdjaoikaceaaGreatDoorHouseRunsWalks8
import Derived.Test.YtlmmdjaoikaceaaGreatDoorHouseRunsWalks9
import Derived.Test.YtlmmdjaoikaceaaGreatDoorHouseRunsWalks10
import Derived.Test.YtlmmdjaoikaceaaGreatDoorHouseRunsWalks11
import Derived.Test.YtlmmdjaoikaceaaGreatDoorHouseRunsWalks12
import Derived.Test.YtlmmdjaoikaceaaGreatDoorHouseRunsWalks13
import Derived.Test.YtlmmdjaoikaceaaGreatDoorHouseRunsEc3
import Derived.Test.YtlmmdjaoikaceaaGreatDoorHouseRunsRa1
import Derived.Test.YtlmmdjaoikaceaaGreatDoorHouseRunsRb1
import Derived.Test.YtlmmdjaoikaceaaGreatDoorHouseRunsRc1
import Derived.Test.YtlmmdjaoikaceaaGreatDoorHouseRunsRd1
set_option linter.unusedSimpArgs false
set_option linter.unusedVariables false
set_option maxRecDepth 100000
set_option maxHeartbeats 4000000
namespace Go.Proofs.YtlmmdjaoikaceaaGreatDoor
open Go Go.Ing Go.RowKit Go.ChangeShapes Go.WideShapes Go.ChangeAt
theorem own : ownKnob Tryz.prog.godebug = none := by kernel_rfl
theorem laidOut : laidOutB Tryz.prog = true := by kernel_rfl
theorem En : (Rows.laid_internal_strconv_uint64pow10 : DataW Unit) = Lib.tabData .u64 Lib.pow10Tab := by kernel_rfl
theorem Eh : ("internal/strconv.uint64pow10", (Lib.tabData .u64 Lib.pow10Tab : DataW Unit)) ∈ Rows.houseRunsRow.laid := En ▸ (.tail _ (.tail _ (.head _)))
theorem GU : (Rows.laid_inglenook_words_verbs : DataW Unit) = JZ AD.DE := by kernel_rfl
theorem Fz : ("inglenook/words.verbs", (JZ AD.DE : DataW Unit)) ∈ Rows.houseRunsRow.laid := GU ▸ (.tail _ (.tail _ (.tail _ (.tail _ (.tail _ (.tail _ (.tail _ (.head _))))))))
theorem Em : (Rows.laid_inglenook_inglenookref_verbs : DataW Unit) = JZ AD.DE := by kernel_rfl
theorem Eg : ("inglenook/inglenookref.verbs", (JZ AD.DE : DataW Unit)) ∈ Rows.houseRunsRow.laid := Em ▸ (.tail _ (.tail _ (.tail _ (.tail _ (.tail _ (.tail _ (.head _)))))))
theorem HS : ("strconv.ErrSyntax", (Rows.laid_strconv_ErrSyntax : DataW Unit)) ∈ Rows.houseRunsRow.laid := .tail _ (.tail _ (.tail _ (.tail _ (.tail _ (.head _)))))
theorem Hl : ("strconv.ErrRange", (Rows.laid_strconv_ErrRange : DataW Unit)) ∈ Rows.houseRunsRow.laid := .tail _ (.tail _ (.tail _ (.tail _ (.head _))))
theorem jL {H : Type} {enc : TypeId × Value → H} {w : World} : Dc H enc Tryz.prog w (AT) GI 3 := de Tryz.underlying3
theorem kE {H : Type} {enc : TypeId × Value → H} {w : World} : Dc H enc Tryz.prog w (Ac) LC 9 := W4 Tryz.underlying9
theorem jK {H : Type} {enc : TypeId × Value → H} {w : World} : Dc H enc Tryz.prog w (Ba.enc) Ba.wf 28 := Ba.dc Tryz.underlying28 (by kernel_rfl) rfl (by kernel_rfl) jL rfl (by kernel_rfl) jL rfl (by kernel_rfl) jL rfl (by kernel_rfl) kE
theorem LY {t0 : Nat} (f : Hd) (l : List Ba) (hu : ∀ a ∈ l, a.bytes.length ≤ 140737488351232) (hm : l.length ≤ 7000000000000) (w : World) (r0 : Rd w f t0 4 (l.flatMap Ba.enc)) (gl0 : GV 3 Dw w) (gl1 : GV 1 AD.Bf w) (gl2 : GV 0 AD.Bf w) (gl3 : Ea 8 w) (gl4 : Ea 9 w) : Ck Tryz.prog 3 #[f.val] w fun v w' => v = .bool true ∧ BG w w' := by
 have hfl := r0.HQ Ba.fl (by decide)
 refine Rb Tryz.func3 ?_
 refine W ?_
 refine Lw Ba.enc 28 4 ?_
 refine HI (e := Ba.enc) J Tryz.underlying22 jU ja J jJ (by decide) J J (fun w hS => Src.Gu Tryz.underlying22 ((Kn.IW r0) w hS)) J J (by omega) (fun _ => .h) (fun h1 h1l => ?_)
 refine W ?_
 refine Cm .n (KB _ l hu) (fun v3 B hv => ?_) (fun _ => (fun w hS => ⟨(Kn.own .m0) w hS, gl0.pull (by simp) hS .n, gl1.pull (by simp) hS .n, gl3.pull (by simp) hS .n, gl4.pull (by simp) hS .n⟩))
 obtain ⟨y4, rfl, y5, rfl⟩ := hv
 refine W ?_
 intro b1
 refine Cm .n (KB _ [⟨99, 0, 0, []⟩] (fun a ha => by rw [List.mem_singleton.1 ha]; decide)) (fun v7 B hv => ?_) (fun _ => (fun w hS => ⟨(Kn.own .m0) w hS, gl0.pull (by simp) hS .n, gl1.pull (by simp) hS .n, gl3.pull (by simp) hS .n, gl4.pull (by simp) hS .n⟩))
 obtain ⟨y8, rfl, y9, rfl⟩ := hv
 refine W ?_
 refine ⟨fun c1 c1p => ?_, fun c1 c1p => ?_⟩
 ·
  have hx1 : y8.len = 1 := y9
  have hn : 400 < l.length := by omega
  have ha1 : y4.len = 0 := by rw [y5, AG.SQ hn]; rfl
  refine W ?_
  rw [AG.Wq hn, show ((y4.len : Int)) = 0 by omega, show ((y8.len : Int)) = 1 by omega]; rfl
 have hx1 : y8.len = 1 := y9
 have hn : l.length ≤ 400 := by omega
 have ha1 : y4.len = l.length := by rw [y5, AG.UH hn]
 refine W ?_
 refine Cl .n (MN ) (fun v11 B hv => ?_)
 obtain ⟨y12, y13, y14, y15, rfl, y16, rfl⟩ := hv
 refine W ?_
 refine Kf (by rw [AG.Wt hn, show ((y4.len : Int)) = f.len by omega, show ((y8.len : Int)) = 1 by omega]; simp) ?_
 refine W ?_
 refine Ag (.t4 8 0 3 7) ?_
 refine AX (.t (.t .h)) ?_
 refine AX (.t (.t .h)) ?_
 refine AX (.t (.t .h)) ?_
 refine Dd (fun (k : Int) (V1 : AE) (ls1 : Vector Af 4) (ev1 : List Ing.Event) => 0 ≤ k ∧ k ≤ (l.length : Int) ∧ AO V1 ls1 ev1 = (AG.new.run (l.take k.toNat)).1) (fun (k : Int) (V1 : AE) (ls1 : Vector Af 4) (ev1 : List Ing.Event) => ((l.length : Int) - k).toNat) (fun (k : Int) (V1 : AE) (ls1 : Vector Af 4) (ev1 : List Ing.Event) => [(8, .int .i64 k)]) (fun (k : Int) (V1 : AE) (ls1 : Vector Af 4) (ev1 : List Ing.Event) => [AJ.box y12 65 (AE.enc V1), AJ.CQ (BF 9 (AE.AQ V1) ls1), AJ.own (AE.last V1) 100 16 (ev1.flatMap Ing.Event.enc)]) (0) (y13) (y14) (y15) ?_ J J (fun k V1 ls1 ev1 hI1 => ?_)
 · exact ⟨by omega, by omega, y16⟩
 obtain ⟨hI11, hI12, hI13⟩ := hI1
 refine W ?_
 refine ⟨fun c2 c2p => ?_, fun c2 c2p => ?_⟩
 ·
  refine W ?_
  refine Cm (.c .h (.c .h (.c .h .n))) (MM y12 V1 ls1 ev1 (l.getD k.toNat default) (by rw [hI13]; exact AG.Live.run _ AG.Tt) (by have h := congrArg AG.Bg hI13; rw [AG.bu hI11 hI12 (by omega)] at h; have h9 : V1.Bg = k := h; omega) (hu _ (Ki (d := default) (xs := l) (i := k.toNat) (by omega)))) (fun v18 B hv => ?_) (fun _ => (fun w hS => ⟨gl0.pull (by simp) hS (.c .h (.c .h (.c .h .n))), gl1.pull (by simp) hS (.c .h (.c .h (.c .h .n))), gl2.pull (by simp) hS (.c .h (.c .h (.c .h .n))), gl3.pull (by simp) hS (.c .h (.c .h (.c .h .n))), gl4.pull (by simp) hS (.c .h (.c .h (.c .h .n)))⟩))
  obtain ⟨y19, y20, y21, rfl, y22, rfl⟩ := hv
  refine W ?_
  refine Kf (by rw [AG.SR hn, AG.aC hI11 (by omega), ← hI13]; simp) ?_
  refine W ?_
  refine BL (k + 1) _ _ _ ?_ ?_ (.t4 8 0 3 7) (.refl _)
  · exact ⟨by omega, by omega, by rw [AG.UL hI11 (by omega), ← hI13]; exact y22⟩
  · omega
 obtain rfl : k = (l.length : Int) := by omega
 refine W ?_
 rfl
mutual
def J4 {H : Type} : DataW H → List Value
  | .lit (.int k n) => [.int k n]
  | .lit (.string bs) => [.string ⟨bs.toArray⟩]
  | .lit (.bool b) => [.bool b]
  | .agg ps => Rn ps
  | _ => []
def Rn {H : Type} : List (DataW H) → List Value
  | [] => []
  | d :: r => J4 d ++ Rn r
end
def Ro {H : Type} : DataW H → List Value
  | .iface _ (.ptr (.agg ps)) => Rn ps
  | _ => []
noncomputable def low : Nat := (World.holding Tryz.prog default ⟨#[], #[], []⟩).heap.size
noncomputable def Mw (os : Os) : World := { World.holding Tryz.prog os ⟨#[.cells (Ro (Rows.laid_strconv_ErrRange : DataW Unit)).toArray 265, .cells (Ro (Rows.laid_strconv_ErrSyntax : DataW Unit)).toArray 265], #[], []⟩ with heap := ((((((((((World.holding Tryz.prog os ⟨#[.cells (Ro (Rows.laid_strconv_ErrRange : DataW Unit)).toArray 265, .cells (Ro (Rows.laid_strconv_ErrSyntax : DataW Unit)).toArray 265], #[], []⟩).heap.modify 9 fun o => match o with | .cells _ t frozen => .cells #[.iface 263 (.pointer (some ⟨low + 0, 0, none⟩))] t frozen | o => o).modify 8 fun o => match o with | .cells _ t frozen => .cells #[.iface 263 (.pointer (some ⟨low + 1, 0, none⟩))] t frozen | o => o).modify 6 fun o => match o with | .cells _ t frozen => .cells (J4 (Rows.laid_math_bits_deBruijn32tab : DataW Unit)).toArray t frozen | o => o).modify 7 fun o => match o with | .cells _ t frozen => .cells (J4 (Rows.laid_math_bits_deBruijn64tab : DataW Unit)).toArray t frozen | o => o).modify 3 fun o => match o with | .cells _ t frozen => .cells (J4 (Rows.laid_internal_strconv_uint64pow10 : DataW Unit)).toArray t frozen | o => o).modify 5 fun o => match o with | .cells _ t frozen => .cells (J4 (Rows.laid_unicode_utf8_acceptRanges : DataW Unit)).toArray t frozen | o => o).modify 0 fun o => match o with | .cells _ t frozen => .cells (J4 (Rows.laid_inglenook_inglenookref_verbs : DataW Unit)).toArray t frozen | o => o).modify 1 fun o => match o with | .cells _ t frozen => .cells (J4 (Rows.laid_inglenook_words_verbs : DataW Unit)).toArray t frozen | o => o).modify 4 fun o => match o with | .cells _ t frozen => .cells (J4 (Rows.laid_unicode_utf8_first : DataW Unit)).toArray t frozen | o => o) }
set_option maxRecDepth 100000 in
theorem Zj (os : Os) : laidMet Tryz.prog Rows.houseRunsRow.laid ((Mw os).forCall (fun _ _ => 0) ⟨#[], #[.slice none 0 0], []⟩).memory :=
  laidMet_of_run' 8 (by kernel_rfl) (by kernel_rfl)
set_option maxRecDepth 100000 in
theorem reads (os : Os) {H : Type} (enc : TypeId × Value → H) : ∃ places, DataW.whole enc Tryz.prog ((Mw os).forCall (fun _ _ => 0) ⟨#[], #[.slice none 0 0], []⟩).memory Tryz.f3.params.toList Rows.houseRunsSpec.vars false (#[.slice none 0 0] : Array Value).toList 8 = some ([.nil], [], places) := ⟨[], by kernel_rfl⟩
set_option maxRecDepth 100000 in
theorem Mu (os : Os) (started : os.Started) (H : Type) (enc : TypeId × Value → H) (F : Stop.Interp) :
    ReturnsInHanded {} Tryz.checked os 3 .any ((OpenSpec.ofChange Rows.houseRunsSpec).preRow enc Tryz.prog Tryz.f3 Rows.houseRunsRow.domain false Rows.houseRunsRow.laid) (((OpenSpec.ofChange Rows.houseRunsSpec).at F).post enc Tryz.prog Tryz.f3 false true false false) := by
  obtain ⟨places, hx⟩ := reads os enc
  refine returnsInHanded_of_row (C := Tryz.checked) (s := (OpenSpec.ofChange Rows.houseRunsSpec)) own started (by kernel_rfl) Tryz.func3
    (witness_row_at (enc := enc) (C := Tryz.checked) false (Mw os) #[.slice none 0 0] rfl (by kernel_rfl) (by kernel_rfl) (by kernel_rfl)
      (OpenSpec.preRow_of_cond 8 hx (by kernel_rfl) (fun k hk => by cases hk) (by kernel_rfl) (Zj os))) ?_
  intro W base args ds gs before hval hW _ hcond hsz hL hSh _
  refine Zk (B := 4) laidOut (by kernel_rfl) Tryz.underlying4 (by kernel_rfl) J (fun ds h => by rw [Tryz.params3] at h; match ds, h with | [d1], _ => rfl) hW ?_
  obtain ⟨p, q, hA, hV, _, _, _⟩ := hW
  rw [Tryz.params3] at hA
  obtain ⟨v0, vs0, d0, ds0, p0, q0, hv0, rfl, rfl, hd0, hA⟩ := trodAll_cons hA
  obtain ⟨hvn, rfl, rfl⟩ := trodAll_nil hA
  obtain rfl : args = #[v0] := by cases args; simp_all
  obtain ⟨f, rfl, w0⟩ := cx Tryz.underlying22 (hval 0 _ _ rfl rfl) (by kernel_rfl) (by decide) Ba.fl jK hd0
  obtain ⟨_, l, r0, hl0, k0, hm0, hw0⟩ := w0
  exact LY _ _ (by exact VE Tryz.underlying22 Tryz.underlying28 rfl Tryz.underlying9 (by kernel_rfl) (by kernel_rfl) hd0 r0 (Q6 hsz (j := 0) rfl rfl)) (by have hc := ZE Tryz.underlying22 hd0 (Q6 hsz (j := 0) rfl rfl); have hl9 := r0.HQ Ba.fl (by decide); rw [show Tryz.prog.bytesOf 28 = 40 from by kernel_rfl] at hc; have hrb : reachBytes = 140737488351232 := rfl; omega) W r0 (cR hL Eh (by kernel_rfl) (by kernel_rfl) Tryz.underlying235 Tryz.underlying226 (by kernel_rfl) (by kernel_rfl)) (Wa hL Fz (by kernel_rfl) (by kernel_rfl) Tryz.underlying153 Tryz.underlying9 (by kernel_rfl) (by kernel_rfl)) (Wa hL Eg (by kernel_rfl) (by kernel_rfl) Tryz.underlying153 Tryz.underlying9 (by kernel_rfl) (by kernel_rfl)) (jm hL HS J (by kernel_rfl) (by kernel_rfl) Tryz.underlying138) (jm hL Hl J (by kernel_rfl) (by kernel_rfl) Tryz.underlying138)
theorem O2 : Rows.HouseRunsSaid :=
  OpenClaim.holds_of_cond 3 Tryz.f3 rfl rfl rfl rfl rfl rfl rfl ⟨rfl, rfl, rfl, rfl, rfl⟩ rfl rfl rfl rfl rfl (by kernel_rfl) Tryz.func3 (by kernel_rfl)
    (of_decide_eq_true (by kernel_rfl)) (by unfold Func.isWrapper; first | (rw [if_pos (by decide +kernel)]; kernel_rfl) | (rw [if_neg (by decide +kernel)]; exact ⟨rfl, rfl⟩))
    (fun os started H enc _ F => by rw [OpenClaim.pre_eq_preRow]; exact Mu os started H enc F)
theorem Xv (f : FuncId) (fn : Func) (hf : Tryz.pinned.checked.prog.funcNamed "inglenook/inglenooklaw.HouseRuns" = some f) (hfn : Tryz.pinned.checked.prog.funcs[f]? = some fn) :
    true = Tryz.pinned.checked.prog.looks [] ∧ ∀ (j : Nat) t, fn.params[j]? = some t → Tryz.pinned.checked.prog.wantsStandIn t = false := by
  obtain rfl : f = 3 := Option.some.inj ((show Tryz.prog.funcNamed "inglenook/inglenooklaw.HouseRuns" = some 3 by kernel_rfl).symm.trans hf) |>.symm
  obtain rfl : fn = Tryz.f3 := (Option.some.inj (Tryz.func3.symm.trans hfn)).symm
  refine ⟨by kernel_rfl, fun j t ht => ?_⟩
  rw [Tryz.params3] at ht
  have hm : t ∈ [22] := by simpa using Array.mem_of_getElem? ht
  have hall : ([22].all fun u => !Tryz.prog.wantsStandIn u) = true := by kernel_rfl
  exact (show Tryz.prog.wantsStandIn t = false by simpa using List.all_eq_true.1 hall t hm)
theorem houseRuns_holds : Rows.HouseRunsCardSaid :=
  Claim7.holds_tied_plain_at .later [] _ _ _ _ O2 (fun _ h => by cases h) (by kernel_rfl) (fun _ h => by cases h) houseRuns_row_tie rfl ⟨rfl, rfl⟩ (by kernel_rfl) rfl Xv (by kernel_rfl)
end Go.Proofs.YtlmmdjaoikaceaaGreatDoor
