/- For every input the law TopRuns returns true. No condition. -/
import Derived.Test.YtoidpggbbfncpaaGreatDoorCards
import Derived.Test.YtoidpggbbfncpaaGreatDoorTie
import Derived.Deep.DeepHandedRow
import Derived.Test.YtoidpggbbfncpaaGreatDoorRows
import Derived.Test.YtoidpggbbfncpaaGreatDoorTopRunsWalks
import Derived.Test.YtoidpggbbfncpaaGreatDoorTopRunsWalks2
import Derived.Test.YtoidpggbbfncpaaGreatDoorTopRunsWalks3
import Derived.Test.YtoidpggbbfncpaaGreatDoorTopRunsWalks4
import Derived.Test.YtoidpggbbfncpaaGreatDoorTopRunsWalks5
import Derived.Test.YtoidpggbbfncpaaGreatDoorTopRunsWalks6
import Derived.Test.YtoidpggbbfncpaaGreatDoorTopRunsEc3
import Derived.Test.YtoidpggbbfncpaaGreatDoorTopRunsRa1
import Derived.Test.YtoidpggbbfncpaaGreatDoorTopRunsRb1
import Derived.Test.YtoidpggbbfncpaaGreatDoorTopRunsRc1
set_option linter.unusedSimpArgs false
set_option linter.unusedVariables false
set_option maxRecDepth 100000
set_option maxHeartbeats 1000000
namespace Go.Proofs.YtoidpggbbfncpaaGreatDoor
open Go Go.Ing Go.RowKit Go.ChangeShapes Go.WideShapes Go.ChangeAt
theorem own : ownKnob Tryz.prog.godebug = none := by kernel_rfl
theorem laidOut : laidOutB Tryz.prog = true := by kernel_rfl
theorem Ej : (Rows.laid_internal_strconv_uint64pow10 : DataW Unit) = Lib.tabData .u64 Lib.pow10Tab := by kernel_rfl
theorem EW : ("internal/strconv.uint64pow10", (Lib.tabData .u64 Lib.pow10Tab : DataW Unit)) ∈ Rows.topRunsRow.laid := Ej ▸ (.tail _ (.tail _ (.head _)))
theorem Fu : (Rows.laid_inglenook_words_verbs : DataW Unit) = Kx AH.F3 := by kernel_rfl
theorem FT : ("inglenook/words.verbs", (Kx AH.F3 : DataW Unit)) ∈ Rows.topRunsRow.laid := Fu ▸ (.tail _ (.tail _ (.tail _ (.tail _ (.tail _ (.tail _ (.head _)))))))
theorem Gg : ("strconv.ErrSyntax", (Rows.laid_strconv_ErrSyntax : DataW Unit)) ∈ Rows.topRunsRow.laid := .tail _ (.tail _ (.tail _ (.tail _ (.tail _ (.head _)))))
theorem G8 : ("strconv.ErrRange", (Rows.laid_strconv_ErrRange : DataW Unit)) ∈ Rows.topRunsRow.laid := .tail _ (.tail _ (.tail _ (.tail _ (.head _))))
theorem al {H : Type} {enc : TypeId × Value → H} {w : World} : Dc H enc Tryz.prog w (Au) Fm 3 := YR Tryz.underlying3
theorem bk {H : Type} {enc : TypeId × Value → H} {w : World} : Dc H enc Tryz.prog w (A4) Jh 9 := UC Tryz.underlying9
theorem aj {H : Type} {enc : TypeId × Value → H} {w : World} : Dc H enc Tryz.prog w (Br.enc) Br.wf 41 := Br.dc Tryz.underlying41 (by kernel_rfl) rfl (by kernel_rfl) al rfl (by kernel_rfl) al rfl (by kernel_rfl) al rfl (by kernel_rfl) bk
theorem LW {t0 : Nat} (f : Hd) (l : List Br) (hu : ∀ a ∈ l, a.bytes.length ≤ 140737488351232) (k : Int) (w : World) (r0 : Rd w f t0 4 (l.flatMap Br.enc)) (k0 : f.len ≤ f.cap) (gl0 : GV 2 FL w) (gl1 : GV 0 AH.C0 w) (gl2 : F8 7 w) (gl3 : F8 8 w) : EL Tryz.prog 7 #[f.val, .int .i64 k] w fun v w' => v = .bool true ∧ B4 w w' := by
 have hfl := r0.K1 Br.fl (by decide)
 have hmr := AL.Wz k (n := f.len)
 have hpl := AL.QJ (xs := l) hmr.1 (by omega)
 have hr1 := AL.PA l AL.new
 have hr2 := AL.PA ((l.take ((k.tmod ((f.len : Int) + 1) + (f.len : Int) + 1).tmod ((f.len : Int) + 1)).toNat).drop 0) AL.new
 have hcl : (f.cut 0 ((k.tmod ((f.len : Int) + 1) + (f.len : Int) + 1).tmod ((f.len : Int) + 1)).toNat 4).len = ((k.tmod ((f.len : Int) + 1) + (f.len : Int) + 1).tmod ((f.len : Int) + 1)).toNat := rfl
 refine Am [] [] Tryz.func7 rfl rfl rfl (St.start w []) ?_
 refine Gs (Ga rfl (Gn (.t2 0 1) (B7 ?_)))
 refine A7 rfl ZR .n (fun w hS => JC w (gl0.st hS) (gl1.st hS) (gl2.st hS) (gl3.st hS)) ?_
 refine Gt (BS rfl) (Gm rfl (BU 12 rfl rfl (fun q => AE rfl) (BU 12 rfl rfl (fun q => Ao rfl Tryz.underlying22 (cF rfl q)) (BU 12 rfl rfl (fun q => CS (cF rfl q) rfl) ?_))))
 refine Gt (BP rfl rfl (fun h => by rw [h]; rfl)) ?_
 refine Gn (.t3 0 1 16) ?_
 refine Gc (fun c1 => ?_) (fun c1 => ?_)
 ·
  refine Gs ?_
  refine A7 rfl ZR .n (fun w hS => JC w (gl0.st hS) (gl1.st hS) (gl2.st hS) (gl3.st hS)) ?_
  refine Ga rfl (Gn (.t1 4) (Ab (AD ?_)))
  refine AY rfl (.tmp rfl .n) ?_
  intro w1 hS; refine ⟨?_, hS.Aj⟩; rfl
 have c1p := kz c1
 refine Aa ?_
 refine AB (.t2 0 1) ?_
 refine AA (Gs (Gm rfl (Gm rfl (Gt (Ao rfl Tryz.underlying22 rfl) ?_))))
 refine Gt (As rfl rfl (IntWalk.i64_in _ (by omega))) ?_
 refine Gt (MZ rfl rfl (by omega)) ?_
 refine Gm rfl (Gt (Ao rfl Tryz.underlying22 rfl) ?_)
 refine Gt (As rfl rfl (IntWalk.i64_in _ (by omega))) ?_
 refine Gt (As rfl rfl (IntWalk.i64_in _ (by omega))) ?_
 refine Gm rfl (Gt (Ao rfl Tryz.underlying22 rfl) ?_)
 refine Gt (As rfl rfl (IntWalk.i64_in _ (by omega))) ?_
 refine Gt (MZ rfl rfl (by omega)) ?_
 refine Ga rfl (Gn (.t2 0 1) (Gs (Gm rfl ?_)))
 refine C9 Br.enc 41 4 ?_
 refine IT (e := Br.enc) rfl Tryz.underlying22 UX TN rfl Yv (by decide) rfl rfl (fun w hS => Src.DU Tryz.underlying22 ((Kn.Hb r0) w hS)) rfl rfl (by omega) (fun _ => .h) (fun h1 h1l => ?_)
 refine BC rfl ZX (.c rfl .n) .n (Iy _ l hu (by omega)) (fun w hS => ⟨(Kn.own .m0) w hS, gl0.pull (by simp) hS .n, gl1.pull (by simp) hS .n, gl2.pull (by simp) hS .n, gl3.pull (by simp) hS .n⟩) (fun v3 B hv => ?_)
 obtain ⟨y4, rfl, y5, rfl⟩ := hv
 refine Gm rfl (Gt (AK rfl rfl) (Gt (AK rfl rfl) (Ga rfl (Ga rfl (Gn (.t4 0 1 5 6) (Gs (Gm rfl ?_)))))))
 refine Gm rfl ?_
 refine Gt (Vp Tryz.underlying22 UX rfl rfl (by omega) (by omega)) ?_
 refine C9 Br.enc 41 4 ?_
 refine IT (e := Br.enc) rfl Tryz.underlying22 UX TN rfl Yv (by decide) rfl rfl (fun w hS => Src.DU Tryz.underlying22 ((Kn.cut Br.fl (Kn.Hb r0) (Nat.zero_le _) (by omega) (S4.of k0)) w hS)) rfl rfl (by omega) (fun _ => .h) (fun h8 h8l => ?_)
 refine BC rfl ZX (.c rfl .n) .n (Iy _ ((l.take ((k.tmod ((f.len : Int) + 1) + (f.len : Int) + 1).tmod ((f.len : Int) + 1)).toNat).drop 0) (fun a ha => hu a (AL.U1 ha)) (by rw [AL.QJ hmr.1 (by omega)]; omega)) (fun w hS => ⟨(Kn.own .m0) w hS, gl0.pull (by simp) hS .n, gl1.pull (by simp) hS .n, gl2.pull (by simp) hS .n, gl3.pull (by simp) hS .n⟩) (fun v10 B hv => ?_)
 obtain ⟨y11, rfl, y12, rfl⟩ := hv
 refine Gm rfl (Gt (AK rfl rfl) (Gt (AK rfl rfl) (Ga rfl (Ga rfl (Gn (.t6 0 1 5 6 7 8) (B7 (Gm rfl ?_)))))))
 refine Gt (CK rfl rfl) (Gm rfl (BU 47 rfl rfl (fun q => AE rfl) (BU 47 rfl rfl (fun q => CK (cF rfl q) rfl) ?_)))
 refine Gt (BP rfl rfl (fun h => by rw [h]; rfl)) ?_
 refine Gm rfl (BU 51 rfl rfl (fun q => AE rfl) (BU 51 rfl rfl (fun q => Ao rfl Tryz.underlying78 (cF rfl q)) (BU 51 rfl rfl (fun q => AE rfl) (BU 51 rfl rfl (fun q => Ao rfl Tryz.underlying22 (cF rfl q)) (BU 51 rfl rfl (fun q => CK (cF rfl q) (cF rfl q)) ?_)))))
 refine Gt (BP rfl rfl (fun h => by rw [h]; rfl)) ?_
 refine Gm rfl (BU 58 rfl rfl (fun q => AE rfl) (BU 58 rfl rfl (fun q => Ao rfl Tryz.underlying78 (cF rfl q)) (BU 58 rfl rfl (fun q => AE rfl) (BU 58 rfl rfl (fun q => CK (cF rfl q) (cF rfl q)) ?_))))
 refine Gt (BP rfl rfl (fun h => by rw [h]; rfl)) ?_
 refine Gn (.t4 1 5 7 63) ?_
 refine EE rfl (by rw [show ((y4.len : Int)) = f.len by omega, show ((y11.len : Int)) = ((k.tmod ((f.len : Int) + 1) + (f.len : Int) + 1).tmod ((f.len : Int) + 1)) by omega]; simp) ?_
 refine Aa ?_
 refine AB (.t3 1 5 7) ?_
 refine AA (B7 (Ga rfl (AO (AA (Ae ?_)))))
 refine Bl (.t4 9 1 5 7) ?_
 refine CT (fun (i : Int) => 0 ≤ i ∧ i ≤ ((k.tmod ((f.len : Int) + 1) + (f.len : Int) + 1).tmod ((f.len : Int) + 1))) (fun (i : Int) => (((k.tmod ((f.len : Int) + 1) + (f.len : Int) + 1).tmod ((f.len : Int) + 1)) - i).toNat) (fun (i : Int) => [(9, .int .i64 i)]) (fun (i : Int) => []) (0) ?_ rfl rfl (fun i hI1 => ?_)
 · exact ⟨by omega, by omega⟩
 obtain ⟨hI11, hI12⟩ := hI1
 refine B7 (Gm rfl (Gm rfl (Gt (A6 rfl rfl) (Gn (.t5 1 5 7 9 66) ?_))))
 refine Gc (fun c2 => ?_) (fun c2 => ?_)
 ·
  have c2p := kz c2
  refine Aa ?_
  refine AB (.t4 1 5 7 9) ?_
  refine AA (Ap (Ae (Ap ?_)))
  refine BD (N := 9) [0, 0, 3, 7, 0, 0, 48, 112, 255] mix (by kernel_rfl) rfl ?_
  refine Pf 0 rfl (AE rfl) (Pf 1 rfl (AE rfl) ?_)
  refine Pf 2 rfl (Bm Zc (by decide) (Kn.own .m2) rfl rfl (by omega) (by omega)) ?_
  refine Pf 3 rfl (LH rfl HO (by decide) Ba.fl (Kn.own .m2) (by omega)) ?_
  refine Pf 4 rfl (AE rfl) (Pf 5 rfl (AE rfl) ?_)
  refine Pf 6 rfl (Bm Zc (by decide) (Kn.own .m0) rfl rfl (by omega) (by omega)) ?_
  refine Pf 7 rfl (LH rfl HO (by decide) Ba.fl (Kn.own .m0) (by omega)) ?_
  refine Pf 8 rfl (Rc bE (by decide) (by kernel_rfl) rfl rfl) ?_
  refine A1 (by kernel_rfl) ?_
  refine AB (.t5 1 5 7 9 77) ?_
  refine AA ?_
  refine EE rfl (by rw [AL.UF hI11 (by omega) (by omega)]; simp) ?_
  refine Aa ?_
  refine AB (.t4 1 5 7 9) ?_
  refine AT (AA (AI (Gm rfl ?_)))
  refine Gt (As rfl rfl (IntWalk.i64_in _ (by omega))) ?_
  refine Ga rfl ?_
  refine AO (AB (.t4 1 5 7 9) ?_)
  refine B0 (i + 1) ?_ ?_ (.t4 9 1 5 7) (.refl _)
  · exact ⟨by omega, by omega⟩
  · omega
 refine BX (AW (AW (Ag ?_)))
 refine AB (.nil _) ?_
 refine AA (Gs (Ga rfl (AO (AA (Ab ?_)))))
 refine AY rfl (.tmp rfl .n) ?_
 intro w1 hS; refine ⟨?_, hS.Aj⟩; rfl
mutual
def J1 {H : Type} : DataW H → List Value
  | .lit (.int k n) => [.int k n]
  | .lit (.string bs) => [.string ⟨bs.toArray⟩]
  | .lit (.bool b) => [.bool b]
  | .agg ps => PL ps
  | _ => []
def PL {H : Type} : List (DataW H) → List Value
  | [] => []
  | d :: r => J1 d ++ PL r
end
def Px {H : Type} : DataW H → List Value
  | .iface _ (.ptr (.agg ps)) => PL ps
  | _ => []
noncomputable def low : Nat := (World.holding Tryz.prog default ⟨#[], #[], []⟩).heap.size
noncomputable def LK (os : Os) : World := { World.holding Tryz.prog os ⟨#[.cells (Px (Rows.laid_strconv_ErrRange : DataW Unit)).toArray 252, .cells (Px (Rows.laid_strconv_ErrSyntax : DataW Unit)).toArray 252], #[], []⟩ with heap := (((((((((World.holding Tryz.prog os ⟨#[.cells (Px (Rows.laid_strconv_ErrRange : DataW Unit)).toArray 252, .cells (Px (Rows.laid_strconv_ErrSyntax : DataW Unit)).toArray 252], #[], []⟩).heap.modify 8 fun o => match o with | .cells _ t frozen => .cells #[.iface 250 (.pointer (some ⟨low + 0, 0, none⟩))] t frozen | o => o).modify 7 fun o => match o with | .cells _ t frozen => .cells #[.iface 250 (.pointer (some ⟨low + 1, 0, none⟩))] t frozen | o => o).modify 3 fun o => match o with | .cells _ t frozen => .cells (J1 (Rows.laid_math_bits_deBruijn32tab : DataW Unit)).toArray t frozen | o => o).modify 4 fun o => match o with | .cells _ t frozen => .cells (J1 (Rows.laid_math_bits_deBruijn64tab : DataW Unit)).toArray t frozen | o => o).modify 2 fun o => match o with | .cells _ t frozen => .cells (J1 (Rows.laid_internal_strconv_uint64pow10 : DataW Unit)).toArray t frozen | o => o).modify 6 fun o => match o with | .cells _ t frozen => .cells (J1 (Rows.laid_unicode_utf8_acceptRanges : DataW Unit)).toArray t frozen | o => o).modify 0 fun o => match o with | .cells _ t frozen => .cells (J1 (Rows.laid_inglenook_words_verbs : DataW Unit)).toArray t frozen | o => o).modify 5 fun o => match o with | .cells _ t frozen => .cells (J1 (Rows.laid_unicode_utf8_first : DataW Unit)).toArray t frozen | o => o) }
set_option maxRecDepth 100000 in
theorem Vl (os : Os) : laidMet Tryz.prog Rows.topRunsRow.laid ((LK os).forCall (fun _ _ => 0) ⟨#[], #[.slice none 0 0, .int .i64 0], []⟩).memory :=
  laidMet_of_run' 8 (by kernel_rfl) (by kernel_rfl)
set_option maxRecDepth 100000 in
theorem reads (os : Os) {H : Type} (enc : TypeId × Value → H) : ∃ places, DataW.whole enc Tryz.prog ((LK os).forCall (fun _ _ => 0) ⟨#[], #[.slice none 0 0, .int .i64 0], []⟩).memory Tryz.f7.params.toList Rows.topRunsSpec.vars false (#[.slice none 0 0, .int .i64 0] : Array Value).toList 8 = some ([.nil, .lit (.int .i64 0)], [], places) := ⟨[], by kernel_rfl⟩
set_option maxRecDepth 100000 in
theorem NX (os : Os) (started : os.Started) (H : Type) (enc : TypeId × Value → H) (F : Stop.Interp) :
    ReturnsInHanded {} Tryz.checked os 7 .any ((OpenSpec.ofChange Rows.topRunsSpec).preRow enc Tryz.prog Tryz.f7 Rows.topRunsRow.domain false Rows.topRunsRow.laid) (((OpenSpec.ofChange Rows.topRunsSpec).at F).post enc Tryz.prog Tryz.f7 false true false false) := by
  obtain ⟨places, hx⟩ := reads os enc
  refine returnsInHanded_of_row (C := Tryz.checked) (s := (OpenSpec.ofChange Rows.topRunsSpec)) own started (by kernel_rfl) Tryz.func7
    (witness_row_at (enc := enc) (C := Tryz.checked) false (LK os) #[.slice none 0 0, .int .i64 0] rfl (by kernel_rfl) (by kernel_rfl) (by kernel_rfl)
      (OpenSpec.preRow_of_cond 8 hx (by kernel_rfl) (fun k hk => by cases hk) (by kernel_rfl) (Vl os))) ?_
  intro W base args ds gs before hval hW _ hcond hsz hL _ _
  refine VW (B := 4) laidOut (by kernel_rfl) Tryz.underlying4 (by kernel_rfl) rfl (fun ds h => by rw [Tryz.params7] at h; match ds, h with | [d1, d2], _ => rfl) hW ?_
  obtain ⟨p, q, hA, hV, _, _, _⟩ := hW
  rw [Tryz.params7] at hA
  obtain ⟨v0, vs0, d0, ds0, p0, q0, hv0, rfl, rfl, hd0, hA⟩ := trodAll_cons hA
  obtain ⟨v1, vs1, d1, ds1, p1, q1, hv1, rfl, rfl, hd1, hA⟩ := trodAll_cons hA
  obtain ⟨hvn, rfl, rfl⟩ := trodAll_nil hA
  obtain rfl : args = #[v0, v1] := by cases args; simp_all
  obtain ⟨f, rfl, w0⟩ := XA Tryz.underlying22 (hval 0 _ _ rfl rfl) (by kernel_rfl) (by decide) Br.fl aj hd0
  obtain ⟨k, rfl, rfl, rfl, w1⟩ := open_int Tryz.underlying3 (hval 1 _ _ rfl rfl) hd1
  have w1 := bounds_i64 w1
  obtain ⟨_, l, r0, hl0, k0, hm0, hw0⟩ := w0
  exact LW _ _ (by exact R4 Tryz.underlying22 Tryz.underlying41 rfl Tryz.underlying9 (by kernel_rfl) (by kernel_rfl) hd0 r0 (TX hsz (j := 0) rfl rfl)) _ W r0 k0 (W9 hL EW (by kernel_rfl) (by kernel_rfl) Tryz.underlying205 Tryz.underlying173 (by kernel_rfl) (by kernel_rfl)) (XJ hL FT (by kernel_rfl) (by kernel_rfl) Tryz.underlying133 Tryz.underlying9 (by kernel_rfl) (by kernel_rfl)) (bQ hL Gg rfl (by kernel_rfl) (by kernel_rfl) Tryz.underlying109) (bQ hL G8 rfl (by kernel_rfl) (by kernel_rfl) Tryz.underlying109)
theorem Pj : Rows.TopRunsSaid :=
  OpenClaim.holds_of_cond 7 Tryz.f7 rfl rfl rfl rfl rfl rfl rfl ⟨rfl, rfl, rfl, rfl, rfl⟩ rfl rfl rfl rfl rfl (by kernel_rfl) Tryz.func7 (by kernel_rfl)
    (of_decide_eq_true (by kernel_rfl)) (by unfold Func.isWrapper; first | (rw [if_pos (by decide +kernel)]; kernel_rfl) | (rw [if_neg (by decide +kernel)]; exact ⟨rfl, rfl⟩))
    (fun os started H enc _ F => by rw [OpenClaim.pre_eq_preRow]; exact NX os started H enc F)
theorem TQ (f : FuncId) (fn : Func) (hf : Tryz.pinned.checked.prog.funcNamed "inglenook/inglenooktop.TopRuns" = some f) (hfn : Tryz.pinned.checked.prog.funcs[f]? = some fn) :
    true = Tryz.pinned.checked.prog.looks [] ∧ ∀ (j : Nat) t, fn.params[j]? = some t → Tryz.pinned.checked.prog.wantsStandIn t = false := by
  obtain rfl : f = 7 := Option.some.inj ((show Tryz.prog.funcNamed "inglenook/inglenooktop.TopRuns" = some 7 by kernel_rfl).symm.trans hf) |>.symm
  obtain rfl : fn = Tryz.f7 := (Option.some.inj (Tryz.func7.symm.trans hfn)).symm
  refine ⟨by kernel_rfl, fun j t ht => ?_⟩
  rw [Tryz.params7] at ht
  have hm : t ∈ [22, 3] := by simpa using Array.mem_of_getElem? ht
  have hall : ([22, 3].all fun u => !Tryz.prog.wantsStandIn u) = true := by kernel_rfl
  exact (show Tryz.prog.wantsStandIn t = false by simpa using List.all_eq_true.1 hall t hm)
theorem topRuns_holds : Rows.TopRunsCardSaid :=
  Claim7.holds_tied_plain_at .later [] _ _ _ _ Pj (fun _ h => by cases h) (by kernel_rfl) (fun _ h => by cases h) topRuns_row_tie rfl ⟨rfl, rfl⟩ (by kernel_rfl) rfl TQ (by kernel_rfl)
end Go.Proofs.YtoidpggbbfncpaaGreatDoor
