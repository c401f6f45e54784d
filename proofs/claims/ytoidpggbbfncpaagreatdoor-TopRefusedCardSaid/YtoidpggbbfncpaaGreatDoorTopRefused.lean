/- For every input the law TopRefused returns true. No condition. -/
import Derived.Test.YtoidpggbbfncpaaGreatDoorCards
import Derived.Test.YtoidpggbbfncpaaGreatDoorTie
import Derived.Deep.DeepHandedRow
import Derived.Test.YtoidpggbbfncpaaGreatDoorRows
import Derived.Test.YtoidpggbbfncpaaGreatDoorTopRefusedWalks
import Derived.Test.YtoidpggbbfncpaaGreatDoorTopRefusedWalks2
import Derived.Test.YtoidpggbbfncpaaGreatDoorTopRefusedWalks3
import Derived.Test.YtoidpggbbfncpaaGreatDoorTopRefusedWalks4
import Derived.Test.YtoidpggbbfncpaaGreatDoorTopRefusedWalks5
import Derived.Test.YtoidpggbbfncpaaGreatDoorTopRefusedWalks6
import Derived.Test.YtoidpggbbfncpaaGreatDoorTopRefusedEc3
import Derived.Test.YtoidpggbbfncpaaGreatDoorTopRefusedRa1
import Derived.Test.YtoidpggbbfncpaaGreatDoorTopRefusedRb1
import Derived.Test.YtoidpggbbfncpaaGreatDoorTopRefusedRc1
set_option linter.unusedSimpArgs false
set_option linter.unusedVariables false
set_option maxRecDepth 100000
set_option maxHeartbeats 1000000
namespace Go.Proofs.YtoidpggbbfncpaaGreatDoor
open Go Go.Ing Go.RowKit Go.ChangeShapes Go.WideShapes Go.ChangeAt
theorem own : ownKnob Tryz.prog.godebug = none := by kernel_rfl
theorem laidOut : laidOutB Tryz.prog = true := by kernel_rfl
theorem Es : (Rows.laid_internal_strconv_uint64pow10 : DataW Unit) = Lib.tabData .u64 Lib.pow10Tab := by kernel_rfl
theorem Ed : ("internal/strconv.uint64pow10", (Lib.tabData .u64 Lib.pow10Tab : DataW Unit)) ∈ Rows.topRefusedRow.laid := Es ▸ (.tail _ (.tail _ (.head _)))
theorem GC : (Rows.laid_inglenook_words_verbs : DataW Unit) = Kv AH.F8 := by kernel_rfl
theorem Fk : ("inglenook/words.verbs", (Kv AH.F8 : DataW Unit)) ∈ Rows.topRefusedRow.laid := GC ▸ (.tail _ (.tail _ (.tail _ (.tail _ (.tail _ (.tail _ (.head _)))))))
theorem Gu : ("strconv.ErrSyntax", (Rows.laid_strconv_ErrSyntax : DataW Unit)) ∈ Rows.topRefusedRow.laid := .tail _ (.tail _ (.tail _ (.tail _ (.tail _ (.head _)))))
theorem HF : ("strconv.ErrRange", (Rows.laid_strconv_ErrRange : DataW Unit)) ∈ Rows.topRefusedRow.laid := .tail _ (.tail _ (.tail _ (.tail _ (.head _))))
theorem bQ {H : Type} {enc : TypeId × Value → H} {w : World} : Dc H enc Tryz.prog w (Ax) Fx 3 := YM Tryz.underlying3
theorem cc {H : Type} {enc : TypeId × Value → H} {w : World} : Dc H enc Tryz.prog w (A4) Jv 9 := UY Tryz.underlying9
theorem Zk {H : Type} {enc : TypeId × Value → H} {w : World} : Dc H enc Tryz.prog w (Bt.enc) Bt.wf 41 := Bt.dc Tryz.underlying41 (by kernel_rfl) rfl (by kernel_rfl) bQ rfl (by kernel_rfl) bQ rfl (by kernel_rfl) bQ rfl (by kernel_rfl) cc
theorem Jt {t0 : Nat} (f : Hd) (l : List Bt) (hu : ∀ a ∈ l, a.bytes.length ≤ 140737488351232) (a : Bt) (hv : a.bytes.length ≤ 140737488351232) (w : World) (r0 : Rd w f t0 4 (l.flatMap Bt.enc)) (gl0 : GV 2 FN w) (gl1 : GV 0 AH.C6 w) (gl2 : GF 7 w) (gl3 : GF 8 w) : EF Tryz.prog 13 #[f.val, .agg a.enc.toArray] w fun v w' => v = .bool true ∧ B6 w w' := by
 refine Ai [] [] Tryz.func13 rfl rfl rfl (St.start w []) ?_
 refine Gs ?_
 refine Bv rfl rfl rfl (fun b1 => ?_)
 refine Ga rfl (Gn (.t2 0 3) (Gs (Gm rfl ?_)))
 refine BE rfl aL (.c rfl (.c rfl .n)) .n (J0 f l hu) (fun w hS => ⟨Rd.pull r0 hS .n, gl0.pull (by simp) hS .n, gl1.pull (by simp) hS .n, gl2.pull (by simp) hS .n, gl3.pull (by simp) hS .n⟩) (fun v1 B hv => ?_)
 obtain ⟨y2, y3, y4, y5, rfl, y6, rfl⟩ := hv
 refine Gm rfl (Gt (AL rfl rfl) (Gt (AL rfl rfl) (Ga rfl (Ga rfl (Gn (.t4 0 3 5 6) (Gs (Gm rfl ?_)))))))
 refine BE rfl aL (.c rfl (.c rfl .n)) .n (J0 f l hu) (fun w hS => ⟨Rd.pull r0 hS .n, gl0.pull (by simp) hS .n, gl1.pull (by simp) hS .n, gl2.pull (by simp) hS .n, gl3.pull (by simp) hS .n⟩) (fun v8 B hv => ?_)
 obtain ⟨y9, y10, y11, y12, rfl, y13, rfl⟩ := hv
 refine Gm rfl (Gt (AL rfl rfl) (Gt (AL rfl rfl) (Ga rfl (Ga rfl (Gn (.t5 3 5 6 7 8) (CC (Gm rfl ?_)))))))
 refine Gt (BO rfl) (Gm rfl (BW 22 rfl rfl (fun q => AE rfl) (BW 22 rfl rfl (fun q => BO (cF rfl q)) ?_)))
 refine Gt (BR rfl rfl (fun h => by rw [h]; rfl)) ?_
 refine Gn (.t4 3 5 7 25) ?_
 refine DZ rfl rfl ?_
 refine Aa ?_
 refine AB (.t3 3 5 7) ?_
 refine AA (Gs (Gm rfl (Gt (AZ rfl Vf .m6 (AS.id Bt.fl.len Bt.fl.one) rfl) ?_)))
 refine BE rfl Wk (.c rfl (.c rfl .n)) (.c (.t (.t (.t .h))) (.c (.t (.t (.t .h))) (.c (.t (.t (.t .h))) .n))) (Gz y2 y3 y4 y5 a (by rw [y6]; exact AM.HO l) hv) (fun w hS => ⟨gl0.pull (by simp) hS (.c (.t (.t (.t .h))) (.c (.t (.t (.t .h))) (.c (.t (.t (.t .h))) .n))), gl1.pull (by simp) hS (.c (.t (.t (.t .h))) (.c (.t (.t (.t .h))) (.c (.t (.t (.t .h))) .n))), gl2.pull (by simp) hS (.c (.t (.t (.t .h))) (.c (.t (.t (.t .h))) (.c (.t (.t (.t .h))) .n))), gl3.pull (by simp) hS (.c (.t (.t (.t .h))) (.c (.t (.t (.t .h))) (.c (.t (.t (.t .h))) .n)))⟩) (fun v15 B hv => ?_)
 obtain ⟨y16, y17, y18, rfl, y19, rfl⟩ := hv
 refine BD rfl JR rfl (fun b2 => ?_)
 refine AQ (AJ (AS.id Bf.fl.len Bf.fl.one) rfl rfl rfl I7 rfl .h) ?_
 refine Gn (.t3 5 7 9) (Gs (Gt (Af Ry rfl) (Gt (AF rfl WT .m0 Bf.l0 rfl rfl) (Gt (Ag rfl rfl) (Gm rfl ?_)))))
 refine Jk 32 rfl (fun c1 => ?_) (fun c1 => ?_)
 ·
  refine BU (t := 32) rfl rfl rfl rfl ?_
  refine BU (t := 32) rfl rfl rfl rfl ?_
  refine BU (t := 32) rfl rfl rfl rfl ?_
  refine BU (t := 32) rfl rfl rfl rfl ?_
  refine Cg (t := 36) rfl rfl rfl ?_
  refine Cg (t := 36) rfl rfl rfl ?_
  refine Cg (t := 36) rfl rfl rfl ?_
  refine BU (t := 32) rfl rfl rfl rfl ?_
  refine BU (t := 32) rfl rfl rfl rfl ?_
  refine Cg (t := 41) rfl rfl rfl ?_
  refine Cg (t := 41) rfl rfl rfl ?_
  refine Cg (t := 41) rfl rfl rfl ?_
  refine Cg (t := 41) rfl rfl rfl ?_
  refine BU (t := 32) rfl rfl rfl rfl ?_
  refine Gt (CG rfl rfl) (Ga rfl (Gn (.t1 4) (Ab ?_)))
  refine AY rfl (.tmp rfl .n) ?_
  intro w1 hS; refine ⟨?_, hS.Ak⟩; rfl
 have c1p := kz c1
 refine Bs (t := 32) rfl rfl rfl (Af Yd rfl) ?_
 refine Bs (t := 32) rfl rfl rfl (AF rfl CD .m0 Bf.l1 rfl rfl) ?_
 refine Bs (t := 32) rfl rfl rfl (Bl rfl rfl) ?_
 refine Bs (t := 32) rfl rfl rfl (AE rfl) ?_
 refine BZ 36 rfl rfl (fun q => AE rfl) (BZ 36 rfl rfl (fun q => AE rfl) ?_)
 refine Jk 36 rfl (fun c2 => ?_) (fun c2 => ?_)
 ·
  have c2p := kz c2
  refine E4 (t := 36) rfl (by first | rfl | exact Y9 rfl c2) rfl ay (.c (BV rfl c2) (.c (BV rfl c2) .n)) (.c (.t (.t (.t (.t .h)))) (.c (.t (.t (.t (.t .h)))) (.c (.t .h) (.c (.t .h) .n)))) (OW y9 y10 y11 y12 y2 y16 y17 y18 (by rw [y13]; exact AM.HO l) (by rw [y19, y6]; exact (AM.HO l).act a)) (fun v20 B hv => ?_)
  obtain ⟨rfl, rfl⟩ := hv
  refine Bs (t := 32) rfl rfl rfl (CG rfl rfl) ?_
  refine Bs (t := 32) rfl rfl rfl (AE rfl) ?_
  refine BZ 41 rfl rfl (fun q => AE rfl) ?_
  refine Jk 41 rfl (fun c3 => ?_) (fun c3 => ?_)
  ·
   have c3p := kz c3
   refine E4 (t := 41) rfl (by first | rfl | exact Y9 rfl c3) rfl bJ (.c (BV rfl c3) .n) (.c (.t (.t .h)) (.c (.t (.t (.t (.t .h)))) .n)) (QM y2 y16 y18 (AM.Live.last (V := y16) (ls := y17) (by rw [y19, y6]; exact (AM.HO l).act a))) (fun v21 B hv => ?_)
   obtain ⟨y22, rfl, y23, rfl⟩ := hv
   refine Bs (t := 41) rfl rfl rfl (Aq rfl Tryz.underlying53 rfl) ?_
   refine Bs (t := 41) rfl rfl rfl (Ag rfl rfl) ?_
   refine Bs (t := 32) rfl rfl rfl (CG rfl rfl) ?_
   refine Gt (By rfl rfl) (Ga rfl (Gn (.t1 4) (Ab ?_)))
   refine AY rfl (.tmp rfl .n) ?_
   intro w1 hS; refine ⟨?_, hS.Ak⟩; have hr := AM.refused (H := A3 y3 y4 y5) (by rw [y6, AM.JE]; omega) (a := a) (of_decide_eq_false c1)
   have hl : y18 = [] := (congrArg AM.last y19).trans hr.2.2
   exact congrArg Value.bool (by rw [y23, hl]; rfl)
  have c3p := kz c3
  refine BU (t := 41) rfl rfl rfl rfl ?_
  refine BU (t := 41) rfl rfl rfl rfl ?_
  refine BU (t := 41) rfl rfl rfl rfl ?_
  refine Bs (t := 32) rfl rfl rfl (By rfl rfl) ?_
  refine Gt (By rfl rfl) (Ga rfl (Gn (.t1 4) (Ab ?_)))
  refine AY rfl (.tmp rfl .n) ?_
  intro w1 hS; refine ⟨?_, hS.Ak⟩; have hr := AM.refused (H := A3 y3 y4 y5) (by rw [y6, AM.JE]; omega) (a := a) (of_decide_eq_false c1)
  have hc := c3
  rw [y13, ← y6, y19, hr.2.1] at hc
  cases hc
 have c2p := kz c2
 refine BU (t := 36) rfl rfl rfl rfl ?_
 refine Bs (t := 32) rfl rfl rfl (By rfl rfl) ?_
 refine Bs (t := 32) rfl rfl rfl (AE rfl) ?_
 refine BU (t := 41) rfl rfl rfl rfl ?_
 refine BU (t := 41) rfl rfl rfl rfl ?_
 refine BU (t := 41) rfl rfl rfl rfl ?_
 refine BU (t := 41) rfl rfl rfl rfl ?_
 refine Bs (t := 32) rfl rfl rfl (By rfl rfl) ?_
 refine Gt (By rfl rfl) (Ga rfl (Gn (.t1 4) (Ab ?_)))
 refine AY rfl (.tmp rfl .n) ?_
 intro w1 hS; refine ⟨?_, hS.Ak⟩; have hr := AM.refused (H := A3 y3 y4 y5) (by rw [y6, AM.JE]; omega) (a := a) (of_decide_eq_false c1)
 exact absurd hr.1 (of_decide_eq_false c2)
mutual
def KX {H : Type} : DataW H → List Value
  | .lit (.int k n) => [.int k n]
  | .lit (.string bs) => [.string ⟨bs.toArray⟩]
  | .lit (.bool b) => [.bool b]
  | .agg ps => PR ps
  | _ => []
def PR {H : Type} : List (DataW H) → List Value
  | [] => []
  | d :: r => KX d ++ PR r
end
def Pz {H : Type} : DataW H → List Value
  | .iface _ (.ptr (.agg ps)) => PR ps
  | _ => []
noncomputable def low : Nat := (World.holding Tryz.prog default ⟨#[], #[], []⟩).heap.size
noncomputable def Lh (os : Os) : World := { World.holding Tryz.prog os ⟨#[.cells (Pz (Rows.laid_strconv_ErrRange : DataW Unit)).toArray 252, .cells (Pz (Rows.laid_strconv_ErrSyntax : DataW Unit)).toArray 252], #[], []⟩ with heap := (((((((((World.holding Tryz.prog os ⟨#[.cells (Pz (Rows.laid_strconv_ErrRange : DataW Unit)).toArray 252, .cells (Pz (Rows.laid_strconv_ErrSyntax : DataW Unit)).toArray 252], #[], []⟩).heap.modify 8 fun o => match o with | .cells _ t frozen => .cells #[.iface 250 (.pointer (some ⟨low + 0, 0, none⟩))] t frozen | o => o).modify 7 fun o => match o with | .cells _ t frozen => .cells #[.iface 250 (.pointer (some ⟨low + 1, 0, none⟩))] t frozen | o => o).modify 3 fun o => match o with | .cells _ t frozen => .cells (KX (Rows.laid_math_bits_deBruijn32tab : DataW Unit)).toArray t frozen | o => o).modify 4 fun o => match o with | .cells _ t frozen => .cells (KX (Rows.laid_math_bits_deBruijn64tab : DataW Unit)).toArray t frozen | o => o).modify 2 fun o => match o with | .cells _ t frozen => .cells (KX (Rows.laid_internal_strconv_uint64pow10 : DataW Unit)).toArray t frozen | o => o).modify 6 fun o => match o with | .cells _ t frozen => .cells (KX (Rows.laid_unicode_utf8_acceptRanges : DataW Unit)).toArray t frozen | o => o).modify 0 fun o => match o with | .cells _ t frozen => .cells (KX (Rows.laid_inglenook_words_verbs : DataW Unit)).toArray t frozen | o => o).modify 5 fun o => match o with | .cells _ t frozen => .cells (KX (Rows.laid_unicode_utf8_first : DataW Unit)).toArray t frozen | o => o) }
set_option maxRecDepth 100000 in
theorem U5 (os : Os) : laidMet Tryz.prog Rows.topRefusedRow.laid ((Lh os).forCall (fun _ _ => 0) ⟨#[], #[.slice none 0 0, .agg (Bt.enc (default : Bt)).toArray], []⟩).memory :=
  laidMet_of_run' 8 (by kernel_rfl) (by kernel_rfl)
set_option maxRecDepth 100000 in
theorem reads (os : Os) {H : Type} (enc : TypeId × Value → H) : ∃ places, DataW.whole enc Tryz.prog ((Lh os).forCall (fun _ _ => 0) ⟨#[], #[.slice none 0 0, .agg (Bt.enc (default : Bt)).toArray], []⟩).memory Tryz.f13.params.toList Rows.topRefusedSpec.vars false (#[.slice none 0 0, .agg (Bt.enc (default : Bt)).toArray] : Array Value).toList 8 = some ([.nil, .agg [.lit (.int .i64 0), .lit (.int .i64 0), .lit (.int .i64 0), .lit (.string [])]], [], places) := ⟨[], by kernel_rfl⟩
set_option maxRecDepth 100000 in
theorem Kk (os : Os) (started : os.Started) (H : Type) (enc : TypeId × Value → H) (F : Stop.Interp) :
    ReturnsInHanded {} Tryz.checked os 13 .any ((OpenSpec.ofChange Rows.topRefusedSpec).preRow enc Tryz.prog Tryz.f13 Rows.topRefusedRow.domain false Rows.topRefusedRow.laid) (((OpenSpec.ofChange Rows.topRefusedSpec).at F).post enc Tryz.prog Tryz.f13 false true false false) := by
  obtain ⟨places, hx⟩ := reads os enc
  refine returnsInHanded_of_row (C := Tryz.checked) (s := (OpenSpec.ofChange Rows.topRefusedSpec)) own started (by kernel_rfl) Tryz.func13
    (witness_row_at (enc := enc) (C := Tryz.checked) false (Lh os) #[.slice none 0 0, .agg (Bt.enc (default : Bt)).toArray] rfl (by kernel_rfl) (by kernel_rfl) (by kernel_rfl)
      (OpenSpec.preRow_of_cond 8 hx (by kernel_rfl) (fun k hk => by cases hk) (by kernel_rfl) (U5 os))) ?_
  intro W base args ds gs before hval hW _ hcond hsz hL _ _
  refine WU (B := 4) laidOut (by kernel_rfl) Tryz.underlying4 (by kernel_rfl) rfl (fun ds h => by rw [Tryz.params13] at h; match ds, h with | [d1, d2], _ => rfl) hW ?_
  obtain ⟨p, q, hA, hV, _, _, _⟩ := hW
  rw [Tryz.params13] at hA
  obtain ⟨v0, vs0, d0, ds0, p0, q0, hv0, rfl, rfl, hd0, hA⟩ := trodAll_cons hA
  obtain ⟨v1, vs1, d1, ds1, p1, q1, hv1, rfl, rfl, hd1, hA⟩ := trodAll_cons hA
  obtain ⟨hvn, rfl, rfl⟩ := trodAll_nil hA
  obtain rfl : args = #[v0, v1] := by cases args; simp_all
  obtain ⟨f, rfl, w0⟩ := Wy Tryz.underlying22 (hval 0 _ _ rfl rfl) (by kernel_rfl) (by decide) Bt.fl Zk hd0
  obtain ⟨a, rfl, w1⟩ := Wz (P := Tryz.prog) (t := 41) (by rw [Tryz.underlying41]) (hval 1 _ _ rfl rfl) Zk hd1
  obtain ⟨_, l, r0, hl0, k0, hm0, hw0⟩ := w0
  exact Jt _ _ (by exact R3 Tryz.underlying22 Tryz.underlying41 rfl Tryz.underlying9 (by kernel_rfl) (by kernel_rfl) hd0 r0 (Oq hsz (j := 0) rfl rfl)) _ (by exact UL (i := 3) (o := 3) (s := a.bytes) Tryz.underlying41 rfl Tryz.underlying9 (by kernel_rfl) hd1 rfl (Oq hsz (j := 1) rfl rfl)) W r0 (Xg hL Ed (by kernel_rfl) (by kernel_rfl) Tryz.underlying205 Tryz.underlying173 (by kernel_rfl) (by kernel_rfl)) (Xf hL Fk (by kernel_rfl) (by kernel_rfl) Tryz.underlying133 Tryz.underlying9 (by kernel_rfl) (by kernel_rfl)) (cL hL Gu rfl (by kernel_rfl) (by kernel_rfl) Tryz.underlying109) (cL hL HF rfl (by kernel_rfl) (by kernel_rfl) Tryz.underlying109)
theorem MR : Rows.TopRefusedSaid :=
  OpenClaim.holds_of_cond 13 Tryz.f13 rfl rfl rfl rfl rfl rfl rfl ⟨rfl, rfl, rfl, rfl, rfl⟩ rfl rfl rfl rfl rfl (by kernel_rfl) Tryz.func13 (by kernel_rfl)
    (of_decide_eq_true (by kernel_rfl)) (by unfold Func.isWrapper; first | (rw [if_pos (by decide +kernel)]; kernel_rfl) | (rw [if_neg (by decide +kernel)]; exact ⟨rfl, rfl⟩))
    (fun os started H enc _ F => by rw [OpenClaim.pre_eq_preRow]; exact Kk os started H enc F)
theorem Uu (f : FuncId) (fn : Func) (hf : Tryz.pinned.checked.prog.funcNamed "inglenook/inglenooktop.TopRefused" = some f) (hfn : Tryz.pinned.checked.prog.funcs[f]? = some fn) :
    true = Tryz.pinned.checked.prog.looks [] ∧ ∀ (j : Nat) t, fn.params[j]? = some t → Tryz.pinned.checked.prog.wantsStandIn t = false := by
  obtain rfl : f = 13 := Option.some.inj ((show Tryz.prog.funcNamed "inglenook/inglenooktop.TopRefused" = some 13 by kernel_rfl).symm.trans hf) |>.symm
  obtain rfl : fn = Tryz.f13 := (Option.some.inj (Tryz.func13.symm.trans hfn)).symm
  refine ⟨by kernel_rfl, fun j t ht => ?_⟩
  rw [Tryz.params13] at ht
  have hm : t ∈ [22, 41] := by simpa using Array.mem_of_getElem? ht
  have hall : ([22, 41].all fun u => !Tryz.prog.wantsStandIn u) = true := by kernel_rfl
  exact (show Tryz.prog.wantsStandIn t = false by simpa using List.all_eq_true.1 hall t hm)
theorem topRefused_holds : Rows.TopRefusedCardSaid :=
  Claim7.holds_tied_plain_at .later [] _ _ _ _ MR (fun _ h => by cases h) (by kernel_rfl) (fun _ h => by cases h) topRefused_row_tie rfl ⟨rfl, rfl⟩ (by kernel_rfl) rfl Uu (by kernel_rfl)
end Go.Proofs.YtoidpggbbfncpaaGreatDoor
