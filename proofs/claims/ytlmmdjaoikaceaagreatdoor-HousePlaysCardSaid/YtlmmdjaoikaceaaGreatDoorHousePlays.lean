/- For every input the law HousePlays returns true. No condition. -/
import Derived.Test.YtlmmdjaoikaceaaGreatDoorCards
import Derived.Test.YtlmmdjaoikaceaaGreatDoorTie
import Derived.Deep.DeepHandedRow
import Derived.Test.YtlmmdjaoikaceaaGreatDoorRows
import Derived.Test.YtlmmdjaoikaceaaGreatDoorHousePlaysWalks
import Derived.Test.YtlmmdjaoikaceaaGreatDoorHousePlaysWalks2
import Derived.Test.YtlmmdjaoikaceaaGreatDoorHousePlaysWalks3
import Derived.Test.YtlmmdjaoikaceaaGreatDoorHousePlaysWalks4
import Derived.Test.YtlmmdjaoikaceaaGreatDoorHousePlaysWalks5
import Derived.Test.YtlmmdjaoikaceaaGreatDoorHousePlaysWalks6
import Derived.Test.YtlmmdjaoikaceaaGreatDoorHousePlaysWalks7
import Derived.Test.YtlmmdjaoikaceaaGreatDoorHousePlaysWalks8
import Derived.Test.YtlmmdjaoikaceaaGreatDoorHousePlaysWalks9
import Derived.Test.YtlmmdjaoikaceaaGreatDoorHousePlaysWalks10
import Derived.Test.YtlmmdjaoikaceaaGreatDoorHousePlaysWalks11
import Derived.Test.YtlmmdjaoikaceaaGreatDoorHousePlaysWalks12
import Derived.Test.YtlmmdjaoikaceaaGreatDoorHousePlaysWalks13
import Derived.Test.YtlmmdjaoikaceaaGreatDoorHousePlaysEc3
import Derived.Test.YtlmmdjaoikaceaaGreatDoorHousePlaysRa1
import Derived.Test.YtlmmdjaoikaceaaGreatDoorHousePlaysRb1
import Derived.Test.YtlmmdjaoikaceaaGreatDoorHousePlaysRc1
import Derived.Test.YtlmmdjaoikaceaaGreatDoorHousePlaysRd1
set_option linter.unusedSimpArgs false
set_option linter.unusedVariables false
set_option maxRecDepth 100000
set_option maxHeartbeats 4000000
namespace Go.Proofs.YtlmmdjaoikaceaaGreatDoor
open Go Go.Ing Go.RowKit Go.ChangeShapes Go.WideShapes Go.ChangeAt
theorem own : ownKnob Tryz.prog.godebug = none := by kernel_rfl
theorem laidOut : laidOutB Tryz.prog = true := by kernel_rfl
theorem Er : (Rows.laid_internal_strconv_uint64pow10 : DataW Unit) = Lib.tabData .u64 Lib.pow10Tab := by kernel_rfl
theorem Ej : ("internal/strconv.uint64pow10", (Lib.tabData .u64 Lib.pow10Tab : DataW Unit)) ∈ Rows.housePlaysRow.laid := Er ▸ (.tail _ (.tail _ (.head _)))
theorem Gg : (Rows.laid_inglenook_words_verbs : DataW Unit) = Jj AD.DF := by kernel_rfl
theorem GA : ("inglenook/words.verbs", (Jj AD.DF : DataW Unit)) ∈ Rows.housePlaysRow.laid := Gg ▸ (.tail _ (.tail _ (.tail _ (.tail _ (.tail _ (.tail _ (.tail _ (.head _))))))))
theorem Ep : (Rows.laid_inglenook_inglenookref_verbs : DataW Unit) = Jj AD.DF := by kernel_rfl
theorem Ei : ("inglenook/inglenookref.verbs", (Jj AD.DF : DataW Unit)) ∈ Rows.housePlaysRow.laid := Ep ▸ (.tail _ (.tail _ (.tail _ (.tail _ (.tail _ (.tail _ (.head _)))))))
theorem HZ : ("strconv.ErrSyntax", (Rows.laid_strconv_ErrSyntax : DataW Unit)) ∈ Rows.housePlaysRow.laid := .tail _ (.tail _ (.tail _ (.tail _ (.tail _ (.head _)))))
theorem Hs : ("strconv.ErrRange", (Rows.laid_strconv_ErrRange : DataW Unit)) ∈ Rows.housePlaysRow.laid := .tail _ (.tail _ (.tail _ (.tail _ (.head _))))
theorem jw {H : Type} {enc : TypeId × Value → H} {w : World} : Dc H enc Tryz.prog w (AT) GX 3 := eH Tryz.underlying3
theorem lG {H : Type} {enc : TypeId × Value → H} {w : World} : Dc H enc Tryz.prog w (AX) LR 9 := XK Tryz.underlying9
theorem jv {H : Type} {enc : TypeId × Value → H} {w : World} : Dc H enc Tryz.prog w (CD.enc) CD.wf 28 := CD.dc Tryz.underlying28 (by kernel_rfl) rfl (by kernel_rfl) jw rfl (by kernel_rfl) jw rfl (by kernel_rfl) jw rfl (by kernel_rfl) lG
theorem LA {t0 : Nat} (f : Hd) (l : List CD) (hu : ∀ a ∈ l, a.bytes.length ≤ 140737488351232) (w : World) (r0 : Rd w f t0 4 (l.flatMap CD.enc)) (gl0 : GV 3 EH w) (gl1 : GV 1 AD.Be w) (gl2 : GV 0 AD.Be w) (gl3 : Eo 8 w) (gl4 : Eo 9 w) : Ch Tryz.prog 4 #[f.val] w fun v w' => v = .bool true ∧ BF w w' := by
 have hfl := r0.Gh CD.fl (by decide)
 refine Rb Tryz.func4 ?_
 refine W ?_
 refine Cl .n (PW ) (fun v1 B hv => ?_)
 obtain ⟨y2, y3, y4, y5, rfl, y6, rfl⟩ := hv
 refine W ?_
 refine Cl .n (Me ) (fun v8 B hv => ?_)
 obtain ⟨y9, y10, y11, y12, rfl, y13, rfl⟩ := hv
 refine W ?_
 refine Af (.t4 5 0 3 4) ?_
 refine AY (.t (.t (.t (.t (.t .h))))) ?_
 refine AY (.t (.t (.t (.t (.t .h))))) ?_
 refine AY (.t (.t (.t (.t (.t .h))))) ?_
 refine AY (.t (.t (.t (.t (.t .h))))) ?_
 refine AY (.t (.t (.t (.t (.t .h))))) ?_
 refine AY (.t (.t (.t (.t (.t .h))))) ?_
 refine Oh (fun (k : Int) (V1 : AE) (ls1 : Vector Ae 4) (ev1 : List Ing.Event) (V2 : AE) (ls2 : Vector Ae 4) (ev2 : List Ing.Event) (X : AG) => 0 ≤ k ∧ k ≤ 150 ∧ k ≤ (l.length : Int) ∧ AO V1 ls1 ev1 = X ∧ AO V2 ls2 ev2 = X ∧ X.Bp = k ∧ X.Live) (fun (k : Int) (V1 : AE) (ls1 : Vector Ae 4) (ev1 : List Ing.Event) (V2 : AE) (ls2 : Vector Ae 4) (ev2 : List Ing.Event) (X : AG) => (150 - k).toNat) (fun (k : Int) (V1 : AE) (ls1 : Vector Ae 4) (ev1 : List Ing.Event) (V2 : AE) (ls2 : Vector Ae 4) (ev2 : List Ing.Event) (X : AG) => [(5, .int .i64 k)]) (fun (k : Int) (V1 : AE) (ls1 : Vector Ae 4) (ev1 : List Ing.Event) (V2 : AE) (ls2 : Vector Ae 4) (ev2 : List Ing.Event) (X : AG) => [AJ.box y9 65 (AE.enc V2), AJ.CI (BB 9 (AE.AP V2) ls2), AJ.own (AE.last V2) 100 16 (ev2.flatMap Ing.Event.enc), AJ.box y2 95 (AE.enc V1), AJ.CI (BB 9 (AE.AP V1) ls1), AJ.own (AE.last V1) 100 16 (ev1.flatMap Ing.Event.enc)]) (0) (y3) (y4) (y5) (y10) (y11) (y12) (AG.new) ?_ J J (fun k V1 ls1 ev1 V2 ls2 ev2 X hI1 => ?_)
 · exact ⟨by omega, by omega, by omega, y6, y13, rfl, AG.aE⟩
 obtain ⟨hI11, hI12, hI13, hI14, hI15, hI16, hI17⟩ := hI1
 refine W ?_
 refine ⟨fun c1 c1p => ?_, fun c1 c1p => ?_⟩
 ·
  refine W ?_
  refine Cm (.c (.t (.t (.t .h))) (.c (.t (.t (.t .h))) (.c (.t (.t (.t .h))) .n))) (Vp y2 V1 ls1 ev1 (l.getD k.toNat default) (by rw [hI14]; exact hI17) (hu _ (Ks (d := default) (xs := l) (i := k.toNat) (by omega)))) (fun v15 B hv => ?_) (fun _ => (fun w hS => ⟨gl0.pull (by simp) hS (.c (.t (.t (.t .h))) (.c (.t (.t (.t .h))) (.c (.t (.t (.t .h))) .n))), gl1.pull (by simp) hS (.c (.t (.t (.t .h))) (.c (.t (.t (.t .h))) (.c (.t (.t (.t .h))) .n))), gl3.pull (by simp) hS (.c (.t (.t (.t .h))) (.c (.t (.t (.t .h))) (.c (.t (.t (.t .h))) .n))), gl4.pull (by simp) hS (.c (.t (.t (.t .h))) (.c (.t (.t (.t .h))) (.c (.t (.t (.t .h))) .n)))⟩))
  obtain ⟨y16, y17, y18, rfl, y19, rfl⟩ := hv
  refine W ?_
  refine Cm (.c (.t (.t (.t .h))) (.c (.t (.t (.t .h))) (.c (.t (.t (.t .h))) .n))) (Md y9 V2 ls2 ev2 (l.getD k.toNat default) (by rw [hI15]; exact hI17) (by have h : V2.Bp = X.Bp := congrArg AG.Bp hI15; omega) (hu _ (Ks (d := default) (xs := l) (i := k.toNat) (by omega)))) (fun v20 B hv => ?_) (fun _ => (fun w hS => ⟨gl0.pull (by simp) hS (.c (.t (.t (.t .h))) (.c (.t (.t (.t .h))) (.c (.t (.t (.t .h))) .n))), gl1.pull (by simp) hS (.c (.t (.t (.t .h))) (.c (.t (.t (.t .h))) (.c (.t (.t (.t .h))) .n))), gl2.pull (by simp) hS (.c (.t (.t (.t .h))) (.c (.t (.t (.t .h))) (.c (.t (.t (.t .h))) .n))), gl3.pull (by simp) hS (.c (.t (.t (.t .h))) (.c (.t (.t (.t .h))) (.c (.t (.t (.t .h))) .n))), gl4.pull (by simp) hS (.c (.t (.t (.t .h))) (.c (.t (.t (.t .h))) (.c (.t (.t (.t .h))) .n)))⟩))
  obtain ⟨y21, y22, y23, rfl, y24, rfl⟩ := hv
  refine W ?_
  refine MA 38 J (fun c2 => ?_) (fun c2 => ?_)
  · exact absurd c2 (by rw [hI14, hI15]; simp)
  have c2p := kz c2
  have hAX : AO y16 y17 y18 = (X.act (l.getD k.toNat default)).1 := by rw [y19, hI14]
  have hBX : AO y21 y22 y23 = (X.act (l.getD k.toNat default)).1 := by rw [y24, hI15]
  have hAB := hAX.trans hBX.symm
  have hLV := hI17.act (l.getD k.toNat default)
  refine W ?_
  refine Cl (.c (.t (.t (.t .h))) (.c (.t (.t (.t (.t .h)))) .n)) (SR y2 y16 y18 (AG.Live.last (V := y16) (ls := y17) (by rw [hAX]; exact hLV))) (fun v25 B hv => ?_)
  obtain ⟨y26, rfl, y27, rfl⟩ := hv
  refine W ?_
  refine Cp (fun w hS => Et _ _ _ _ (Nat.le_trans (AG.Live.last (V := y16) (ls := y17) (ev := y18) (by rw [hAX]; exact hLV)) (by decide)) w ((Kn.own .m2) w hS) ((Kn.own .m5) w hS)) ?_
  refine W ?_
  refine MA 48 J (fun c3 => ?_) (fun c3 => ?_)
  · exact absurd c3 (by have e : y18 = y23 := congrArg AG.last hAB; rw [e]; simp)
  have c3p := kz c3
  refine W ?_
  refine Cl (.c .h .n) (SQ y2 y16) (fun v29 B hv => ?_)
  obtain ⟨rfl, rfl⟩ := hv
  refine W ?_
  refine Kf (by rw [show y16.w = y21.w from congrArg AG.w hAB]; simp) ?_
  refine W ?_
  refine Af (.t5 6 0 3 4 5) ?_
  refine A7 (fun (j : Int) => -1 ≤ j ∧ j ≤ 5) (fun (j : Int) => (5 - j).toNat) (fun (j : Int) => [(6, .int .i64 j)]) (fun (j : Int) => []) (-1) ?_ J J (fun j hI2 => ?_)
  · exact ⟨by omega, by omega⟩
  obtain ⟨hI21, hI22⟩ := hI2
  refine W ?_
  refine ⟨fun c4 c4p => ?_, fun c4 c4p => ?_⟩
  ·
   refine Ws 100131 ?_
   intro b1
   refine OE (Lm := [_]) (fun (z : Nat) => True) (fun (z : Nat) => []) (fun (z : Nat) => [AJ.box b1 62 (A0.enc (y21.sat j))]) (.t6 0 3 4 5 6 7) J ?_ (fun z hC => ?_)
   ·
    refine W ?_
    refine ⟨fun c5 c5p => ?_, fun c5 c5p => ?_⟩
    ·
     have hj : 0 ≤ j ∧ j < 4 := by have h := c5; simp only [Bool.and_eq_true, decide_eq_true_eq] at h; exact h
     refine W ?_
     refine Ec (0) ?_ (.t6 0 3 4 5 6 7) (by rw [il c5]; exact (.refl _))
     · trivial
    refine W ?_
    refine Ec (0) ?_ (.t6 0 3 4 5 6 7) (by rw [eB c5]; exact (.refl _))
    · trivial
   refine Ws 15 ?_
   have hSM := dS (alike hAB j)
   refine Ws 100161 ?_
   refine OE (Lm := []) (fun (z : Int) => z = (Ce (y21.sat j)).2) (fun (z : Int) => [(8, .int .i64 z)]) (fun (z : Int) => []) (.t6 0 3 4 5 6 7) J ?_ (fun z hC => ?_)
   ·
    refine W ?_
    refine ⟨fun c6 c6p => ?_, fun c6 c6p => ?_⟩
    ·
     refine W ?_
     refine Ec _ ?_ (.t7 8 0 3 4 5 6 7) (.refl _)
     · exact cN c6
    refine W ?_
    refine Ec _ ?_ (.t7 8 0 3 4 5 6 7) (.refl _)
    · exact cM c6
   refine W ?_
   refine Cl (.c (.t .h) .n) (Qb y2 y16 j) (fun v30 B hv => ?_)
   obtain ⟨rfl, rfl⟩ := hv
   refine W ?_
   refine MA 93 J (fun c7 => ?_) (fun c7 => ?_)
   · exact absurd c7 (by rw [hSM.st, hSM.be, hC]; simp)
   have c7p := kz c7
   refine W ?_
   refine Cl (.c .h (.c (.t (.t (.t (.t (.t (.t .h)))))) .n)) (SU y2 y16 y17 j (Live.eG (V := y16) (ls := y17) (ev := y18) (by rw [hAX]; exact hLV) j)) (fun v31 B hv => ?_)
   obtain ⟨y32, rfl, y33, rfl⟩ := hv
   refine W ?_
   refine Cp (fun w hS => Fh _ _ _ _ (Nat.le_trans (Live.eG (V := y16) (ls := y17) (ev := y18) (by rw [hAX]; exact hLV) j) (by decide)) w ((Kn.own .m2) w hS) ((Kn.sat .m7 j).2.1 w hS)) ?_
   refine W ?_
   refine MA 102 J (fun c8 => ?_) (fun c8 => ?_)
   · exact absurd c8 (by obtain ⟨a1, a2, a3, a4⟩ := hSM.pg; rw [a1, a2, a3, a4, hSM.li.1]; simp)
   have c8p := kz c8
   refine W ?_
   refine Cl (.c .h (.c .h .n)) (SS y2 y16 y17 j (Live.aP (V := y16) (ls := y17) (ev := y18) (by rw [hAX]; exact hLV) j)) (fun v35 B hv => ?_)
   obtain ⟨y36, rfl, y37, rfl⟩ := hv
   refine W ?_
   refine Cp (fun w hS => Fg _ _ _ _ (Nat.le_trans (Live.aP (V := y16) (ls := y17) (ev := y18) (by rw [hAX]; exact hLV) j) (by decide)) w ((Kn.own .m2) w hS) ((Kn.sat .m8 j).1 w hS)) ?_
   refine W ?_
   refine MA 111 J (fun c9 => ?_) (fun c9 => ?_)
   · exact absurd c9 (by obtain ⟨a1, a2, a3⟩ := hSM.ln; rw [a1, a2, a3, hSM.li.2.1]; simp)
   have c9p := kz c9
   refine W ?_
   refine Cl (.c .h (.c .h .n)) (SV y2 y16 y17 j (Live.eD (V := y16) (ls := y17) (ev := y18) (by rw [hAX]; exact hLV) j)) (fun v39 B hv => ?_)
   obtain ⟨y40, rfl, y41, rfl⟩ := hv
   refine W ?_
   refine Cp (fun w hS => FF _ _ _ _ (Nat.le_trans (Live.eD (V := y16) (ls := y17) (ev := y18) (by rw [hAX]; exact hLV) j) (by decide)) w ((Kn.own .m2) w hS) ((Kn.sat (.tail _ .m8) j).2.2 w hS)) ?_
   refine W ?_
   refine Kf (by rw [hSM.li.2.2]; simp) ?_
   refine W ?_
   refine Ar (.c .h (.c (.t (.t (.t (.t (.t .h))))) (.c (.t (.t (.t (.t (.t .h))))) (.c (.t (.t (.t (.t (.t .h))))) (.c (.t (.t (.t (.t (.t .h))))) (.c (.t (.t (.t (.t (.t .h))))) (.c .h .n))))))) ?_
   refine Az ?_
   refine Aw (j + 1) ?_ ?_ (.t5 6 0 3 4 5) (.refl _)
   · exact ⟨by omega, by omega⟩
   · omega
  refine W ?_
  refine Ar (.c (.t (.t (.t .h))) (.c (.t (.t (.t .h))) (.c (.t (.t (.t .h))) (.c .h (.c (.t (.t .h)) (.c .h .n)))))) ?_
  refine Az ?_
  refine Br (k + 1) _ _ _ _ _ _ ((X.act (l.getD k.toNat default)).1) ?_ ?_ (.t4 5 0 3 4) (.refl _)
  · exact ⟨by omega, by omega, by omega, hAX, hBX, by rw [AG.TP, if_neg (by omega)]; omega, hI17.act _⟩
  · omega
 refine W ?_
 rfl
mutual
def KE {H : Type} : DataW H → List Value
  | .lit (.int k n) => [.int k n]
  | .lit (.string bs) => [.string ⟨bs.toArray⟩]
  | .lit (.bool b) => [.bool b]
  | .agg ps => SB ps
  | _ => []
def SB {H : Type} : List (DataW H) → List Value
  | [] => []
  | d :: r => KE d ++ SB r
end
def SC {H : Type} : DataW H → List Value
  | .iface _ (.ptr (.agg ps)) => SB ps
  | _ => []
noncomputable def low : Nat := (World.holding Tryz.prog default ⟨#[], #[], []⟩).heap.size
noncomputable def NI (os : Os) : World := { World.holding Tryz.prog os ⟨#[.cells (SC (Rows.laid_strconv_ErrRange : DataW Unit)).toArray 265, .cells (SC (Rows.laid_strconv_ErrSyntax : DataW Unit)).toArray 265], #[], []⟩ with heap := ((((((((((World.holding Tryz.prog os ⟨#[.cells (SC (Rows.laid_strconv_ErrRange : DataW Unit)).toArray 265, .cells (SC (Rows.laid_strconv_ErrSyntax : DataW Unit)).toArray 265], #[], []⟩).heap.modify 9 fun o => match o with | .cells _ t frozen => .cells #[.iface 263 (.pointer (some ⟨low + 0, 0, none⟩))] t frozen | o => o).modify 8 fun o => match o with | .cells _ t frozen => .cells #[.iface 263 (.pointer (some ⟨low + 1, 0, none⟩))] t frozen | o => o).modify 6 fun o => match o with | .cells _ t frozen => .cells (KE (Rows.laid_math_bits_deBruijn32tab : DataW Unit)).toArray t frozen | o => o).modify 7 fun o => match o with | .cells _ t frozen => .cells (KE (Rows.laid_math_bits_deBruijn64tab : DataW Unit)).toArray t frozen | o => o).modify 3 fun o => match o with | .cells _ t frozen => .cells (KE (Rows.laid_internal_strconv_uint64pow10 : DataW Unit)).toArray t frozen | o => o).modify 5 fun o => match o with | .cells _ t frozen => .cells (KE (Rows.laid_unicode_utf8_acceptRanges : DataW Unit)).toArray t frozen | o => o).modify 0 fun o => match o with | .cells _ t frozen => .cells (KE (Rows.laid_inglenook_inglenookref_verbs : DataW Unit)).toArray t frozen | o => o).modify 1 fun o => match o with | .cells _ t frozen => .cells (KE (Rows.laid_inglenook_words_verbs : DataW Unit)).toArray t frozen | o => o).modify 4 fun o => match o with | .cells _ t frozen => .cells (KE (Rows.laid_unicode_utf8_first : DataW Unit)).toArray t frozen | o => o) }
set_option maxRecDepth 100000 in
theorem Zw (os : Os) : laidMet Tryz.prog Rows.housePlaysRow.laid ((NI os).forCall (fun _ _ => 0) ⟨#[], #[.slice none 0 0], []⟩).memory :=
  laidMet_of_run' 8 (by kernel_rfl) (by kernel_rfl)
set_option maxRecDepth 100000 in
theorem reads (os : Os) {H : Type} (enc : TypeId × Value → H) : ∃ places, DataW.whole enc Tryz.prog ((NI os).forCall (fun _ _ => 0) ⟨#[], #[.slice none 0 0], []⟩).memory Tryz.f4.params.toList Rows.housePlaysSpec.vars false (#[.slice none 0 0] : Array Value).toList 8 = some ([.nil], [], places) := ⟨[], by kernel_rfl⟩
set_option maxRecDepth 100000 in
theorem MR (os : Os) (started : os.Started) (H : Type) (enc : TypeId × Value → H) (F : Stop.Interp) :
    ReturnsInHanded {} Tryz.checked os 4 .any ((OpenSpec.ofChange Rows.housePlaysSpec).preRow enc Tryz.prog Tryz.f4 Rows.housePlaysRow.domain false Rows.housePlaysRow.laid) (((OpenSpec.ofChange Rows.housePlaysSpec).at F).post enc Tryz.prog Tryz.f4 false true false false) := by
  obtain ⟨places, hx⟩ := reads os enc
  refine returnsInHanded_of_row (C := Tryz.checked) (s := (OpenSpec.ofChange Rows.housePlaysSpec)) own started (by kernel_rfl) Tryz.func4
    (witness_row_at (enc := enc) (C := Tryz.checked) false (NI os) #[.slice none 0 0] rfl (by kernel_rfl) (by kernel_rfl) (by kernel_rfl)
      (OpenSpec.preRow_of_cond 8 hx (by kernel_rfl) (fun k hk => by cases hk) (by kernel_rfl) (Zw os))) ?_
  intro W base args ds gs before hval hW _ hcond hsz hL hSh _
  refine Zx (B := 4) laidOut (by kernel_rfl) Tryz.underlying4 (by kernel_rfl) J (fun ds h => by rw [Tryz.params4] at h; match ds, h with | [d1], _ => rfl) hW ?_
  obtain ⟨p, q, hA, hV, _, _, _⟩ := hW
  rw [Tryz.params4] at hA
  obtain ⟨v0, vs0, d0, ds0, p0, q0, hv0, rfl, rfl, hd0, hA⟩ := trodAll_cons hA
  obtain ⟨hvn, rfl, rfl⟩ := trodAll_nil hA
  obtain rfl : args = #[v0] := by cases args; simp_all
  obtain ⟨f, rfl, w0⟩ := dM Tryz.underlying22 (hval 0 _ _ rfl rfl) (by kernel_rfl) (by decide) CD.fl jv hd0
  obtain ⟨_, l, r0, hl0, k0, hm0, hw0⟩ := w0
  exact LA _ _ (by exact VV Tryz.underlying22 Tryz.underlying28 rfl Tryz.underlying9 (by kernel_rfl) (by kernel_rfl) hd0 r0 (Ya hsz (j := 0) rfl rfl)) W r0 (cn hL Ej (by kernel_rfl) (by kernel_rfl) Tryz.underlying235 Tryz.underlying226 (by kernel_rfl) (by kernel_rfl)) (Ww hL GA (by kernel_rfl) (by kernel_rfl) Tryz.underlying153 Tryz.underlying9 (by kernel_rfl) (by kernel_rfl)) (Ww hL Ei (by kernel_rfl) (by kernel_rfl) Tryz.underlying153 Tryz.underlying9 (by kernel_rfl) (by kernel_rfl)) (kY hL HZ J (by kernel_rfl) (by kernel_rfl) Tryz.underlying138) (kY hL Hs J (by kernel_rfl) (by kernel_rfl) Tryz.underlying138)
theorem N4 : Rows.HousePlaysSaid :=
  OpenClaim.holds_of_cond 4 Tryz.f4 rfl rfl rfl rfl rfl rfl rfl ⟨rfl, rfl, rfl, rfl, rfl⟩ rfl rfl rfl rfl rfl (by kernel_rfl) Tryz.func4 (by kernel_rfl)
    (of_decide_eq_true (by kernel_rfl)) (by unfold Func.isWrapper; first | (rw [if_pos (by decide +kernel)]; kernel_rfl) | (rw [if_neg (by decide +kernel)]; exact ⟨rfl, rfl⟩))
    (fun os started H enc _ F => by rw [OpenClaim.pre_eq_preRow]; exact MR os started H enc F)
theorem YB (f : FuncId) (fn : Func) (hf : Tryz.pinned.checked.prog.funcNamed "inglenook/inglenooklaw.HousePlays" = some f) (hfn : Tryz.pinned.checked.prog.funcs[f]? = some fn) :
    true = Tryz.pinned.checked.prog.looks [] ∧ ∀ (j : Nat) t, fn.params[j]? = some t → Tryz.pinned.checked.prog.wantsStandIn t = false := by
  obtain rfl : f = 4 := Option.some.inj ((show Tryz.prog.funcNamed "inglenook/inglenooklaw.HousePlays" = some 4 by kernel_rfl).symm.trans hf) |>.symm
  obtain rfl : fn = Tryz.f4 := (Option.some.inj (Tryz.func4.symm.trans hfn)).symm
  refine ⟨by kernel_rfl, fun j t ht => ?_⟩
  rw [Tryz.params4] at ht
  have hm : t ∈ [22] := by simpa using Array.mem_of_getElem? ht
  have hall : ([22].all fun u => !Tryz.prog.wantsStandIn u) = true := by kernel_rfl
  exact (show Tryz.prog.wantsStandIn t = false by simpa using List.all_eq_true.1 hall t hm)
theorem housePlays_holds : Rows.HousePlaysCardSaid :=
  Claim7.holds_tied_plain_at .later [] _ _ _ _ N4 (fun _ h => by cases h) (by kernel_rfl) (fun _ h => by cases h) housePlays_row_tie rfl ⟨rfl, rfl⟩ (by kernel_rfl) rfl YB (by kernel_rfl)
end Go.Proofs.YtlmmdjaoikaceaaGreatDoor
