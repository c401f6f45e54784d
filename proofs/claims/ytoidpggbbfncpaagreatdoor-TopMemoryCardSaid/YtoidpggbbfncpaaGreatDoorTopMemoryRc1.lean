/- What the functions that the law of this seat reaches compute, and the plain laws of it. No condition. -/
import Derived.Test.YtoidpggbbfncpaaGreatDoorTopMemoryEc3
import Derived.Test.YtoidpggbbfncpaaGreatDoorTopMemoryRa1
import Derived.Test.YtoidpggbbfncpaaGreatDoorTopMemoryRb1
set_option linter.unusedSimpArgs false
set_option linter.unusedVariables false
/- Who is far perceives nothing: plain laws. -/
namespace Go.Ing
open Go
namespace AI
theorem Lz (w : AI) (e : Event) : ∀ n : Nat, (w.HK e n).kind = e.kind ∧ (w.HK e n).Dt = e.Dt ∧ (w.HK e n).room = e.room ∧ (w.HK e n).other = e.other ∧ (w.HK e n).n = e.n ∧ (w.HK e n).Hf = e.Hf ∧ (w.HK e n).EC = e.EC ∧ (w.HK e n).B2 = e.B2 ∧ (w.HK e n).text = e.text
 | 0 => ⟨rfl, rfl, rfl, rfl, rfl, rfl, rfl, rfl, rfl⟩
 | k + 1 => Lz w e k
end AI
namespace AG
section
variable {b c rc : Int} {S : Int → Prop} {T : AG}
section
variable (c0 : 0 ≤ c) (c6 : c < 6) (hn : c ≠ b)
include c0 c6 hn
end
end
end AG
end Go.Ing
/- What others are told is not empty: plain laws. -/
namespace Go.Ing
open Go
namespace AI
end AI
theorem Lk {α : Type} {d : α} {xs : List α} {i : Nat} (h : i < xs.length) : xs.getD i d ∈ xs := by
 rw [List.getD_eq_getElem?_getD, List.getElem?_eq_getElem h]
 exact List.getElem_mem h
namespace AG
theorem MI : ∀ (l : List Int) (T : AG), (T.Di l).out.length = T.out.length + l.length
 | [], T => rfl
 | i :: r, T => by rw [Di, MI r, FH]; show T.out.length + 1 + r.length = _; rw [List.length_cons]; omega
theorem N8 (v to : Int) : ∀ (l : List Int) (T : AG), (T.Fg v to l).out.length ≤ T.out.length + l.length
 | [], T => Nat.le_refl _
 | i :: r, T => by
  have h1 := N8 v to r (T.DS v to i)
  have h2 := T.No v to i
  rw [Fg, List.length_cons]; omega
theorem Qz (T : AG) {l : List Int} (hl : l.length ≤ 9) (o : Order) : (T.QI l o).out.length ≤ T.out.length + 10 := by
 have h := (Eb T.w l o.nth o.name o.Bn).length_le
 unfold QI
 rw [MI]
 split
 ·rw [CD]; omega
 ·omega
theorem Xt (T : AG) (o : Order) : (T.get o).out.length ≤ T.out.length + 11 := by
 have hb := T.HQ o.second
 unfold get
 split
 ·split
  ·omega
  ·have := Qz (T.box o.second).1 (AI.Hq (T.box o.second).1.w 2 (T.box o.second).2.1) o
   omega
 ·have := Qz T T.Hx o
  omega
theorem Ui (T : AG) (o : Order) : (T.G6 o).out.length ≤ T.out.length + 11 := by
 have hb := T.On o
 unfold G6
 split
 ·omega
 ·unfold WY
  have h := (Eb (T.DG o).1.w (T.DG o).1.own o.nth o.name o.Bn).length_le
  have h9 := (T.DG o).1.Jg
  refine Nat.le_trans (N8 _ _ _ _) ?_
  split
  ·rw [CD]; omega
  ·omega
theorem UA (T : AG) (o : Order) : (T.GW o).out.length ≤ T.out.length + 2 := by
 unfold GW
 generalize (if (!decide (o.nth = 1) || o.Bn) = true then [] else o.name) = nm
 have hs := T.Ge nm
 split
 ·omega
 ·refine Nat.le_trans (Nat.le_of_eq (CD _ _)) ?_
  split
  ·show (T.BN nm).1.out.length + 1 ≤ _; omega
  ·show (T.BN nm).1.out.length + 1 ≤ _; omega
theorem Mu (T : AG) (first : Bool) (i : Int) (v : Bool) (k : Int) : (T.before first i v k).out.length = T.out.length + 1 := by
 unfold before
 split
 ·rw [FH]; rfl
 ·exact FH T k i
theorem Xo (T : AG) (o : Order) : (T.set o).out.length ≤ T.out.length + 1 := by
 unfold set
 split
 ·unfold I1
  split
  ·rw [CD]; exact Nat.le_refl _
  ·split
   ·rw [CD]; exact Nat.le_refl _
   ·refine Nat.le_trans (Nat.le_of_eq (CU _ _)) ?_
    split <;> exact Nat.le_refl _
 ·split
  ·rw [CD]; exact Nat.le_refl _
  ·split
   ·rw [CD]; exact Nat.le_refl _
   ·split
    ·exact Nat.le_of_eq (Mu T _ _ _ _)
    ·exact Nat.le_of_eq (Mu T _ _ _ _)
theorem WE (T : AG) (d : Int) : (T.walk d).out.length ≤ T.out.length + 11 := by
 unfold walk
 split
 ·rw [CD]; omega
 ·split
  ·rw [CD]; omega
  ·refine Nat.le_trans (Nh _).2.2 ?_
   rw [CU]
   show (T.out ++ [_]).length + 1 + 9 ≤ _
   simp
theorem XW (T : AG) (o : Order) : (T.act o).out.length ≤ T.out.length + 11 := by
 unfold act
 split
 ·exact T.WE _
 ·split
  ·exact Nat.le_trans (T.Nh).2.2 (by omega)
  ·split
   ·rw [(T.IP _ _).2.2]; omega
   ·split
    ·rw [CU]; omega
    ·split
     ·rw [(T.Vo).2.1, Kj]; omega
     ·split
      ·exact Nat.le_trans (T.UA o) (by omega)
      ·split
       ·exact T.Xt o
       ·split
        ·exact T.Ui o
        ·exact Nat.le_trans (T.Xo o) (by omega)
end AG
end Go.Ing
/- A round of all fights: plain functions and laws. -/
namespace Go.Ing
open Go
theorem Co (d : Int) : -2 ≤ d.tmod 3 ∧ d.tmod 3 ≤ 2 := by
 have h1 := Int.tmod_lt_of_pos d (show (0 : Int) < 3 by decide)
 have h2 := Int.tmod_lt_of_pos (-d) (show (0 : Int) < 3 by decide)
 rw [Int.neg_tmod] at h2
 omega
namespace AG
def FX (w : AI) (b : Int) : AG := ⟨w.C1 b { w.AW.at b with BM := 1 }, b, []⟩
def F6 (w : AI) (b : Int) : AG := ((FX w b).kind 15).GH
def Iw (w : AI) (b : Int) : AG := (F6 w b).DI b { (F6 w b).w.AW.at b with room := 0, BM := 10 }
def Ie (w : AI) (b : Int) : AG := if decide (b < 2) = true then (F6 w b).DI b default else ((Iw w b).kind 17).look
def K4 (draw b : Int) : Int := 1 + (draw.tmod 3 + 3 + b).tmod 3
def CK (w : AI) (b B7 n : Int) : AG := (AG.Bl ⟨w, b, []⟩ { GR 14 with other := B7, n := n }).DI B7 { w.AW.at B7 with BM := max 0 ((w.AW.at B7).BM - n) }
def Es (draw b : Int) (s : AI × List Event) : AI × List Event :=
 if (!(s.1.AW.at b).here || decide ((s.1.AW.at b).B7 = 0)) = true then s
 else if (!(s.1.AW.at ((s.1.AW.at b).B7 - 1)).here || !decide ((s.1.AW.at ((s.1.AW.at b).B7 - 1)).room = (s.1.AW.at b).room)) = true then (s.1.C1 b { s.1.AW.at b with B7 := 0 }, s.2)
 else if decide (((CK s.1 b ((s.1.AW.at b).B7 - 1) (K4 draw b)).w.AW.at ((s.1.AW.at b).B7 - 1)).BM = 0) = true then ((Ie (CK s.1 b ((s.1.AW.at b).B7 - 1) (K4 draw b)).w ((s.1.AW.at b).B7 - 1)).w, (s.2 ++ (CK s.1 b ((s.1.AW.at b).B7 - 1) (K4 draw b)).out) ++ (Ie (CK s.1 b ((s.1.AW.at b).B7 - 1) (K4 draw b)).w ((s.1.AW.at b).B7 - 1)).out)
 else ((CK s.1 b ((s.1.AW.at b).B7 - 1) (K4 draw b)).w, s.2 ++ (CK s.1 b ((s.1.AW.at b).B7 - 1) (K4 draw b)).out)
def EF (X : AI) (draw : Int) : Nat → AI × List Event
 | 0 => (X, [])
 | k + 1 => Es draw k (EF X draw k)
def Cg (X : AI) (draw : Int) : AI × List Event × Int := if (!X.Br) = true then (X, [], 2) else ((EF X draw 6).1, (EF X draw 6).2, 0)
theorem HO {X : AI} {draw k : Int} (h : 0 ≤ k) : EF X draw (k + 1).toNat = Es draw k (EF X draw k.toNat) := by
 obtain ⟨m, rfl⟩ := Int.eq_ofNat_of_zero_le h
 rfl
theorem Mi {draw b : Int} (h : 0 ≤ b) : 1 ≤ K4 draw b ∧ K4 draw b ≤ 3 := by
 unfold K4
 have := Co draw
 have h2 : 0 ≤ draw.tmod 3 + 3 + b := by omega
 have h3 := Int.tmod_nonneg (a := draw.tmod 3 + 3 + b) 3 h2
 have h4 := Int.tmod_lt_of_pos (draw.tmod 3 + 3 + b) (show (0 : Int) < 3 by decide)
 omega
structure Wv (x : Al) : Prop where
 room : 0 ≤ x.room ∧ x.room < 6
 BM : 0 ≤ x.BM ∧ x.BM ≤ 10
 B7 : 0 ≤ x.B7 ∧ x.B7 ≤ 6
 off : x.here = false → x.B7 = 0
 alive : x.here = decide (0 < x.BM)
theorem aH {x : Al} (h : AI.DT x = false) : Wv x := by
 simp only [AI.DT, Bool.or_eq_false_iff, decide_eq_false_iff_not, Bool.and_eq_false_iff, Bool.not_eq_false', bne_eq_false_iff_eq] at h
 obtain ⟨⟨⟨⟨⟨⟨⟨q1, q2⟩, q3⟩, q4⟩, q5⟩, q6⟩, q7⟩, q8⟩ := h
 refine ⟨by omega, by omega, by omega, fun e => ?_, q8⟩
 rcases q7 with q | q
 ·rw [e] at q; cases q
 ·exact of_decide_eq_true q
theorem ZO {x : Al} (h : Wv x) : AI.DT x = false := by
 have h1 := h.room; have h2 := h.BM; have h3 := h.B7
 simp only [AI.DT, Bool.or_eq_false_iff, decide_eq_false_iff_not, Bool.and_eq_false_iff, Bool.not_eq_false', bne_eq_false_iff_eq]
 refine ⟨⟨⟨⟨⟨⟨⟨by omega, by omega⟩, by omega⟩, by omega⟩, by omega⟩, by omega⟩, ?_⟩, h.alive⟩
 cases hh : x.here with
 | true => exact .inl rfl
 | false => exact .inr (decide_eq_true (h.off hh))
theorem HT {X : AI} (h : X.Br = true) {b : Int} (h0 : 0 ≤ b) (h6 : b < 6) : Wv (X.AW.at b) := aH (AI.Fj h h0 h6)
theorem I3 {X : AI} (h : X.Br = true) {b : Int} (h0 : 0 ≤ b) (h6 : b < 6) {x : Al} (hx : Wv x) (hh : (X.AW.at b).here = true → x.here = true) : (X.C1 b x).Br = true :=
 AI.Jm h h0 h6 (ZO hx) fun i i0 i9 e1 e2 => by
  rcases (AI.Lu h i0 i9).Cr with ⟨a, _⟩ | ⟨_, _, a⟩ | ⟨a, _⟩
  ·omega
  ·rw [e2] at a; exact hh a
  ·omega
theorem Uf (X : AI) (b : Int) (x y : Al) : (X.C1 b x).C1 b y = X.C1 b y := by
 unfold AI.C1
 show ({ X with AW := (X.AW.put b x).put b y } : AI) = _
 rw [Vector.EY]
section
variable {w : AI} {b B7 n : Int} (hg : w.Br = true) (hw : w.D4) (f0 : 0 ≤ B7) (f6 : B7 < 6) (hh : (w.AW.at B7).here = true)
include hg hw f0 f6 hh
theorem J8 : (FX (CK w b B7 n).w B7).Fit := by
 have e : (CK w b B7 n).w.C1 B7 { (CK w b B7 n).w.AW.at B7 with BM := 1 } = w.C1 B7 { w.AW.at B7 with BM := 1 } := by
  show (w.C1 B7 _).C1 B7 { (w.C1 B7 _).AW.at B7 with BM := 1 } = _
  rw [Uf, AI.Ec f0 f6]
 have k := HT hg f0 f6
 refine ⟨⟨f0, f6⟩, ?_, ?_, ?_⟩
 ·show ((CK w b B7 n).w.C1 B7 _).D4
  rw [e]; exact EZ hw (hw.be B7)
 ·show ((CK w b B7 n).w.C1 B7 _).Br = true
  rw [e]
  exact I3 hg f0 f6 ⟨k.room, ⟨show (0 : Int) ≤ 1 by decide, show (1 : Int) ≤ 10 by decide⟩, k.B7, k.off, by rw [show ({ w.AW.at B7 with BM := 1 } : Al).here = true from hh]; rfl⟩ fun _ => hh
 ·show (((CK w b B7 n).w.C1 B7 _).AW.at B7).here = true
  rw [e, AI.Ec f0 f6]; exact hh
theorem Q6 (hn : 0 < (w.AW.at B7).BM - n) (h1 : 0 ≤ n) : (CK w b B7 n).w.Br = true ∧ (CK w b B7 n).w.D4 := by
 have k := HT hg f0 f6
 have hk := k.BM
 refine ⟨I3 hg f0 f6 ⟨k.room, ⟨?_, ?_⟩, k.B7, k.off, ?_⟩ fun _ => hh, EZ hw (hw.be B7)⟩
 ·show 0 ≤ max 0 ((w.AW.at B7).BM - n); omega
 ·show max 0 ((w.AW.at B7).BM - n) ≤ 10; omega
 ·show (w.AW.at B7).here = decide (0 < max 0 ((w.AW.at B7).BM - n))
  rw [hh, decide_eq_true (by omega)]
end
theorem Lw (w : AI) (b : Int) : (F6 w b).b = b ∧ (F6 w b).out = ((FX w b).kind 15).out := SY ((FX w b).kind 15)
theorem SO (w : AI) (b : Int) : (Iw w b).b = b ∧ (Iw w b).out = ((FX w b).kind 15).out ∧ (Iw w b).w = (F6 w b).w.C1 b { (F6 w b).w.AW.at b with room := 0, BM := 10 } := by
 have h := Lw w b
 unfold Iw
 rw [(DW _ _ _).1, (DW _ _ _).2.1, (DW _ _ _).2.2]
 exact ⟨h.1, h.2, rfl⟩
theorem Xq (D : AI) {b : Int} (hb : 0 ≤ b ∧ b < 6) : ({ D with AW := (D.AW.put b { D.AW.at b with room := 0 }).put b { (D.AW.put b { D.AW.at b with room := 0 }).at b with BM := 10 } } : AI) = D.C1 b { D.AW.at b with room := 0, BM := 10 } := by
 rw [Vector.CN hb.1 hb.2, Vector.EY]; rfl
theorem Sv {X F : AI} {b : Int} (h : F = ((FX X b).kind 15).GH.w) (x : Al) : (F6 X b).DI b x = ⟨F.C1 b x, b, ((FX X b).kind 15).out⟩ := by
 subst h
 have e := Lw X b
 have h1 := DW (F6 X b) b x
 cases hT : (F6 X b).DI b x with
 | mk w' b' o' =>
  rw [hT] at h1
  obtain ⟨q1, q2, q3⟩ := h1
  simp only at q1 q2 q3
  rw [q1, q2, q3, e.1, e.2]
  rfl
theorem Xn {X F : AI} {b : Int} (h : F = ((FX X b).kind 15).GH.w) : Iw X b = ⟨F.C1 b { F.AW.at b with room := 0, BM := 10 }, b, ((FX X b).kind 15).out⟩ := by
 have h' : (F6 X b).w = F := h.symm
 unfold Iw
 rw [h', Sv h]
theorem P8 {w : AI} {b : Int} (h : (FX w b).Fit) : Gd (FX w b) (F6 w b) ∧ ∀ j, 0 ≤ j → j < 9 → ¬ (((F6 w b).w.AX.at j).Cr = 1 ∧ ((F6 w b).w.AX.at j).at_ = b) := by
 have g1 : Gd (FX w b) ((FX w b).kind 15) := h.goes.Pa rfl rfl
 obtain ⟨g2, k⟩ := To g1.fit
 exact ⟨g1.trans g2, k⟩
theorem RL {w : AI} {b : Int} (h : (FX w b).Fit) : (Iw w b).Fit := by
 have g := (P8 h).1.fit
 have hb : 0 ≤ b ∧ b < 6 := h.b
 have e := SO w b
 have eb := (Lw w b).1
 have gb := g.b
 have gh := g.here
 rw [eb] at gb gh
 have k := HT g.gd hb.1 hb.2
 have gbr := g.br
 have ggd := g.gd
 obtain ⟨e1, _, e3⟩ := e
 generalize hD : (F6 w b).w = D at *
 have hx : (D.C1 b { D.AW.at b with room := 0, BM := 10 }).Br = true := I3 ggd hb.1 hb.2 ⟨⟨Int.le_refl _, show (0 : Int) < 6 by decide⟩, ⟨show (0 : Int) ≤ 10 by decide, show (10 : Int) ≤ 10 by decide⟩, k.B7, k.off, gh⟩ fun _ => gh
 have hy : (D.C1 b { D.AW.at b with room := 0, BM := 10 }).D4 := EZ gbr (gbr.be b)
 have hz : ((D.C1 b { D.AW.at b with room := 0, BM := 10 }).AW.at b).here = true := by rw [AI.Ec hb.1 hb.2]; exact gh
 exact ⟨by rw [e1]; exact hb, by rw [e3]; exact hy, by rw [e3]; exact hx, by rw [e1, e3]; exact hz⟩
theorem Oy {w : AI} {b : Int} (h : (FX w b).Fit) : (Ie w b).w.Br = true ∧ (Ie w b).w.D4 ∧ (Ie w b).out.length ≤ 12 := by
 have hb : 0 ≤ b ∧ b < 6 := h.b
 obtain ⟨g, hk⟩ := P8 h
 unfold Ie
 split
 ·rw [(DW _ _ _).2.1, (DW _ _ _).2.2]
  refine ⟨AI.Jm (X := (F6 w b).w) g.fit.gd hb.1 hb.2 (by decide) fun i i0 i9 e1 e2 => absurd ⟨e1, e2⟩ (hk i i0 i9), EZ (X := (F6 w b).w) g.fit.br (by decide), ?_⟩
  rw [(Lw w b).2, Kj]
  exact (by decide : (0 : Nat) + 1 ≤ 12)
 ·have f := RL h
  have hl := Nh ((Iw w b).kind 17)
  refine ⟨by rw [hl.1]; exact f.gd, by rw [hl.1]; exact f.br, ?_⟩
  have h2 := hl.2.2
  rw [Kj, (SO w b).2.1, Kj] at h2
  exact Nat.le_trans h2 (by decide : (0 : Nat) + 1 + 1 + 9 ≤ 12)
theorem F4 {s : AI × List Event} {draw b : Int} (hg : s.1.Br = true) (hw : s.1.D4) (h0 : 0 ≤ b) (h6 : b < 6) : (Es draw b s).1.Br = true ∧ (Es draw b s).1.D4 ∧ (Es draw b s).2.length ≤ s.2.length + 13 := by
 have kb := HT hg h0 h6
 have hn := Mi (draw := draw) h0
 unfold Es
 split
 ·exact ⟨hg, hw, by omega⟩
 ·rename_i h1
  simp only [Bool.or_eq_true, Bool.not_eq_true', decide_eq_true_eq, not_or, Bool.not_eq_false] at h1
  have kf := kb.B7
  split
  ·exact ⟨I3 hg h0 h6 ⟨kb.room, kb.BM, ⟨Int.le_refl _, show (0 : Int) ≤ 6 by decide⟩, fun _ => rfl, kb.alive⟩ fun h => h, EZ hw (hw.be b), Nat.le_add_right _ _⟩
  ·rename_i h2
   simp only [Bool.or_eq_true, Bool.not_eq_true', decide_eq_false_iff_not, not_or, Bool.not_eq_false, Decidable.not_not] at h2
   have hf := J8 (b := b) (n := K4 draw b) hg hw (B7 := (s.1.AW.at b).B7 - 1) (by omega) (by omega) h2.1
   have hso : (CK s.1 b ((s.1.AW.at b).B7 - 1) (K4 draw b)).out.length = 1 := rfl
   split
   ·obtain ⟨d1, d2, d3⟩ := Oy hf
    refine ⟨d1, d2, ?_⟩
    show ((s.2 ++ _) ++ _).length ≤ _
    rw [List.length_append, List.length_append, hso]; omega
   ·rename_i h3
    have h3' : ¬ ((CK s.1 b ((s.1.AW.at b).B7 - 1) (K4 draw b)).w.AW.at ((s.1.AW.at b).B7 - 1)).BM = 0 := fun e => h3 (decide_eq_true e)
    have e : ((CK s.1 b ((s.1.AW.at b).B7 - 1) (K4 draw b)).w.AW.at ((s.1.AW.at b).B7 - 1)) = { s.1.AW.at ((s.1.AW.at b).B7 - 1) with BM := max 0 ((s.1.AW.at ((s.1.AW.at b).B7 - 1)).BM - K4 draw b) } := Vector.CN (by omega) (by omega)
    rw [e] at h3'
    have h3'' : ¬ max 0 ((s.1.AW.at ((s.1.AW.at b).B7 - 1)).BM - K4 draw b) = 0 := h3'
    obtain ⟨d1, d2⟩ := Q6 (b := b) (n := K4 draw b) hg hw (B7 := (s.1.AW.at b).B7 - 1) (by omega) (by omega) h2.1 (by omega) (by omega)
    refine ⟨d1, d2, ?_⟩
    show (s.2 ++ _).length ≤ _
    rw [List.length_append, hso]; omega
end AG
end Go.Ing
/- What a round takes: plain laws. -/
namespace Go.Ing
open Go
namespace AG
def O0 (v : Vector Int 6) (e : Event) : Vector Int 6 := if decide (e.kind = 14) = true then v.put e.other (v.at e.other + e.n) else v
def Ot (v : Vector Bool 6) (e : Event) : Vector Bool 6 := if decide (e.kind = 15) = true then v.put e.Dt true else v
def D1 (l : List Event) : Vector Int 6 := l.foldl O0 (Vector.replicate 6 default)
def FC (l : List Event) : Vector Bool 6 := l.foldl Ot (Vector.replicate 6 default)
theorem Ng (l : List Event) (e : Event) : D1 (l ++ [e]) = O0 (D1 l) e := by simp [D1]
theorem NY (l : List Event) (e : Event) : FC (l ++ [e]) = Ot (FC l) e := by simp [FC]
def Quiet (q : List Event) : Prop := ∀ e ∈ q, e.kind ≠ 14 ∧ e.kind ≠ 15
theorem Ny : ∀ {q : List Event} (v : Vector Int 6) (u : Vector Bool 6), Quiet q → q.foldl O0 v = v ∧ q.foldl Ot u = u
 | [], _, _, _ => ⟨rfl, rfl⟩
 | e :: r, v, u, h => by
  have he := h e (List.mem_cons_self ..)
  have hr : Quiet r := fun x hx => h x (List.mem_cons_of_mem _ hx)
  rw [List.foldl_cons, List.foldl_cons, O0, if_neg (by simp [he.1]), Ot, if_neg (by simp [he.2])]
  exact Ny v u hr
theorem Qs {l q : List Event} (h : Quiet q) : D1 (l ++ q) = D1 l ∧ FC (l ++ q) = FC l := by
 unfold D1 FC
 rw [List.foldl_append, List.foldl_append]
 exact Ny _ _ h
theorem Hb (T : AG) (e : Event) : ∃ x : Event, (T.Bl e).out = T.out ++ [x] ∧ x.kind = e.kind ∧ x.Dt = T.b ∧ x.other = e.other ∧ x.n = e.n := by
 obtain ⟨a1, a2, _, a4, a5, _⟩ := AI.Lz T.w (T.D8 e) 6
 have e2 : (T.D8 e).kind = e.kind ∧ (T.D8 e).Dt = T.b ∧ (T.D8 e).other = e.other ∧ (T.D8 e).n = e.n := by
  unfold D8
  split <;> exact ⟨rfl, rfl, rfl, rfl⟩
 exact ⟨_, rfl, a1.trans e2.1, a2.trans e2.2.1, a4.trans e2.2.2.1, a5.trans e2.2.2.2⟩
def MT (T T' : AG) : Prop := ∃ q, T'.out = T.out ++ q ∧ ∀ e ∈ q, e.kind = 16
theorem MT.refl (T : AG) : MT T T := ⟨[], by simp, fun _ h => by cases h⟩
theorem MT.tell {T T' : AG} (h : MT T T') (s : Au) : MT T (T'.tell s) := by
 obtain ⟨q, e, k⟩ := h
 obtain ⟨x, e2, k2, _⟩ := Hb T' { GR 16 with text := s }
 refine ⟨q ++ [x], ?_, fun y hy => ?_⟩
 ·show (T'.Bl _).out = _
  rw [e2, e, List.append_assoc]
 ·rcases List.mem_append.1 hy with hy | hy
  ·exact k y hy
  ·have : y = x := by simpa using hy
   rw [this]; exact k2
theorem MT.look {T T' : AG} (h : MT T T') : MT T T'.look := by
 have hk : ∀ {T'' : AG}, MT T T'' → ∀ k : Nat, MT T (T''.FZ k) := fun {T''} h' k => by
  induction k with
  | zero => exact h'
  | succ k ih =>
   unfold FZ
   split
   ·exact ih.tell _
   ·exact ih
 unfold AG.look
 split
 ·exact h.tell _
 ·refine hk ?_ 6
  have ha : MT T T'.J0 := (h.tell _).tell _
  unfold D0
  split
  ·exact ha.tell _
  ·exact ha
/-! #### who is struck, who dies -/
def calm (b : Int) (x : Al) : Al := { x with B7 := if x.B7 = b + 1 then 0 else x.B7 }
theorem WK {b : Int} {x : Al} (h : x.B7 = b + 1) : calm b x = { x with B7 := 0 } := by unfold calm; rw [if_pos h]
theorem Wg {b : Int} {x : Al} (h : ¬ x.B7 = b + 1) : calm b x = x := by unfold calm; rw [if_neg h]
theorem Qt (T : AG) (hb : 0 ≤ T.b) : ∀ k : Nat, k ≤ 6 → ∀ c : Int, 0 ≤ c → c < 6 → (T.Dz k).w.AW.at c = if c < (k : Int) then calm T.b (T.w.AW.at c) else T.w.AW.at c
 | 0, _, c, c0, _ => by rw [if_neg (by omega)]; rfl
 | k + 1, hk, c, c0, c6 => by
  have ih := Qt T hb k (by omega)
  have ihk := ih k (by omega) (by omega)
  rw [if_neg (by omega)] at ihk
  have ihc := ih c c0 c6
  unfold Dz
  rw [ihk]
  by_cases e : (T.w.AW.at (k : Int)).B7 = T.b + 1
  ·rw [if_pos (decide_eq_true e)]
   show (((T.Dz k).w.AW.put (k : Int) { (T.Dz k).w.AW.at (k : Int) with B7 := 0 }).at c) = _
   rw [Kc _ _ _ _ (by omega) (by omega) c0]
   by_cases ec : c = (k : Int)
   ·subst ec
    rw [if_pos rfl, if_pos (by omega), ihk, WK e]
   ·rw [if_neg ec, ihc]
    by_cases hl : c < (k : Int)
    ·rw [if_pos hl, if_pos (by omega)]
    ·rw [if_neg hl, if_neg (by omega)]
  ·rw [if_neg (by simpa using e), ihc]
   by_cases hl : c < (k : Int)
   ·rw [if_pos hl, if_pos (by omega)]
   ·rw [if_neg hl]
    by_cases ec : c = (k : Int)
    ·subst ec
     rw [if_pos (by omega), Wg e]
    ·rw [if_neg (by omega)]
theorem NN : ∀ (l : List Int) (T : AG), (T.Ci l).w.AW = T.w.AW
 | [], _ => rfl
 | i :: r, T => (NN r (T.Eg i)).trans rfl
theorem XX (T : AG) (hb : 0 ≤ T.b ∧ T.b < 6) {c : Int} (c0 : 0 ≤ c) (c6 : c < 6) : T.GH.w.AW.at c = if c = T.b then { T.w.AW.at c with B7 := 0 } else calm T.b (T.w.AW.at c) := by
 have hd := NN T.own T
 have hdb := (IK T.own T).1
 have hk := Qt (T.Ci T.own) (by rw [hdb]; exact hb.1) 6 (Nat.le_refl _)
 rw [hd, hdb] at hk
 rw [Mr]
 generalize (T.Ci T.own).Dz 6 = D at *
 show (D.w.AW.put T.b { D.w.AW.at T.b with B7 := 0 }).at c = _
 rw [Kc _ _ _ _ hb.1 hb.2 c0]
 have hc := hk c c0 c6
 rw [if_pos (by omega)] at hc
 by_cases e : c = T.b
 ·rw [if_pos e, if_pos e, ← e, hc]; rfl
 ·rw [if_neg e, if_neg e, hc]
structure Zp (w w' : AI) (f : Int) : Prop where
 al : ∀ c, 0 ≤ c → c < 6 → c ≠ f → (w'.AW.at c).BM = (w.AW.at c).BM ∧ (w'.AW.at c).room = (w.AW.at c).room ∧ (w'.AW.at c).here = (w.AW.at c).here ∧ ((w'.AW.at c).B7 = (w.AW.at c).B7 ∨ (w'.AW.at c).B7 = 0) ∧ (w'.AW.at c).B7 ≠ f + 1
 here : (w'.AW.at f).here = decide (2 ≤ f)
 B7 : (w'.AW.at f).B7 = 0
theorem TZ {w : AI} {f c : Int} (hf : 0 ≤ f ∧ f < 6) (c0 : 0 ≤ c) (c6 : c < 6) : (F6 w f).w.AW.at c = if c = f then { (FX w f).w.AW.at c with B7 := 0 } else calm f ((FX w f).w.AW.at c) := XX ((FX w f).kind 15) hf c0 c6
theorem VP {w : AI} {f c : Int} (hf : 0 ≤ f ∧ f < 6) (c0 : 0 ≤ c) (c6 : c < 6) (hn : c ≠ f) : (F6 w f).w.AW.at c = calm f (w.AW.at c) := by
 have h0 : (FX w f).w.AW.at c = w.AW.at c := AI.Ha hf.1 hf.2 c0 hn _
 rw [TZ hf c0 c6, h0, if_neg hn]
theorem Xi (f : Int) (hf : 0 ≤ f) (x : Al) : (calm f x).BM = x.BM ∧ (calm f x).room = x.room ∧ (calm f x).here = x.here ∧ ((calm f x).B7 = x.B7 ∨ (calm f x).B7 = 0) ∧ (calm f x).B7 ≠ f + 1 := by
 by_cases e : x.B7 = f + 1
 ·rw [WK e]
  refine ⟨rfl, rfl, rfl, .inr rfl, ?_⟩
  show (0 : Int) ≠ f + 1
  omega
 ·rw [Wg e]
  exact ⟨rfl, rfl, rfl, .inl rfl, e⟩
theorem S8 {w w1 w' : AI} {f : Int} (hf : 0 ≤ f ∧ f < 6) (ho : ∀ c, 0 ≤ c → c < 6 → c ≠ f → w1.AW.at c = calm f (w.AW.at c)) (he : ∀ c, 0 ≤ c → c < 6 → c ≠ f → w'.AW.at c = w1.AW.at c) (h1 : (w'.AW.at f).here = decide (2 ≤ f)) (h2 : (w'.AW.at f).B7 = 0) : Zp w w' f := by
 refine ⟨fun c c0 c6 hn => ?_, h1, h2⟩
 rw [he c c0 c6 hn, ho c c0 c6 hn]
 exact Xi f hf.1 _
theorem Tj {w : AI} {f : Int} (h : (FX w f).Fit) : Zp w (Ie w f).w f ∧ ∃ x q, (Ie w f).out = x :: q ∧ x.kind = 15 ∧ x.Dt = f ∧ Quiet q := by
 have hf : 0 ≤ f ∧ f < 6 := h.b
 have ho : ∀ c, 0 ≤ c → c < 6 → c ≠ f → (F6 w f).w.AW.at c = calm f (w.AW.at c) := fun c c0 c6 hn => VP hf c0 c6 hn
 obtain ⟨x, e1, k1, k2, _⟩ := Hb (FX w f) (GR 15)
 have hout : ((FX w f).kind 15).out = [x] := e1
 have g := (P8 h).1.fit
 have gh := g.here
 rw [(Lw w f).1] at gh
 have hme := TZ (w := w) hf hf.1 hf.2
 rw [if_pos rfl] at hme
 have hfoe : ((F6 w f).w.AW.at f).B7 = 0 := by rw [hme]
 unfold Ie
 split
 ·rename_i c2
  have c2' := of_decide_eq_true c2
  rw [(DW _ _ _).2.1, (DW _ _ _).2.2, (Lw w f).2, hout]
  generalize (F6 w f).w = D at *
  refine ⟨S8 (w1 := D) hf ho (fun c c0 _ hn => AI.Ha hf.1 hf.2 c0 hn _) ?_ ?_, x, [], rfl, k1, k2, fun e he => by cases he⟩
  ·show ((D.C1 f default).AW.at f).here = _
   rw [AI.Ec hf.1 hf.2, decide_eq_false (by omega)]; rfl
  ·show ((D.C1 f default).AW.at f).B7 = _
   rw [AI.Ec hf.1 hf.2]; rfl
 ·rename_i c2
  have c2' : ¬ f < 2 := fun e => c2 (decide_eq_true e)
  have hl := Nh ((Iw w f).kind 17)
  have e2 := SO w f
  obtain ⟨y, e3, k3, _⟩ := Hb (Iw w f) (GR 17)
  obtain ⟨q, e4, k4⟩ := (MT.refl ((Iw w f).kind 17)).look
  have e3' : ((Iw w f).kind 17).out = [x] ++ [y] := by rw [show ((Iw w f).kind 17).out = _ from e3, e2.2.1, hout]
  rw [hl.1, e4, e3', show ((Iw w f).kind 17).w = (Iw w f).w from rfl, e2.2.2]
  generalize (F6 w f).w = D at *
  refine ⟨S8 (w1 := D) hf ho (fun c c0 _ hn => AI.Ha hf.1 hf.2 c0 hn _) ?_ ?_, x, y :: q, rfl, k1, k2, fun e he => ?_⟩
  ·rw [AI.Ec hf.1 hf.2, decide_eq_true (by omega)]; exact gh
  ·rw [AI.Ec hf.1 hf.2]; exact hfoe
  ·rcases List.mem_cons.1 he with he | he
   ·rw [he, k3]; exact ⟨by decide, by decide⟩
   ·rw [k4 e he]; exact ⟨by decide, by decide⟩
/-! #### the count of a round -/
def bp (e : Event) : Prop := (e.kind = 14 → 1 ≤ e.n ∧ e.n ≤ 3 ∧ 0 ≤ e.other ∧ e.other < 6) ∧ (e.kind = 15 → 0 ≤ e.Dt ∧ e.Dt < 6)
structure SU (X : AI) (s : AI × List Event) : Prop where
 ev : ∀ e ∈ s.2, bp e
 un : ∀ c, 0 ≤ c → c < 6 → (FC s.2).at c = false → (s.1.AW.at c).BM = (X.AW.at c).BM - (D1 s.2).at c ∧ (s.1.AW.at c).room = (X.AW.at c).room ∧ (s.1.AW.at c).here = (X.AW.at c).here
 di : ∀ c, 0 ≤ c → c < 6 → (FC s.2).at c = true → (X.AW.at c).BM ≤ (D1 s.2).at c ∧ (s.1.AW.at c).here = decide (2 ≤ c) ∧ (s.1.AW.at c).B7 = 0 ∧ ∀ a, 0 ≤ a → a < 6 → (s.1.AW.at a).B7 ≠ c + 1
theorem V6 {α : Type} [Inhabited α] (c : Int) (c0 : 0 ≤ c) (c6 : c < 6) : (Vector.replicate 6 (default : α)).at c = default := by
 have : c = 0 ∨ c = 1 ∨ c = 2 ∨ c = 3 ∨ c = 4 ∨ c = 5 := by omega
 rcases this with rfl | rfl | rfl | rfl | rfl | rfl <;> rfl
theorem SU.start (X : AI) : SU X (X, []) := by
 have hh : ∀ c, 0 ≤ c → c < 6 → (D1 []).at c = 0 := fun c c0 c6 => V6 c c0 c6
 have hd : ∀ c, 0 ≤ c → c < 6 → (FC []).at c = false := fun c c0 c6 => V6 c c0 c6
 refine ⟨fun _ h => (by cases h), fun c c0 c6 _ => ⟨?_, rfl, rfl⟩, fun c c0 c6 h => ?_⟩
 ·show (X.AW.at c).BM = (X.AW.at c).BM - (D1 []).at c
  rw [hh c c0 c6]; omega
 ·have h' : (FC []).at c = true := h
  rw [hd c c0 c6] at h'; cases h'
theorem SU.next {X : AI} {s : AI × List Event} {draw b : Int} (h : SU X s) (hg : s.1.Br = true) (hw : s.1.D4) (h0 : 0 ≤ b) (h6 : b < 6) : SU X (Es draw b s) := by
 have kb := HT hg h0 h6
 have hn := Mi (draw := draw) h0
 unfold Es
 split
 ·exact h
 ·rename_i h1
  simp only [Bool.or_eq_true, Bool.not_eq_true', decide_eq_true_eq, not_or, Bool.not_eq_false] at h1
  have kf := kb.B7
  split
  ·have hb : ∀ c, 0 ≤ c → ((s.1.C1 b { s.1.AW.at b with B7 := 0 }).AW.at c).BM = (s.1.AW.at c).BM ∧ ((s.1.C1 b { s.1.AW.at b with B7 := 0 }).AW.at c).room = (s.1.AW.at c).room ∧ ((s.1.C1 b { s.1.AW.at b with B7 := 0 }).AW.at c).here = (s.1.AW.at c).here ∧ (((s.1.C1 b { s.1.AW.at b with B7 := 0 }).AW.at c).B7 = (s.1.AW.at c).B7 ∨ ((s.1.C1 b { s.1.AW.at b with B7 := 0 }).AW.at c).B7 = 0) := fun c c0 => by
    by_cases e : c = b
    ·subst e; rw [AI.Ec h0 h6]; exact ⟨rfl, rfl, rfl, .inr rfl⟩
    ·rw [AI.Ha h0 h6 c0 e]; exact ⟨rfl, rfl, rfl, .inl rfl⟩
   refine ⟨h.ev, fun c c0 c6 hd => ?_, fun c c0 c6 hd => ?_⟩
   ·obtain ⟨q1, q2, q3⟩ := h.un c c0 c6 hd
    obtain ⟨r1, r2, r3, _⟩ := hb c c0
    exact ⟨r1.trans q1, r2.trans q2, r3.trans q3⟩
   ·obtain ⟨q1, q2, q3, q4⟩ := h.di c c0 c6 hd
    obtain ⟨_, _, r3, r4⟩ := hb c c0
    refine ⟨q1, r3.trans q2, ?_, fun a a0 a6 => ?_⟩
    ·rcases r4 with r4 | r4
     ·exact r4.trans q3
     ·exact r4
    ·have := q4 a a0 a6
     rcases (hb a a0).2.2.2 with r | r
     ·rw [r]; exact this
     ·rw [r]; omega
  ·rename_i h2
   simp only [Bool.or_eq_true, Bool.not_eq_true', decide_eq_false_iff_not, not_or, Bool.not_eq_false, Decidable.not_not] at h2
   generalize hfo : (s.1.AW.at b).B7 - 1 = f at *
   generalize K4 draw b = n at *
   have f0 : 0 ≤ f := by omega
   have f6 : f < 6 := by omega
   have hf := J8 (b := b) (n := n) hg hw (B7 := f) f0 f6 h2.1
   have kf2 := (HT hg f0 f6).BM
   obtain ⟨x, ex, k1, k2, k3, k4⟩ := Hb ⟨s.1, b, []⟩ { GR 14 with other := f, n := n }
   have hso : (CK s.1 b f n).out = [x] := ex
   have hsw : (CK s.1 b f n).w = s.1.C1 f { s.1.AW.at f with BM := max 0 ((s.1.AW.at f).BM - n) } := rfl
   have k1' : x.kind = 14 := k1
   have k3' : x.other = f := k3
   have k4' : x.n = n := k4
   have hH : D1 (s.2 ++ [x]) = (D1 s.2).put f ((D1 s.2).at f + n) := by rw [Ng, O0, if_pos (decide_eq_true k1'), k3', k4']
   have hD : FC (s.2 ++ [x]) = FC s.2 := by rw [NY, Ot, if_neg (by rw [k1']; decide)]
   have hnd : (FC s.2).at f = false := by
    cases hh : (FC s.2).at f with
    | false => rfl
    | true => exact absurd (by omega : (s.1.AW.at b).B7 = f + 1) ((h.di f f0 f6 hh).2.2.2 b h0 h6)
   have hfe := h.un f f0 f6 hnd
   have hxe : bp x := ⟨fun _ => by rw [k3', k4']; omega, fun e => by rw [k1'] at e; cases e⟩
   have hev : ∀ e ∈ s.2 ++ [x], bp e := fun e he => by
    rcases List.mem_append.1 he with he | he
    ·exact h.ev e he
    ·have : e = x := by simpa using he
     rw [this]; exact hxe
   have hwc : ∀ c, 0 ≤ c → c ≠ f → (CK s.1 b f n).w.AW.at c = s.1.AW.at c := fun c c0 hne => by rw [hsw]; exact AI.Ha f0 f6 c0 hne _
   have hwf : (CK s.1 b f n).w.AW.at f = { s.1.AW.at f with BM := max 0 ((s.1.AW.at f).BM - n) } := by rw [hsw]; exact AI.Ec f0 f6 _
   have hwa : ∀ a, 0 ≤ a → ((CK s.1 b f n).w.AW.at a).B7 = (s.1.AW.at a).B7 := fun a a0 => by
    by_cases e : a = f
    ·rw [e, hwf]
    ·rw [hwc a a0 e]
   have hHc : ∀ c, 0 ≤ c → c ≠ f → ((D1 s.2).put f ((D1 s.2).at f + n)).at c = (D1 s.2).at c := fun c c0 hne => Vector.E4 f0 f6 c0 hne
   have hHf : ((D1 s.2).put f ((D1 s.2).at f + n)).at f = (D1 s.2).at f + n := Vector.CN f0 f6
   split
   ·rename_i h3
    have h3' := of_decide_eq_true h3
    rw [hwf] at h3'
    have h3'' : max 0 ((s.1.AW.at f).BM - n) = 0 := h3'
    obtain ⟨dd, y, q, e2, y1, y2, y3⟩ := Tj hf
    rw [e2, hso]
    generalize (Ie (CK s.1 b f n).w f).w = W at *
    have hA : D1 (s.2 ++ [x] ++ y :: q) = (D1 s.2).put f ((D1 s.2).at f + n) ∧ FC (s.2 ++ [x] ++ y :: q) = (FC s.2).put f true := by
     have hq := Qs (l := s.2 ++ [x] ++ [y]) y3
     rw [show s.2 ++ [x] ++ y :: q = s.2 ++ [x] ++ [y] ++ q by simp, hq.1, hq.2, Ng, NY, hH, hD, O0, if_neg (by rw [y1]; decide), Ot, if_pos (decide_eq_true y1), y2]
     exact ⟨rfl, rfl⟩
    refine ⟨fun e he => ?_, fun c c0 c6 hd => ?_, fun c c0 c6 hd => ?_⟩
    ·rcases List.mem_append.1 he with he | he
     ·exact hev e he
     ·rcases List.mem_cons.1 he with he | he
      ·rw [he]; exact ⟨fun e => absurd (y1.symm.trans e) (by decide), fun _ => by rw [y2]; exact ⟨f0, f6⟩⟩
      ·exact ⟨fun e' => absurd e' (y3 e he).1, fun e' => absurd e' (y3 e he).2⟩
    ·have hd' : ((FC s.2).put f true).at c = false := by rw [← hA.2]; exact hd
     have hne : c ≠ f := fun e => by
      rw [e, Vector.CN f0 f6] at hd'; cases hd'
     rw [Vector.E4 f0 f6 c0 hne] at hd'
     obtain ⟨q1, q2, q3⟩ := h.un c c0 c6 hd'
     obtain ⟨r1, r2, r3, _⟩ := dd.al c c0 c6 hne
     rw [hwc c c0 hne] at r1 r2 r3
     show (W.AW.at c).BM = (X.AW.at c).BM - (D1 (s.2 ++ [x] ++ y :: q)).at c ∧ _
     rw [hA.1, hHc c c0 hne]
     exact ⟨r1.trans q1, r2.trans q2, r3.trans q3⟩
    ·have hd' : ((FC s.2).put f true).at c = true := by rw [← hA.2]; exact hd
     show (X.AW.at c).BM ≤ (D1 (s.2 ++ [x] ++ y :: q)).at c ∧ _
     rw [hA.1]
     by_cases hne : c = f
     ·subst hne
      rw [hHf]
      refine ⟨by omega, dd.here, dd.B7, fun a a0 a6 => ?_⟩
      by_cases ea : a = c
      ·rw [ea, dd.B7]; omega
      ·exact (dd.al a a0 a6 ea).2.2.2.2
     ·rw [Vector.E4 f0 f6 c0 hne] at hd'
      rw [hHc c c0 hne]
      obtain ⟨q1, q2, q3, q4⟩ := h.di c c0 c6 hd'
      obtain ⟨_, _, r3, r4, _⟩ := dd.al c c0 c6 hne
      rw [hwc c c0 hne] at r3 r4
      refine ⟨q1, r3.trans q2, ?_, fun a a0 a6 => ?_⟩
      ·rcases r4 with r4 | r4
       ·exact r4.trans q3
       ·exact r4
      ·by_cases ea : a = f
       ·rw [ea, dd.B7]; omega
       ·have := q4 a a0 a6
        have r := (dd.al a a0 a6 ea).2.2.2.1
        rw [hwc a a0 ea] at r
        rcases r with r | r
        ·rw [r]; exact this
        ·rw [r]; omega
   ·rename_i h3
    have h3' : ¬ ((CK s.1 b f n).w.AW.at f).BM = 0 := fun e => h3 (decide_eq_true e)
    rw [hwf] at h3'
    have h3'' : ¬ max 0 ((s.1.AW.at f).BM - n) = 0 := h3'
    rw [hso]
    refine ⟨hev, fun c c0 c6 hd => ?_, fun c c0 c6 hd => ?_⟩
    ·have hd' : (FC s.2).at c = false := by rw [← hD]; exact hd
     show ((CK s.1 b f n).w.AW.at c).BM = (X.AW.at c).BM - (D1 (s.2 ++ [x])).at c ∧ _
     rw [hH]
     by_cases hne : c = f
     ·subst hne
      rw [hHf, hwf]
      refine ⟨?_, hfe.2.1, hfe.2.2⟩
      show max 0 ((s.1.AW.at c).BM - n) = _
      have := hfe.1
      omega
     ·rw [hHc c c0 hne, hwc c c0 hne]
      exact h.un c c0 c6 hd'
    ·have hd' : (FC s.2).at c = true := by rw [← hD]; exact hd
     have hne : c ≠ f := fun e => by rw [e, hnd] at hd'; cases hd'
     show (X.AW.at c).BM ≤ (D1 (s.2 ++ [x])).at c ∧ _
     rw [hH, hHc c c0 hne]
     obtain ⟨q1, q2, q3, q4⟩ := h.di c c0 c6 hd'
     refine ⟨q1, by rw [hwc c c0 hne]; exact q2, by rw [hwc c c0 hne]; exact q3, fun a a0 a6 => by rw [hwa a a0]; exact q4 a a0 a6⟩
theorem PI {X : AI} {draw : Int} (hg : X.Br = true) (hw : X.D4) : ∀ k : Nat, k ≤ 6 → SU X (EF X draw k) ∧ (EF X draw k).1.Br = true ∧ (EF X draw k).1.D4 ∧ (EF X draw k).2.length ≤ 13 * k
 | 0, _ => ⟨.start X, hg, hw, Nat.le_refl _⟩
 | k + 1, hk => by
  obtain ⟨h1, h2, h3, h4⟩ := PI hg hw k (by omega)
  obtain ⟨g1, g2, g3⟩ := F4 (draw := draw) (b := (k : Int)) h2 h3 (by omega) (by omega)
  exact ⟨h1.next h2 h3 (by omega) (by omega), g1, g2, by show (Es draw k (EF X draw k)).2.length ≤ _; omega⟩
theorem Vf {X : AI} {draw : Int} (hw : X.D4) (h : (Cg X draw).2.2 = 0) : SU X ((Cg X draw).1, (Cg X draw).2.1) ∧ (Cg X draw).1.Br = true ∧ (Cg X draw).2.1.length ≤ 78 := by
 unfold Cg at h ⊢
 split at h
 ·cases h
 ·rename_i h1
  rw [if_neg h1]
  obtain ⟨q1, q2, _, q4⟩ := PI (draw := draw) (by simpa using h1) hw 6 (Nat.le_refl _)
  generalize EF X draw 6 = S at *
  exact ⟨q1, q2, Nat.le_trans q4 (by decide)⟩
end AG
end Go.Ing
/- The document's side of what beings do: plain functions and laws. -/
namespace Go.Ing
open Go
namespace AG
/-! #### names of players -/
def low (c : UInt8) : Bool := decide ((c.toNat : Int) < 97) || decide (122 < (c.toNat : Int))
def HL (s : Au) (k : Nat) : Bool := (s.drop k).all fun c => !low c
theorem Uw {s : Au} {k : Int} (h0 : 0 ≤ k) (h1 : k < s.length) : HL s k.toNat = (!low (s.getD k.toNat 0) && HL s (k + 1).toNat) := by
 have hk : k.toNat < s.length := by omega
 unfold HL
 rw [List.drop_eq_getElem_cons hk, show (k + 1).toNat = k.toNat + 1 by omega, List.getD_eq_getElem?_getD, List.getElem?_eq_getElem hk]
 rfl
theorem VL (s : Au) : HL s (s.length : Int).toNat = true := by
 unfold HL
 rw [show (s.length : Int).toNat = s.length by omega, List.drop_length]; rfl
def V9 : Au := [115, 111, 109, 101, 111, 110, 101]
def bo : Au := [121, 111, 117]
def Je (s : Au) : Bool := HL s 0 && (decide (1 ≤ (s.length : Int)) && decide ((s.length : Int) ≤ 8) && !decide (s = V9) && !decide (s = bo))
/-! #### who enters -/
def K3 (X : AI) (s : Au) (k : Int) : Bool := (X.AW.at k).here && decide ((X.AW.at k).name = s)
def DK (X : AI) : Nat → Int
 | 0 => -1
 | n + 1 => if (!(X.AW.at ((5 - n : Nat) : Int)).here && decide (2 ≤ ((5 - n : Nat) : Int))) = true then ((5 - n : Nat) : Int) else DK X n
theorem N3 {X : AI} {k : Int} (h0 : 0 ≤ k) (h5 : k ≤ 5) : DK X (5 - (k - 1)).toNat = if (!(X.AW.at k).here && decide (2 ≤ k)) = true then k else DK X (5 - k).toNat := by
 have e : (5 - (k - 1)).toNat = (5 - k).toNat + 1 := by omega
 rw [e, DK, show ((5 - (5 - k).toNat : Nat) : Int) = k by omega]
theorem VB {X : AI} {k : Int} (h2 : 2 ≤ k) (h5 : k ≤ 5) (h : (!(X.AW.at k).here) = false) : DK X (5 - (k - 1)).toNat = DK X (5 - k).toNat := by
 rw [N3 (by omega) h5, h]; rfl
theorem Tc {X : AI} {k : Int} (h2 : 2 ≤ k) (h5 : k ≤ 5) (h : (!(X.AW.at k).here) = true) : DK X (5 - (k - 1)).toNat = k := by
 rw [N3 (by omega) h5, h, decide_eq_true h2]; rfl
theorem UC (X : AI) : DK X 6 = DK X 4 := by
 have h1 : DK X 6 = DK X 5 := by
  rw [DK, if_neg (by simp)]
 have h2 : DK X 5 = DK X 4 := by
  rw [DK, if_neg (by simp)]
 rw [h1, h2]
theorem Ov (X : AI) : ∀ n : Nat, n ≤ 6 → DK X n = -1 ∨ (2 ≤ DK X n ∧ DK X n ≤ 5)
 | 0, _ => .inl rfl
 | n + 1, h => by
  unfold DK
  split
  ·rename_i c
   rw [Bool.and_eq_true] at c
   have := of_decide_eq_true c.2
   exact .inr ⟨this, by omega⟩
  ·exact Ov X n (by omega)
def KQ (s : Au) : Al := { (default : Al) with name := s, here := true, BM := 10 }
def WJ (X : AI) (s : Au) (b : Int) : AG := ((⟨X.C1 b (KQ s), b, []⟩ : AG).kind 17).look
def Bj (X : AI) (s : Au) : AI × Int × List Event × Int :=
 if (!X.Br) = true then (X, 0, [], 2)
 else if (!Je s) = true then (X, 0, [], 1)
 else if (!CA 6 (fun k => !K3 X s k) 6) = true then (X, 0, [], 1)
 else if decide (DK X 6 < 0) = true then (X, 0, [], 4)
 else ((WJ X s (DK X 6)).w, DK X 6, (WJ X s (DK X 6)).out, 0)
theorem O6 (X : AI) (s : Au) : (Bj X s).2.2.1.length ≤ 10 := by
 unfold Bj
 split
 ·exact Nat.zero_le _
 ·split
  ·exact Nat.zero_le _
  ·split
   ·exact Nat.zero_le _
   ·split
    ·exact Nat.zero_le _
    ·exact (Nh _).2.2
theorem U0 {X : AI} {s : Au} {b : Int} (hg : X.Br = true) (hw : X.D4) (hs : s.length ≤ 140737488351232) (h0 : 0 ≤ b) (h6 : b < 6) : Fit ⟨X.C1 b (KQ s), b, []⟩ :=
 ⟨⟨h0, h6⟩, EZ hw hs, I3 hg h0 h6 ⟨⟨Int.le_refl _, show (0 : Int) < 6 by decide⟩, ⟨show (0 : Int) ≤ 10 by decide, show (10 : Int) ≤ 10 by decide⟩, ⟨Int.le_refl _, show (0 : Int) ≤ 6 by decide⟩, fun _ => rfl, rfl⟩ fun _ => rfl, by
  show ((X.C1 b (KQ s)).AW.at b).here = true
  rw [AI.Ec h0 h6]; rfl⟩
end AG
end Go.Ing
/- A round, as the document says it: plain laws. -/
namespace Go.Ing
open Go
theorem S0 {α : Type} [Inhabited α] {n : Nat} {v u : Vector α n} (h : ∀ i : Int, 0 ≤ i → i < n → v.at i = u.at i) : v = u := by
 apply Vector.ext
 intro i hi
 have := h (i : Int) (by omega) (by omega)
 unfold Vector.at at this
 rw [List.getD_eq_getElem?_getD, List.getD_eq_getElem?_getD] at this
 simpa [hi] using this
namespace AG
def pre (o : List Event) (T : AG) : AG := ⟨T.w, T.b, o ++ T.out⟩
theorem P6 (T : AG) {i : Int} (h0 : 0 ≤ i) (h9 : i < 9) (c : decide ((((T.w.AX.put i { T.w.AX.at i with Cr := 0 }).put i { (T.w.AX.put i { T.w.AX.at i with Cr := 0 }).at i with at_ := (T.w.AW.at T.b).room }).at i).kind = 2) = true) : ({ T.w with AX := ((T.w.AX.put i { T.w.AX.at i with Cr := 0 }).put i { (T.w.AX.put i { T.w.AX.at i with Cr := 0 }).at i with at_ := (T.w.AW.at T.b).room }).put i { ((T.w.AX.put i { T.w.AX.at i with Cr := 0 }).put i { (T.w.AX.put i { T.w.AX.at i with Cr := 0 }).at i with at_ := (T.w.AW.at T.b).room }).at i with on := false } } : AI) = (T.Eg i).w := by
 rw [Vector.CN h0 h9, Vector.CN h0 h9] at c
 rw [Vector.CN h0 h9, Vector.EY, Vector.CN h0 h9, Vector.EY]
 unfold Eg
 rw [if_pos (show decide ((T.w.AX.at i).kind = 2) = true from c)]; rfl
theorem Sw (T : AG) {i : Int} (h0 : 0 ≤ i) (h9 : i < 9) (c : decide ((((T.w.AX.put i { T.w.AX.at i with Cr := 0 }).put i { (T.w.AX.put i { T.w.AX.at i with Cr := 0 }).at i with at_ := (T.w.AW.at T.b).room }).at i).kind = 2) = false) : ({ T.w with AX := (T.w.AX.put i { T.w.AX.at i with Cr := 0 }).put i { (T.w.AX.put i { T.w.AX.at i with Cr := 0 }).at i with at_ := (T.w.AW.at T.b).room } } : AI) = (T.Eg i).w := by
 rw [Vector.CN h0 h9, Vector.CN h0 h9] at c
 rw [Vector.CN h0 h9, Vector.EY]
 unfold Eg
 rw [if_neg (show ¬ decide ((T.w.AX.at i).kind = 2) = true from by rw [show decide ((T.w.AX.at i).kind = 2) = false from c]; decide)]; rfl
theorem O1 {X : AI} (hw : X.D4) (draw : Int) : (Cg X draw).2.1.length ≤ 78 := by
 by_cases h : (Cg X draw).2.2 = 0
 ·exact (Vf hw h).2.2
 ·unfold Cg at h ⊢
  split
  ·exact Nat.zero_le _
  ·rename_i h1
   rw [if_neg h1] at h
   exact absurd rfl h
end AG
end Go.Ing
/- What beings do, as the document says it: plain laws. -/
namespace Go.Ing
open Go
namespace AG
def skip (w : AI) (u : Au) (i : Int) : Bool := !decide (u = []) && !decide (u = (w.AX.at i).name)
/-! #### what is taken -/
/-! #### what is set -/
/-! #### what is let go of -/
theorem TE (T : AG) (o : Order) : (T.DG o).1.w = T.w ∧ (T.DG o).1.b = T.b := by
 unfold DG
 split
 ·exact T.O2 o.second
 ·split
  ·exact T.Ni o.second
  ·exact ⟨rfl, rfl⟩
theorem Ou (T : AG) (o : Order) : 0 ≤ (T.DG o).2.1 ∧ (T.DG o).2.1 < 9 := by
 unfold DG
 split
 ·exact T.Xb o.second
 ·split
  ·have := T.LR o.second; omega
  ·exact ⟨Int.le_refl 0, show (0 : Int) < 9 by decide⟩
theorem WZ {T : AG} {o : Order} (hv : o.verb = 8 ∨ o.verb = 9 ∨ o.verb = 10) (h : (T.DG o).2.2 = true) : RW (T.DG o).1 o.verb (T.DG o).2.1 := by
 unfold RW
 rw [(T.TE o).1]
 unfold DG at h ⊢
 split at h
 ·rename_i h2
  rw [if_pos h2]
  obtain ⟨a0, a9, hk, _⟩ := YZ h
  have := of_decide_eq_true h2
  exact .inr (.inr ⟨by omega, by omega, a0, a9, hk⟩)
 ·rename_i h2
  rw [if_neg h2]
  split at h
  ·rename_i h3
   rw [if_pos h3]
   obtain ⟨a0, a6, _, hs⟩ := Q7 h
   exact .inr (.inl ⟨of_decide_eq_true h3, a0, a6, (AI.JX (AI.R9 hs).2.1).2.2⟩)
  ·rename_i h3
   rw [if_neg h3]
   refine .inl ?_
   rcases hv with e | e | e
   ·exact e
   ·exact absurd (decide_eq_true e) h2
   ·exact absurd (decide_eq_true e) h3
def KI (T : AG) (o : Order) : List Int := BP T.w T.own o.nth o.name o.Bn
def QS (T : AG) (o : Order) : AG := if decide (((T.KI o).length : Int) = 0) = true then T.tell PQ else T
theorem Y1 {T : AG} {o : Order} (h : decide (((T.KI o).length : Int) = 0) = true) : T.QS o = T.tell PQ := if_pos h
theorem ZF {T : AG} {o : Order} (h : decide (((T.KI o).length : Int) = 0) = false) : T.QS o = T := if_neg (by rw [h]; decide)
theorem YW (T : AG) (o : Order) : (T.QS o).w = T.w ∧ (T.QS o).b = T.b ∧ (T.QS o).out.length ≤ T.out.length + 1 := by
 unfold QS
 split
 ·exact ⟨rfl, rfl, by rw [CD]; exact Nat.le_refl _⟩
 ·exact ⟨rfl, rfl, Nat.le_succ _⟩
def P1 (T : AG) (to : Int) (o : Order) (k : Nat) : AG := (T.QS o).Fg o.verb to ((T.KI o).take k)
theorem MB {v to : Int} : ∀ (l : List Int) (T : AG) (i : Int), T.Fg v to (l ++ [i]) = (T.Fg v to l).DS v to i
 | [], _, _ => rfl
 | _ :: r, _, i => MB r _ i
theorem XT {l : List Int} {k : Int} (h0 : 0 ≤ k) (h1 : k < l.length) : l.take (k + 1).toNat = l.take k.toNat ++ [l.getD k.toNat 0] := by
 obtain ⟨m, rfl⟩ := Int.eq_ofNat_of_zero_le h0
 have hm : m < l.length := by omega
 show l.take (m + 1) = l.take m ++ [l.getD m 0]
 rw [List.take_add_one, List.getElem?_eq_getElem hm, List.getD_eq_getElem?_getD, List.getElem?_eq_getElem hm]
 rfl
theorem H4 {T : AG} {to : Int} {o : Order} {k : Int} (h0 : 0 ≤ k) (h1 : k < (T.KI o).length) : T.P1 to o (k + 1).toNat = (T.P1 to o k.toNat).DS o.verb to ((T.KI o).getD k.toNat 0) := by
 unfold P1
 rw [XT h0 h1, MB]
theorem Wm {T : AG} {to : Int} {o : Order} : T.P1 to o ((T.KI o).length : Int).toNat = T.WY to o := by
 unfold P1
 rw [show ((T.KI o).length : Int).toNat = (T.KI o).length by omega, List.take_length]
 rfl
theorem RR {T : AG} {o : Order} : (∀ i ∈ T.KI o, SS T.w T.b i) ∧ (T.KI o).Nodup ∧ (T.KI o).length ≤ 9 :=
 ⟨fun _ hi => (HS (Ek hi)).Xc, List.Nodup.sublist (Eb ..) (AI.UQ ..), Nat.le_trans (Eb ..).length_le (AG.Jg T)⟩
theorem N1 (v to : Int) : ∀ (l : List Int) (T : AG), (T.Fg v to l).out.length ≤ T.out.length + l.length ∧ (T.Fg v to l).b = T.b
 | [], _ => ⟨Nat.le_refl _, rfl⟩
 | i :: r, T => by
  obtain ⟨h1, h2⟩ := N1 v to r (T.DS v to i)
  have h3 := T.No v to i
  rw [Fg, List.length_cons]
  exact ⟨by omega, h2.trans (T.VA v to i)⟩
theorem VW (T : AG) (to : Int) (o : Order) (k : Nat) : (T.P1 to o k).out.length ≤ T.out.length + 10 ∧ (T.P1 to o k).b = T.b := by
 have hs := T.YW o
 obtain ⟨h1, h2⟩ := N1 o.verb to ((T.KI o).take k) (T.QS o)
 have h3 := (RR (T := T) (o := o)).2.2
 have h4 : ((T.KI o).take k).length ≤ (T.KI o).length := (List.take_sublist ..).length_le
 unfold P1
 exact ⟨by omega, h2.trans hs.2.1⟩
theorem RW.cr {T : AG} {v to : Int} (h : RW T v to) (hv : v = 10) : to < 6 := by
 rcases h with h | ⟨_, _, h, _⟩ | ⟨_, h, _⟩ <;> omega
theorem UB {T X : AG} {o : Order} {p : Bool} (hX : X = (T.DG o).1) (hp : p = (T.DG o).2.2) (h : (!p) = true) : T.G6 o = X := by
 rw [hp] at h
 rw [hX]
 exact if_pos h
theorem Rv {T X : AG} {o : Order} {to : Int} {p : Bool} (hX : X = (T.DG o).1) (ht : to = (T.DG o).2.1) (hp : p = (T.DG o).2.2) (h : (!p) = false) : T.G6 o = X.WY to o ∧ 0 ≤ to ∧ to < 9 ∧ (o.verb = 8 ∨ o.verb = 9 ∨ o.verb = 10 → RW X o.verb to) := by
 rw [hp] at h
 have h2 : (T.DG o).2.2 = true := by simpa using h
 rw [hX, ht]
 exact ⟨if_neg (by rw [h]; decide), (T.Ou o).1, (T.Ou o).2, fun hv => WZ hv h2⟩
/-! #### what a being does -/
theorem GP {T : AG} {o : Order} (h : o.verb < 6) : T.act o = T.walk o.verb := by
 unfold act; rw [if_pos (decide_eq_true h)]
theorem Mp (X : AI) (b : Int) (o : Order) : (Fh X b o).2.1.length ≤ 11 := by
 unfold Fh
 split
 ·exact Nat.zero_le _
 ·split
  ·exact Nat.zero_le _
  ·split
   ·exact Nat.zero_le _
   ·have := XW (⟨X, b, []⟩ : AG) o
    exact Nat.le_trans this (Nat.le_refl 11)
end AG
end Go.Ing
/- Engine: the same rules, said shorter. -/
namespace Go.Ing
open Go
section
variable {F : List (Nat × Value)} {v0 v1 v2 v3 v4 v5 v6 v7 v8 v9 v10 v11 : Value}
theorem Sub.t1 (k0 : Nat) (h0 : lk k0 F = some v0 := by rfl) : Sub F [(k0, v0)] := .cons h0 (.nil _)
theorem Sub.t2 (k0 k1 : Nat) (h0 : lk k0 F = some v0 := by rfl) (h1 : lk k1 F = some v1 := by rfl) : Sub F [(k0, v0), (k1, v1)] := .cons h0 (.cons h1 (.nil _))
theorem Sub.t3 (k0 k1 k2 : Nat) (h0 : lk k0 F = some v0 := by rfl) (h1 : lk k1 F = some v1 := by rfl) (h2 : lk k2 F = some v2 := by rfl) : Sub F [(k0, v0), (k1, v1), (k2, v2)] := .cons h0 (.cons h1 (.cons h2 (.nil _)))
theorem Sub.t4 (k0 k1 k2 k3 : Nat) (h0 : lk k0 F = some v0 := by rfl) (h1 : lk k1 F = some v1 := by rfl) (h2 : lk k2 F = some v2 := by rfl) (h3 : lk k3 F = some v3 := by rfl) : Sub F [(k0, v0), (k1, v1), (k2, v2), (k3, v3)] := .cons h0 (.cons h1 (.cons h2 (.cons h3 (.nil _))))
theorem Sub.t5 (k0 k1 k2 k3 k4 : Nat) (h0 : lk k0 F = some v0 := by rfl) (h1 : lk k1 F = some v1 := by rfl) (h2 : lk k2 F = some v2 := by rfl) (h3 : lk k3 F = some v3 := by rfl) (h4 : lk k4 F = some v4 := by rfl) : Sub F [(k0, v0), (k1, v1), (k2, v2), (k3, v3), (k4, v4)] := .cons h0 (.cons h1 (.cons h2 (.cons h3 (.cons h4 (.nil _)))))
theorem Sub.t6 (k0 k1 k2 k3 k4 k5 : Nat) (h0 : lk k0 F = some v0 := by rfl) (h1 : lk k1 F = some v1 := by rfl) (h2 : lk k2 F = some v2 := by rfl) (h3 : lk k3 F = some v3 := by rfl) (h4 : lk k4 F = some v4 := by rfl) (h5 : lk k5 F = some v5 := by rfl) : Sub F [(k0, v0), (k1, v1), (k2, v2), (k3, v3), (k4, v4), (k5, v5)] := .cons h0 (.cons h1 (.cons h2 (.cons h3 (.cons h4 (.cons h5 (.nil _))))))
theorem Sub.t7 (k0 k1 k2 k3 k4 k5 k6 : Nat) (h0 : lk k0 F = some v0 := by rfl) (h1 : lk k1 F = some v1 := by rfl) (h2 : lk k2 F = some v2 := by rfl) (h3 : lk k3 F = some v3 := by rfl) (h4 : lk k4 F = some v4 := by rfl) (h5 : lk k5 F = some v5 := by rfl) (h6 : lk k6 F = some v6 := by rfl) : Sub F [(k0, v0), (k1, v1), (k2, v2), (k3, v3), (k4, v4), (k5, v5), (k6, v6)] := .cons h0 (.cons h1 (.cons h2 (.cons h3 (.cons h4 (.cons h5 (.cons h6 (.nil _)))))))
theorem Sub.t8 (k0 k1 k2 k3 k4 k5 k6 k7 : Nat) (h0 : lk k0 F = some v0 := by rfl) (h1 : lk k1 F = some v1 := by rfl) (h2 : lk k2 F = some v2 := by rfl) (h3 : lk k3 F = some v3 := by rfl) (h4 : lk k4 F = some v4 := by rfl) (h5 : lk k5 F = some v5 := by rfl) (h6 : lk k6 F = some v6 := by rfl) (h7 : lk k7 F = some v7 := by rfl) : Sub F [(k0, v0), (k1, v1), (k2, v2), (k3, v3), (k4, v4), (k5, v5), (k6, v6), (k7, v7)] := .cons h0 (.cons h1 (.cons h2 (.cons h3 (.cons h4 (.cons h5 (.cons h6 (.cons h7 (.nil _))))))))
theorem Sub.t9 (k0 k1 k2 k3 k4 k5 k6 k7 k8 : Nat) (h0 : lk k0 F = some v0 := by rfl) (h1 : lk k1 F = some v1 := by rfl) (h2 : lk k2 F = some v2 := by rfl) (h3 : lk k3 F = some v3 := by rfl) (h4 : lk k4 F = some v4 := by rfl) (h5 : lk k5 F = some v5 := by rfl) (h6 : lk k6 F = some v6 := by rfl) (h7 : lk k7 F = some v7 := by rfl) (h8 : lk k8 F = some v8 := by rfl) : Sub F [(k0, v0), (k1, v1), (k2, v2), (k3, v3), (k4, v4), (k5, v5), (k6, v6), (k7, v7), (k8, v8)] := .cons h0 (.cons h1 (.cons h2 (.cons h3 (.cons h4 (.cons h5 (.cons h6 (.cons h7 (.cons h8 (.nil _)))))))))
theorem Sub.t10 (k0 k1 k2 k3 k4 k5 k6 k7 k8 k9 : Nat) (h0 : lk k0 F = some v0 := by rfl) (h1 : lk k1 F = some v1 := by rfl) (h2 : lk k2 F = some v2 := by rfl) (h3 : lk k3 F = some v3 := by rfl) (h4 : lk k4 F = some v4 := by rfl) (h5 : lk k5 F = some v5 := by rfl) (h6 : lk k6 F = some v6 := by rfl) (h7 : lk k7 F = some v7 := by rfl) (h8 : lk k8 F = some v8 := by rfl) (h9 : lk k9 F = some v9 := by rfl) : Sub F [(k0, v0), (k1, v1), (k2, v2), (k3, v3), (k4, v4), (k5, v5), (k6, v6), (k7, v7), (k8, v8), (k9, v9)] := .cons h0 (.cons h1 (.cons h2 (.cons h3 (.cons h4 (.cons h5 (.cons h6 (.cons h7 (.cons h8 (.cons h9 (.nil _))))))))))
theorem Sub.t11 (k0 k1 k2 k3 k4 k5 k6 k7 k8 k9 k10 : Nat) (h0 : lk k0 F = some v0 := by rfl) (h1 : lk k1 F = some v1 := by rfl) (h2 : lk k2 F = some v2 := by rfl) (h3 : lk k3 F = some v3 := by rfl) (h4 : lk k4 F = some v4 := by rfl) (h5 : lk k5 F = some v5 := by rfl) (h6 : lk k6 F = some v6 := by rfl) (h7 : lk k7 F = some v7 := by rfl) (h8 : lk k8 F = some v8 := by rfl) (h9 : lk k9 F = some v9 := by rfl) (h10 : lk k10 F = some v10 := by rfl) : Sub F [(k0, v0), (k1, v1), (k2, v2), (k3, v3), (k4, v4), (k5, v5), (k6, v6), (k7, v7), (k8, v8), (k9, v9), (k10, v10)] := .cons h0 (.cons h1 (.cons h2 (.cons h3 (.cons h4 (.cons h5 (.cons h6 (.cons h7 (.cons h8 (.cons h9 (.cons h10 (.nil _)))))))))))
end
section
variable {P : Program} {n : Nat} {w0 : World} {M : List Nat} {Q : Exit → Go.Act → World → Prop} {F F' : List (Nat × Value)} {L L' A K : List Ab} {ops : Array Oper} {rest l : List Oper} {d id : Nat} {op : Op} {T : TypeId} {pos : String} {Ce : Array Edge} {v v' : Value} {x y : Code}
theorem Gs (h : GL P n w0 M l.toArray (Exit.then (y.wp P Q) Q) l F L) : G P n w0 M (.seq (.region id l.toArray false) y) Q F L := Ao (AJ h)
theorem CB {z : Code} (h : GL P n w0 M l.toArray (Exit.then (y.wp P (Exit.then (z.wp P Q) Q)) (Exit.then (z.wp P Q) Q)) l F L) : G P n w0 M (.seq (.seq (.region id l.toArray false) y) z) Q F L := Ao (Ao (AJ h))
theorem Gn (hs : Sub F F') (h : G P n w0 M y Q F' L) : GL P n w0 M ops (Exit.then (y.wp P Q) Q) [] F L := AM (AB hs (AA h))
theorem Gt (h : PS P n w0 M op T F L v L') (k : GL P n w0 M ops Q rest ((d, v) :: F) L') (hd : Nat.blt d n = true := by rfl) : GL P n w0 M ops Q (⟨some d, op, T, pos, Ce, none⟩ :: rest) F L := Jd hd h k
theorem Gm {x : Operand} (h : ev F x = some v) (k : GL P n w0 M ops Q rest ((d, v) :: F) L) (hd : Nat.blt d n = true := by rfl) : GL P n w0 M ops Q (⟨some d, .move x, T, pos, Ce, none⟩ :: rest) F L := Jd hd (AE h) k
theorem Ga {x : Operand} (h : ev F x = some v) (k : GL P n w0 M ops Q rest ((d, v) :: F) L) (hd : Nat.blt d n = true := by rfl) : GL P n w0 M ops Q (⟨some d, .assign x, T, pos, Ce, none⟩ :: rest) F L := Jd hd (Az h) k
theorem Ba {j : Nat} {z : Bool} (t : Nat) (hj : (ops[j]?).bind (·.dst) = some t) (hb : lk t F = some (.bool z)) (h : z = true → PS P n w0 M op T F L v L) (k : GL P n w0 M ops Q rest ((d, cv z v) :: F) L) (hd : Nat.blt d n = true := by rfl) : GL P n w0 M ops Q (⟨some d, op, T, pos, Ce, some (j, true)⟩ :: rest) F L := YJ hj hb hd h k
theorem BZ {j : Nat} {z : Bool} (t : Nat) (hj : (ops[j]?).bind (·.dst) = some t) (hb : lk t F = some (.bool z)) (h : z = false → PS P n w0 M op T F L v L) (k : GL P n w0 M ops Q rest ((d, cv (!z) v) :: F) L) (hd : Nat.blt d n = true := by rfl) : GL P n w0 M ops Q (⟨some d, op, T, pos, Ce, some (j, false)⟩ :: rest) F L := X2 hj hb hd h k
theorem Gc {c : Operand} {b : Bool} (ht : b = true → G P n w0 M x Q F L) (hf : b = false → G P n w0 M y Q F L) (hc : ev F c = some (.bool b) := by rfl) : G P n w0 M (.cond c x y) Q F L := OF hc ht hf
end
section
variable {P : Program} {n : Nat} {w0 : World} {M : List Nat} {Q : Exit → Go.Act → World → Prop} {l : List Oper} {Rs : List Nat} {F : List (Nat × Value)}
variable {k i j d : Nat} {V A : List Nat} {D : List (Nat × (Nat × Value))} {L : List Ab} {op : Op} {T : TypeId} {pos : String} {Ce : Array Edge} {v v' : Value}
theorem Pf (i : Nat) (ho : l[i]? = some ⟨some d, op, T, pos, Ce, none⟩) (h : PS P n w0 M op T (EO D Ce.toList ++ F) L v L) (k' : IT P n w0 M Q l Rs F k (i :: V) (i :: A) ((i, (d, v)) :: D) L) (hc : Wi l V i Ce.toList = true := by kernel_rfl) (hlk : SM F d v := by first | exact .inl rfl | exact .inr rfl) : IT P n w0 M Q l Rs F (k + 1) V A D L :=
 BW i ho rfl hc (LH (Hw h)) k' hlk
theorem Gp {j : Nat} {y : Bool} (i t : Nat) (ho : l[i]? = some ⟨some d, op, T, pos, Ce, some (j, false)⟩) (hj : (l.toArray[j]?).bind (·.dst) = some t) (hb : lk t (EO D Ce.toList ++ F) = some (.bool y)) (h : y = false → PS P n w0 M op T (EO D Ce.toList ++ F) L v L) (k' : IT P n w0 M Q l Rs F k (i :: V) (i :: A) ((i, (d, cv (!y) v)) :: D) L) (hc : Wi l V i Ce.toList = true := by kernel_rfl) (hlk : SM F d (cv (!y) v) := by first | exact .inl rfl | exact .inr rfl) : IT P n w0 M Q l Rs F (k + 1) V A D L :=
 BW i ho rfl hc (GX (t := t) hj hb (fun q => Hw (h q))) k' hlk
theorem Lc {j : Nat} {y : Bool} (i t : Nat) (ho : l[i]? = some ⟨some d, op, T, pos, Ce, some (j, true)⟩) (hj : (l.toArray[j]?).bind (·.dst) = some t) (hb : lk t (EO D Ce.toList ++ F) = some (.bool y)) (h : y = true → PS P n w0 M op T (EO D Ce.toList ++ F) L v L) (k' : IT P n w0 M Q l Rs F k (i :: V) (i :: A) ((i, (d, cv y v)) :: D) L) (hc : Wi l V i Ce.toList = true := by kernel_rfl) (hlk : SM F d (cv y v) := by first | exact .inl rfl | exact .inr rfl) : IT P n w0 M Q l Rs F (k + 1) V A D L :=
 BW i ho rfl hc (Q0 (t := t) hj hb (fun q => Hw (h q))) k' hlk
theorem Pk (h : It P n w0 M Q l Rs F i D L A) (hr : reaches Rs i j = true := by kernel_rfl) : It P n w0 M Q l Rs F i D L (j :: A) := UG hr h
theorem Po (ho : l[j]? = some ⟨some d, op, T, pos, Ce, none⟩) (h : PS P n w0 M op T (EO D Ce.toList ++ F) L v' L) (hl : MR j D = some (d, v)) (e : v' = v) (k' : It P n w0 M Q l Rs F i D L A) : It P n w0 M Q l Rs F i D L (j :: A) := Va ho (LH (Hw h)) hl e k'
end
section
variable {P : Program} {n : Nat} {w0 : World} {M : List Nat} {F : List (Nat × Value)} {L : List Ab}
theorem cF {x : Operand} {c : Bool} {v : Value} (h : ev F x = some (cv (!c) v)) (q : c = false) : ev F x = some v := BX h (by rw [q]; rfl)
theorem Ah {T U f off b o : Nat} {x : Operand} (hf : FA P T f off) (hx : ev F x = some (.pointer (some ⟨b, o, none⟩))) : PS P n w0 M (.fieldAddr T x f) U F L (.pointer (some ⟨b, o + off, none⟩)) L := Kt hf hx
theorem BS {T : TypeId} {x : Operand} {p : Addr} (hx : ev F x = some (.pointer (some p))) : PS P n w0 M (.nilCheck x) T F L (.pointer (some p)) L := Ql hx
end
theorem AS.ar {α : Type} {n : Nat} [Inhabited α] {e : α → List Value} {sz : Nat} (fe : Flat e sz) {i : Int} (h : 0 ≤ i ∧ i < (n : Int)) : AS (B8 (n := n) e) e (i.toNat * sz) sz (fun v => v.at i) (fun v y => v.put i y) := AS.arr fe h.1 h.2
class Nz (a : Prop) (b : outParam Prop) : Prop where
 h : a → b
theorem kz {a b : Prop} [i : Nz a b] (h : a) : b := i.h h
section
variable {p : Prop} [Decidable p] {a b : Bool} {x y : Prop} {m n : Int}
instance (priority := low) : Nz p p := ⟨id⟩
instance : Nz (decide p = true) p := ⟨of_decide_eq_true⟩
instance (priority := low) : Nz (decide p = false) (¬ p) := ⟨of_decide_eq_false⟩
instance : Nz (decide (m < n) = false) (n ≤ m) := ⟨fun h => Int.not_lt.1 (of_decide_eq_false h)⟩
instance : Nz (decide (m ≤ n) = false) (n < m) := ⟨fun h => Int.not_le.1 (of_decide_eq_false h)⟩
instance [i : Nz (a = false) x] : Nz ((!a) = true) x := ⟨fun h => i.h (by simpa using h)⟩
instance [i : Nz (a = true) x] : Nz ((!a) = false) x := ⟨fun h => i.h (by simpa using h)⟩
instance [i : Nz (a = true) x] [j : Nz (b = true) y] : Nz ((a && b) = true) (x ∧ y) := ⟨fun h => ⟨i.h (cZ ▸ h).1, j.h (cZ ▸ h).2⟩⟩
instance [i : Nz (a = false) x] [j : Nz (b = false) y] : Nz ((a || b) = false) (x ∧ y) := ⟨fun h => ⟨i.h (cc ▸ h).1, j.h (cc ▸ h).2⟩⟩
instance [i : Nz (a = true) x] [j : Nz (b = true) y] : Nz ((a || b) = true) (x ∨ y) := ⟨fun h => (cl ▸ h : a = true ∨ b = true).imp i.h j.h⟩
instance [i : Nz (a = false) x] [j : Nz (b = false) y] : Nz ((a && b) = false) (x ∨ y) := ⟨fun h => (cu ▸ h : a = false ∨ b = false).imp i.h j.h⟩
end
section
variable {F : List (Nat × Value)} {P : Program} {L L' K rs : List Ab} {r r' s : Ab} {x : Operand} {v : Value} {xs : List Operand} {vs : List Value}
theorem Jp.h : Jp (r :: L) r r' (r' :: L) := .head
theorem Jp.t (h : Jp L r r' L') : Jp (s :: L) r r' (s :: L') := .tail h
theorem LQ.h : LQ (r :: L) r L := .head
theorem LQ.t (h : LQ L r L') : LQ (s :: L) r (s :: L') := .tail h
theorem Av.n : Av L [] L := .nil
theorem Av.c (h : LQ L r L') (hs : Av L' rs K) : Av L (r :: rs) K := .cons h hs
theorem MV.n : MV F [] [] := .nil
theorem MV.c (h : ev F x = some v) (hs : MV F xs vs) : MV F (x :: xs) (v :: vs) := .cons h hs
theorem Rs.n : Rs P F L [] [] := .nil
end
section
variable {α : Type} {a b c d e f g h i j : α} {l : List α}
theorem _root_.List.Mem.m0 : List.Mem a (a :: l) := .head _
theorem _root_.List.Mem.m1 : List.Mem a (b :: a :: l) := .tail _ .m0
theorem _root_.List.Mem.m2 : List.Mem a (b :: c :: a :: l) := .tail _ .m1
theorem _root_.List.Mem.m3 : List.Mem a (b :: c :: d :: a :: l) := .tail _ .m2
theorem _root_.List.Mem.m4 : List.Mem a (b :: c :: d :: e :: a :: l) := .tail _ .m3
theorem _root_.List.Mem.m5 : List.Mem a (b :: c :: d :: e :: f :: a :: l) := .tail _ .m4
theorem _root_.List.Mem.m6 : List.Mem a (b :: c :: d :: e :: f :: g :: a :: l) := .tail _ .m5
theorem _root_.List.Mem.m7 : List.Mem a (b :: c :: d :: e :: f :: g :: h :: a :: l) := .tail _ .m6
theorem _root_.List.Mem.m8 : List.Mem a (b :: c :: d :: e :: f :: g :: h :: i :: a :: l) := .tail _ .m7
end
end Go.Ing
/- A house's data, in Lean, and their parts. -/
namespace Go.Ing
open Go
structure A0 where
 state : Int
 A7 : Int
 EI : AO
 Dy : A9
 out : Ar
 told : Hd
instance : Inhabited A0 := ⟨⟨0, 0, default, ⟨[], false, false, ⟨none, 0, 0⟩⟩, ⟨⟨none, 0, 0⟩, 0, false, [], false⟩, ⟨none, 0, 0⟩⟩⟩
def A0.enc (x : A0) : List Value := Ax x.state ++ Ax x.A7 ++ AO.enc x.EI ++ A9.enc x.Dy ++ Ar.enc x.out ++ EP x.told
theorem A0.fl : Flat A0.enc 22 := ⟨fun x => by simp [A0.enc, A9.fl.len, Ar.fl.len, AO.fl.len, OM.len, Bz.len], fun x v hv => by
 simp only [A0.enc, List.mem_append] at hv
 rcases hv with ((((h | h) | h) | h) | h) | h
 ·exact Bz.one _ v h
 ·exact Bz.one _ v h
 ·exact AO.fl.one _ v h
 ·exact A9.fl.one _ v h
 ·exact Ar.fl.one _ v h
 ·exact OM.one _ v h⟩
theorem A0.l0 : AS A0.enc (Ax) 0 1 (fun x => x.state) (fun x y => { x with state := y }) :=
 AS.ER Bz (fun _ => []) (fun x => Ax x.A7 ++ AO.enc x.EI ++ A9.enc x.Dy ++ Ar.enc x.out ++ EP x.told) (fun _ => rfl) (fun x => by simp [A0.enc]) (fun x y => by simp [A0.enc])
theorem A0.l1 : AS A0.enc (Ax) 1 1 (fun x => x.A7) (fun x y => { x with A7 := y }) :=
 AS.ER Bz (fun x => Ax x.state) (fun x => AO.enc x.EI ++ A9.enc x.Dy ++ Ar.enc x.out ++ EP x.told) (fun x => by simp [Bz.len]) (fun x => by simp [A0.enc]) (fun x y => by simp [A0.enc])
theorem A0.l2 : AS A0.enc (AO.enc) 2 10 (fun x => x.EI) (fun x y => { x with EI := y }) :=
 AS.ER AO.fl (fun x => Ax x.state ++ Ax x.A7) (fun x => A9.enc x.Dy ++ Ar.enc x.out ++ EP x.told) (fun x => by simp [Bz.len]) (fun x => by simp [A0.enc]) (fun x y => by simp [A0.enc])
theorem A0.l3 : AS A0.enc (A9.enc) 12 4 (fun x => x.Dy) (fun x y => { x with Dy := y }) :=
 AS.ER A9.fl (fun x => Ax x.state ++ Ax x.A7 ++ AO.enc x.EI) (fun x => Ar.enc x.out ++ EP x.told) (fun x => by simp [AO.fl.len, Bz.len]) (fun x => by simp [A0.enc]) (fun x y => by simp [A0.enc])
theorem A0.l4 : AS A0.enc (Ar.enc) 16 5 (fun x => x.out) (fun x y => { x with out := y }) :=
 AS.ER Ar.fl (fun x => Ax x.state ++ Ax x.A7 ++ AO.enc x.EI ++ A9.enc x.Dy) (fun x => EP x.told) (fun x => by simp [A9.fl.len, AO.fl.len, Bz.len]) (fun x => by simp [A0.enc]) (fun x y => by simp [A0.enc])
theorem A0.l5 : AS A0.enc (EP) 21 1 (fun x => x.told) (fun x y => { x with told := y }) :=
 AS.ER OM (fun x => Ax x.state ++ Ax x.A7 ++ AO.enc x.EI ++ A9.enc x.Dy ++ Ar.enc x.out) (fun _ => []) (fun x => by simp [A9.fl.len, Ar.fl.len, AO.fl.len, Bz.len]) (fun x => by simp [A0.enc]) (fun x y => by simp [A0.enc])
structure AH where
 w : AI
 Ap : ON A0 4
 Cx : Int
 last : Hd
def AH.enc (x : AH) : List Value := AI.enc x.w ++ B8 A0.enc x.Ap ++ Ax x.Cx ++ EP x.last
theorem AH.fl : Flat AH.enc 255 := ⟨fun x => by simp [AH.enc, (I9 A0.fl).len, AI.fl.len, OM.len, Bz.len], fun x v hv => by
 simp only [AH.enc, List.mem_append] at hv
 rcases hv with ((h | h) | h) | h
 ·exact AI.fl.one _ v h
 ·exact (I9 A0.fl).one _ v h
 ·exact Bz.one _ v h
 ·exact OM.one _ v h⟩
theorem AH.l0 : AS AH.enc (AI.enc) 0 165 (fun x => x.w) (fun x y => { x with w := y }) :=
 AS.ER AI.fl (fun _ => []) (fun x => B8 A0.enc x.Ap ++ Ax x.Cx ++ EP x.last) (fun _ => rfl) (fun x => by simp [AH.enc]) (fun x y => by simp [AH.enc])
theorem AH.l1 : AS AH.enc (B8 A0.enc) 165 88 (fun x => x.Ap) (fun x y => { x with Ap := y }) :=
 AS.ER (I9 A0.fl) (fun x => AI.enc x.w) (fun x => Ax x.Cx ++ EP x.last) (fun x => by simp [AI.fl.len]) (fun x => by simp [AH.enc]) (fun x y => by simp [AH.enc])
theorem AH.l2 : AS AH.enc (Ax) 253 1 (fun x => x.Cx) (fun x y => { x with Cx := y }) :=
 AS.ER Bz (fun x => AI.enc x.w ++ B8 A0.enc x.Ap) (fun x => EP x.last) (fun x => by simp [(I9 A0.fl).len, AI.fl.len]) (fun x => by simp [AH.enc]) (fun x y => by simp [AH.enc])
theorem AH.l3 : AS AH.enc (EP) 254 1 (fun x => x.last) (fun x y => { x with last := y }) :=
 AS.ER OM (fun x => AI.enc x.w ++ B8 A0.enc x.Ap ++ Ax x.Cx) (fun _ => []) (fun x => by simp [(I9 A0.fl).len, AI.fl.len, Bz.len]) (fun x => by simp [AH.enc]) (fun x y => by simp [AH.enc])
end Go.Ing
/- What a house does: plain functions. -/
namespace Go.Ing
open Go
structure BA where
 state : Int
 A7 : Int
 EI : AO
 now : Au
 Cd : Bool
 ret : Bool
 queue : List Au
 pg : Page.Pg
 wait : List Au
 told : List Au
instance : Inhabited BA := ⟨⟨0, 0, default, [], false, false, [], ⟨0, false, [], false⟩, [], []⟩⟩
structure AN where
 w : AI
 Ap : Vector BA 4
 Cx : Int
 last : List Event
namespace BA
def NK (s : BA) : Bool := decide ((s.wait.length : Int) ≤ 60) && decide ((s.pg.ring.length : Int) ≤ 700) && decide (0 ≤ s.pg.shown) && decide (s.pg.shown ≤ 200)
def line (s : BA) (u : Au) : BA :=
 if (!s.NK) = true then s else if s.pg.cut = true then s
 else if decide (60 ≤ (s.wait.length : Int)) = true then { s with pg := { s.pg with cut := true } } else { s with wait := s.wait ++ [u] }
def note (s : BA) (u : Au) : BA := if (!s.pg.cut) = true then { s with told := s.told ++ [u] } else s
def tell (s : BA) (u : Au) : BA := (s.line u).note u
def send (s : BA) (u : Au) : BA := if (!s.NK) = true then s else if s.pg.cut = true then s else { s with pg := Page.put s.pg u }
def B3 (s : BA) : BA :=
 if (!s.NK || decide (s.EI.CZ < 0) || decide (200 < s.EI.CZ)) = true then s
 else { s with pg := (Page.B3 s.EI.CZ s.wait s.pg).1, wait := (Page.B3 s.EI.CZ s.wait s.pg).2 }
def FM (s : BA) : BA := { s with pg := { s.pg with shown := 0, B5 := false } }
def ZL (s : BA) (n : Int) : Nat := (max 0 (min n (s.pg.ring.length : Int))).toNat
def LV (s : BA) (n : Int) : BA := { s with pg := { s.pg with ring := s.pg.ring.drop (s.ZL n) } }
def out (s : BA) (n : Int) : Au := s.pg.ring.take (s.ZL n)
def KP (s : BA) : Bool :=
 !(decide (60 < (s.now.length : Int)) || decide (6 < (s.queue.length : Int)) || (s.Cd && decide (60 < (s.now.length : Int))) || (s.ret && (!decide (s.now = []) || s.Cd))) && (s.queue ++ [s.now]).all Bc.Fb
def typed (s : BA) (u : Au) : BA × Int :=
 if (!s.KP) = true then (s, 0)
 else
  let x := Bc.feed ⟨s.now, s.Cd, s.ret, s.queue, 0⟩ u
  ({ s with now := x.now, Cd := x.Cd, ret := x.ret, queue := x.queue }, x.lost)
def bytes (s : BA) (u : Au) : BA × Au := ({ s with EI := (s.EI.DQ u).1 }.send (s.EI.DQ u).2.2.1, (s.EI.DQ u).2.1)
def offer (s : BA) (opt : Int) : BA :=
 if decide ((s.EI.DD opt).2.1 = []) = true then { s with EI := ((s.EI.DD opt).1.Ask opt).1 }.send ([] ++ ((s.EI.DD opt).1.Ask opt).2.1)
 else { s with EI := (s.EI.DD opt).1 }.send ((s.EI.DD opt).2.1 ++ [])
end BA
namespace AN
def at_ (H : AN) (k : Int) : BA := H.Ap.at k
def set (H : AN) (k : Int) (s : BA) : AN := { H with Ap := H.Ap.put k s }
def tell (H : AN) (k : Int) (u : Au) : AN := H.set k ((H.at_ k).tell u)
def Cl (e : Event) (H : AN) : Nat → AN
 | 0 => H
 | k + 1 => if (!decide (((Cl e H k).at_ k).state = 2)) = true then Cl e H k else if (AI.tell e ((Cl e H k).at_ k).A7).2 = true then (Cl e H k).tell k (AI.tell e ((Cl e H k).at_ k).A7).1 else Cl e H k
def Is (H : AN) (l : List Event) : AN := l.foldl (fun X e => Cl e X 4) H
def HI (H : AN) (l : List Event) : AN := { H with last := H.last ++ l }.Is l
def FY : Order := { (default : Order) with verb := 20 }
def Sg (H : AN) (k : Int) : AN := { H with w := (AG.Fh H.w (H.at_ k).A7 FY).1 }
def leave (H : AN) (k : Int) : AN :=
 (if (decide ((H.at_ k).state = 2) && (H.w.AW.at (H.at_ k).A7).here) = true then ((H.Sg k).set k default).HI (AG.Fh H.w (H.at_ k).A7 FY).2.1 else H).set k default
def DY (H : AN) : Nat → AN × Bool
 | 0 => (H, false)
 | k + 1 =>
  if decide (((DY H k).1.at_ k).state = 0) = true then DY H k
  else if (((DY H k).1.at_ k).B3).pg.cut = true then (((DY H k).1.set k (((DY H k).1.at_ k).B3)).leave k, true)
  else ((DY H k).1.set k (((DY H k).1.at_ k).B3), (DY H k).2)
def Ip (H : AN) : Nat → AN
 | 0 => H
 | n + 1 => if (!(H.DY 4).2) = true then (H.DY 4).1 else (H.DY 4).1.Ip n
def B3 (H : AN) : AN := H.Ip 5
def Hf : Au := [87, 104, 111, 32, 97, 114, 101, 32, 121, 111, 117, 63]
def Qm : Au := [78, 111, 116, 32, 115, 111, 32, 102, 97, 115, 116, 46]
def Yd : Au := [87, 104, 97, 116, 63]
def Pc : Au := [84, 104, 97, 116, 32, 105, 115, 32, 110, 111, 32, 110, 97, 109, 101, 46]
def noRoom : Au := [84, 104, 101, 114, 101, 32, 105, 115, 32, 110, 111, 32, 114, 111, 111, 109, 46]
def RG (H : AN) (k : Int) : AN := ((H.set k ((({ (default : BA) with state := 1, A7 := -1 }).offer 3).offer 31)).tell k Hf).B3
def named (H : AN) (k : Int) (u : Au) : AN :=
 if decide ((AG.Bj H.w u).2.2.2 = 0) = true then ({ H with w := (AG.Bj H.w u).1 }.set k { H.at_ k with state := 2, A7 := (AG.Bj H.w u).2.1 }).HI (AG.Bj H.w u).2.2.1
 else if decide ((AG.Bj H.w u).2.2.2 = 4) = true then H.tell k noRoom
 else H.tell k Pc
def order (H : AN) (k : Int) (u : Au) : AN :=
 if (!decide ((Words.parse u).2 = 0)) = true then H.tell k Yd
 else if decide ((Words.parse u).1.verb = 20) = true then H.leave k
 else { H with w := (AG.Fh H.w (H.at_ k).A7 (Words.parse u).1).1 }.HI (AG.Fh H.w (H.at_ k).A7 (Words.parse u).1).2.1
def EJ (H : AN) (k : Int) : AN :=
 if decide ((H.at_ k).state = 0) = true then H
 else match (H.at_ k).queue with
  | [] => H
  | q :: r =>
   let H1 := H.set k { H.at_ k with queue := r }.FM
   if (H.at_ k).pg.B5 = true then H1
   else if decide ((H.at_ k).state = 1) = true then H1.named k (Words.PM 32 (Words.RT 32 q))
   else H1.order k q
def turns (H : AN) : Nat → AN
 | 0 => H
 | k + 1 => (turns H k).EJ k
def Oo (H : AN) (d : Int) : AN :=
 let X := H.turns 4
 ({ X with w := (AG.Cg X.w d).1 }.HI (AG.Cg X.w d).2.1).B3
def EK (H : AN) : Nat → AN
 | 0 => H
 | k + 1 => (EK H k).set k { (EK H k).at_ k with told := [] }
def begun (H : AN) : AN := { H with Cx := H.Cx + 1, last := [] }.EK 4
def ok : Be := ⟨0, []⟩
def byte (H : AN) (k : Int) (u : Au) : AN :=
 let s1 := (H.at_ k).bytes u
 let s2 := s1.1.typed s1.2
 ((if decide (0 < s2.2) = true then (H.set k s2.1).tell k Qm else H.set k s2.1)).B3
def El (X : AN) (a : B4) : AN × Be :=
 if decide (a.kind = 5) = true then (X.Oo a.n, ok)
 else if (decide (a.kind < 1) || decide (5 < a.kind)) = true then (X, ⟨5, []⟩)
 else if (decide (a.BL < 0) || decide (4 ≤ a.BL)) = true then (X, ⟨2, []⟩)
 else if (decide ((X.at_ a.BL).state = 0) != decide (a.kind = 1)) = true then (X, ⟨3, []⟩)
 else if decide (a.kind = 1) = true then (X.RG a.BL, ok)
 else if decide (a.kind = 2) = true then (X.byte a.BL a.bytes, ok)
 else if decide (a.kind = 3) = true then ((X.set a.BL ((X.at_ a.BL).LV a.n)).B3, ⟨0, (X.at_ a.BL).out a.n⟩)
 else ((X.leave a.BL).B3, ok)
def act (H : AN) (a : B4) : AN × Be := if decide (400 ≤ H.Cx) = true then (H, ⟨4, []⟩) else H.begun.El a
def new : AN := ⟨AI.new, Vector.replicate 4 default, 0, []⟩
def run : AN → List B4 → AN × List Be
 | H, [] => (H, [])
 | H, a :: l => ((run (H.act a).1 l).1, (H.act a).2 :: (run (H.act a).1 l).2)
end AN
end Go.Ing
/- Engine: several slices together; a seat of a house. -/
namespace Go.Ing
open Go
def Ab.C3 (l : List Ab) : Ab where
 CP := l.flatMap Ab.CP
 ok w := (∀ r ∈ l, r.ok w) ∧ l.Pairwise fun r s => ∀ b : Nat, b ∈ r.CP → b ∉ s.CP
 loc w w' h hw := ⟨fun r hr => r.loc w w' (fun b hb => h b (List.mem_flatMap.2 ⟨r, hr, hb⟩)) (hw.1 r hr), hw.2⟩
section
variable {w0 w : World} {M : List Nat} {l L : List Ab}
theorem St.YD (h : St w0 M w (Ab.C3 l :: L)) : St w0 M w (l ++ L) := by
 have hm : ∀ r ∈ l, ∀ b ∈ r.CP, b ∈ (Ab.C3 l).CP := fun r hr b hb => List.mem_flatMap.2 ⟨r, hr, hb⟩
 have hf := h.ok (Ab.C3 l) (List.mem_cons_self ..)
 refine ⟨h.os, h.tape, h.output, h.size, h.Gx, fun r hr => ?_, fun r hr => ?_, List.pairwise_append.2 ⟨hf.2, (List.pairwise_cons.1 h.IM).2, fun r hr s hs b hb => (List.pairwise_cons.1 h.IM).1 s hs b (hm r hr b hb)⟩⟩
 ·rcases List.mem_append.1 hr with hr | hr
  ·exact hf.1 r hr
  ·exact h.ok r (List.mem_cons_of_mem _ hr)
 ·rcases List.mem_append.1 hr with hr | hr
  ·exact fun b hb => h.CP _ (List.mem_cons_self ..) b (hm r hr b hb)
  ·exact h.CP r (List.mem_cons_of_mem _ hr)
theorem St.X7 (h : St w0 M w (l ++ L)) : St w0 M w (Ab.C3 l :: L) := by
 have hd := List.pairwise_append.1 h.IM
 refine ⟨h.os, h.tape, h.output, h.size, h.Gx, fun r hr => ?_, fun r hr => ?_, List.pairwise_cons.2 ⟨fun s hs b hb => ?_, hd.2.1⟩⟩
 ·rcases List.mem_cons.1 hr with rfl | hr
  ·exact ⟨fun r hr => h.ok r (List.mem_append_left _ hr), hd.1⟩
  ·exact h.ok r (List.mem_append_right _ hr)
 ·rcases List.mem_cons.1 hr with rfl | hr
  ·intro b hb
   obtain ⟨r, hr, hb'⟩ := List.mem_flatMap.1 hb
   exact h.CP r (List.mem_append_left _ hr) b hb'
  ·exact h.CP r (List.mem_append_right _ hr)
 ·obtain ⟨r, hr, hb'⟩ := List.mem_flatMap.1 hb
  exact hd.2.2 r hr s hs b hb'
end
structure BG where
 queue : List Au
 wait : List Au
 told : List Au
 deriving Inhabited
def FJ (T : Nat) (v : A0) (l : BG) : List Ab := [Ab.own v.Dy.queue T 1 (l.queue.flatMap A4), Ab.own v.out.wait T 1 (l.wait.flatMap A4), Ab.own v.told T 1 (l.told.flatMap A4)]
def Bt (T : Nat) (vs : Vector A0 4) (ls : Vector BG 4) : List Ab := FJ T (vs.at 0) (ls.at 0) ++ (FJ T (vs.at 1) (ls.at 1) ++ (FJ T (vs.at 2) (ls.at 2) ++ FJ T (vs.at 3) (ls.at 3)))
def F8 (T : Nat) (k : Int) (vs : Vector A0 4) (ls : Vector BG 4) : List Ab :=
 if k = 0 then FJ T (vs.at 1) (ls.at 1) ++ (FJ T (vs.at 2) (ls.at 2) ++ FJ T (vs.at 3) (ls.at 3))
 else if k = 1 then FJ T (vs.at 0) (ls.at 0) ++ (FJ T (vs.at 2) (ls.at 2) ++ FJ T (vs.at 3) (ls.at 3))
 else if k = 2 then FJ T (vs.at 0) (ls.at 0) ++ (FJ T (vs.at 1) (ls.at 1) ++ FJ T (vs.at 3) (ls.at 3))
 else FJ T (vs.at 0) (ls.at 0) ++ (FJ T (vs.at 1) (ls.at 1) ++ FJ T (vs.at 2) (ls.at 2))
theorem Im {α : Type} (a b c : List α) : (a ++ (b ++ c)).Perm (b ++ (a ++ c)) := by
 rw [← List.append_assoc, ← List.append_assoc]
 exact List.perm_append_comm.append_right c
theorem four {k : Int} (h0 : 0 ≤ k) (h1 : k < 4) : k = 0 ∨ k = 1 ∨ k = 2 ∨ k = 3 := by omega
theorem PD (T : Nat) {k : Int} (h0 : 0 ≤ k) (h1 : k < 4) (vs : Vector A0 4) (ls : Vector BG 4) : (Bt T vs ls).Perm (FJ T (vs.at k) (ls.at k) ++ F8 T k vs ls) := by
 unfold Bt F8
 rcases four h0 h1 with e | e | e | e <;> subst e
 ·exact .refl _
 ·exact Im _ _ _
 ·exact ((Im _ _ _).append_left _).trans (Im _ _ _)
 ·exact (((List.perm_append_comm).append_left _).append_left _).trans (((Im _ _ _).append_left _).trans (Im _ _ _))
theorem Te (T : Nat) {k : Int} (h0 : 0 ≤ k) (h1 : k < 4) (vs : Vector A0 4) (ls : Vector BG 4) (v : A0) (l : BG) : F8 T k (vs.put k v) (ls.put k l) = F8 T k vs ls := by
 have hv : ∀ i : Int, 0 ≤ i → i ≠ k → (vs.put k v).at i = vs.at i := fun i hi hn => Vector.E4 h0 h1 hi hn
 have hl : ∀ i : Int, 0 ≤ i → i ≠ k → (ls.put k l).at i = ls.at i := fun i hi hn => Vector.E4 h0 h1 hi hn
 unfold F8
 rcases four h0 h1 with e | e | e | e <;> subst e
 ·rw [if_pos rfl, if_pos rfl, hv 1 (by decide) (by decide), hv 2 (by decide) (by decide), hv 3 (by decide) (by decide), hl 1 (by decide) (by decide), hl 2 (by decide) (by decide), hl 3 (by decide) (by decide)]
 ·rw [if_neg (by decide), if_pos rfl, if_neg (by decide), if_pos rfl, hv 0 (by decide) (by decide), hv 2 (by decide) (by decide), hv 3 (by decide) (by decide), hl 0 (by decide) (by decide), hl 2 (by decide) (by decide), hl 3 (by decide) (by decide)]
 ·rw [if_neg (by decide), if_neg (by decide), if_pos rfl, if_neg (by decide), if_neg (by decide), if_pos rfl, hv 0 (by decide) (by decide), hv 1 (by decide) (by decide), hv 3 (by decide) (by decide), hl 0 (by decide) (by decide), hl 1 (by decide) (by decide), hl 3 (by decide) (by decide)]
 ·rw [if_neg (by decide), if_neg (by decide), if_neg (by decide), if_neg (by decide), if_neg (by decide), if_neg (by decide), hv 0 (by decide) (by decide), hv 1 (by decide) (by decide), hv 2 (by decide) (by decide), hl 0 (by decide) (by decide), hl 1 (by decide) (by decide), hl 2 (by decide) (by decide)]
def AH.BL (V : AH) (k : Int) (s : A0) : AH := { V with Ap := V.Ap.put k s }
def I4 (V : AH) (k : Int) (s : A0) : List Value := (V.BL k s).enc
theorem AS.BL (V : AH) {k : Int} (h0 : 0 ≤ k) (h1 : k < 4) : AS (I4 V k) A0.enc (165 + k.toNat * 22) 22 (fun s => s) (fun _ y => y) := by
 have hl := AH.l1.comp (AS.arr (n := 4) A0.fl h0 h1)
 refine ⟨fun x => ?_, hl.len, fun x => hl.U1 _, fun x y => ?_, hl.one⟩
 ·have := hl.get (V.BL k x)
  rw [show ((V.BL k x).Ap.at k) = x from Vector.CN h0 h1] at this
  exact this
 ·have := hl.set (V.BL k x) y
  rw [show ({ V.BL k x with Ap := (V.BL k x).Ap.put k y } : AH) = V.BL k y from by unfold AH.BL; rw [Vector.EY]] at this
  exact this
theorem Vector.LG {α : Type} [Inhabited α] {n : Nat} (v : Vector α n) {k : Int} (h0 : 0 ≤ k) (h1 : k < n) : v.put k (v.at k) = v := by
 apply S0
 intro i i0 i1
 by_cases e : i = k
 ·subst e; rw [Vector.CN h0 h1]
 ·rw [Vector.E4 h0 h1 i0 e]
theorem AH.Jb (V : AH) {k : Int} (h0 : 0 ≤ k) (h1 : k < 4) : V.BL k (V.Ap.at k) = V := by
 unfold AH.BL; rw [Vector.LG _ h0 h1]
def Ch (v : A0) (l : BG) : BA := ⟨v.state, v.A7, v.EI, v.Dy.now, v.Dy.Cd, v.Dy.ret, l.queue, Page.of v.out, l.wait, l.told⟩
def A2 (V : AH) (ls : Vector BG 4) (ev : List Event) : AN := ⟨V.w, Vector.ofFn fun i => Ch (V.Ap.at ((i : Nat) : Int)) (ls.at ((i : Nat) : Int)), V.Cx, ev⟩
theorem CY (V : AH) (ls : Vector BG 4) (ev : List Event) {k : Int} (h0 : 0 ≤ k) (h1 : k < 4) : (A2 V ls ev).at_ k = Ch (V.Ap.at k) (ls.at k) := by
 rcases four h0 h1 with e | e | e | e <;> subst e <;> rfl
theorem H3 (V : AH) (ls : Vector BG 4) (ev : List Event) {k : Int} (h0 : 0 ≤ k) (h1 : k < 4) (v : A0) (l : BG) : A2 (V.BL k v) (ls.put k l) ev = (A2 V ls ev).set k (Ch v l) := by
 unfold A2 AN.set AH.BL
 congr 1
 apply S0
 intro i i0 i1
 have hof : ∀ (f : Fin 4 → BA), (Vector.ofFn f).at i = f ⟨i.toNat, by omega⟩ := fun f => by
  rcases four i0 i1 with e | e | e | e <;> subst e <;> rfl
 rw [hof]
 have hi : ((i.toNat : Nat) : Int) = i := by omega
 by_cases e : i = k
 ·subst e
  rw [Vector.CN h0 h1]
  show Ch ((V.Ap.put i v).at ((i.toNat : Nat) : Int)) ((ls.put i l).at ((i.toNat : Nat) : Int)) = _
  rw [hi, Vector.CN h0 h1, Vector.CN h0 h1]
 ·rw [Vector.E4 h0 h1 i0 e, hof]
  show Ch ((V.Ap.put k v).at ((i.toNat : Nat) : Int)) ((ls.put k l).at ((i.toNat : Nat) : Int)) = Ch (V.Ap.at ((i.toNat : Nat) : Int)) (ls.at ((i.toNat : Nat) : Int))
  rw [hi, Vector.E4 h0 h1 i0 e, Vector.E4 h0 h1 i0 e]
section
variable {P : Program} {n : Nat} {w0 w : World} {M : List Nat} {Q : Exit → Go.Act → World → Prop} {F : List (Nat × Value)} {L K : List Ab} {cd : Code} {b T TS : Nat} {V : AH} {ls : Vector BG 4} {k : Int}
theorem St.Zx (h0 : 0 ≤ k) (h1 : k < 4) (h : St w0 M w (Ab.box b T V.enc :: Ab.C3 (Bt TS V.Ap ls) :: K)) :
  St w0 M w (Ab.own (V.Ap.at k).Dy.queue TS 1 ((ls.at k).queue.flatMap A4) :: Ab.own (V.Ap.at k).out.wait TS 1 ((ls.at k).wait.flatMap A4) :: Ab.own (V.Ap.at k).told TS 1 ((ls.at k).told.flatMap A4) :: Ab.box b T (I4 V k (V.Ap.at k)) :: Ab.C3 (F8 TS k V.Ap ls) :: K) := by
 have h2 : St w0 M w (Bt TS V.Ap ls ++ (Ab.box b T V.enc :: K)) := (h.perm (List.Perm.swap ..)).YD
 have h3 := h2.perm ((PD TS h0 h1 V.Ap ls).append_right _)
 have h4 : St w0 M w (F8 TS k V.Ap ls ++ (FJ TS (V.Ap.at k) (ls.at k) ++ (Ab.box b T V.enc :: K))) := by
  refine h3.perm ?_
  rw [List.append_assoc]
  exact Im _ _ _
 have h5 := h4.X7
 unfold I4
 rw [V.Jb h0 h1]
 refine h5.perm ?_
 exact (Im [Ab.C3 (F8 TS k V.Ap ls)] (FJ TS (V.Ap.at k) (ls.at k) ++ [Ab.box b T V.enc]) K).trans (.of_eq (by simp [FJ]))
theorem St.close' (h0 : 0 ≤ k) (h1 : k < 4) {s : A0} {qs ws ts : List Au} {q w' t : Hd} (hq : s.Dy.queue = q) (hw : s.out.wait = w') (ht : s.told = t)
  (h : St w0 M w (Ab.own q TS 1 (qs.flatMap A4) :: Ab.own w' TS 1 (ws.flatMap A4) :: Ab.own t TS 1 (ts.flatMap A4) :: Ab.box b T (I4 V k s) :: Ab.C3 (F8 TS k V.Ap ls) :: K)) :
  St w0 M w (Ab.box b T (V.BL k s).enc :: Ab.C3 (Bt TS (V.BL k s).Ap (ls.put k ⟨qs, ws, ts⟩)) :: K) := by
 subst hq hw ht
 have e1 : (V.BL k s).Ap.at k = s := Vector.CN h0 h1
 have e2 : (ls.put k ⟨qs, ws, ts⟩).at k = ⟨qs, ws, ts⟩ := Vector.CN h0 h1
 have hp := PD TS h0 h1 (V.BL k s).Ap (ls.put k ⟨qs, ws, ts⟩)
 rw [e1, e2, show F8 TS k (V.BL k s).Ap (ls.put k ⟨qs, ws, ts⟩) = F8 TS k V.Ap ls from Te TS h0 h1 _ _ _ _] at hp
 have h2 : St w0 M w (Ab.C3 (F8 TS k V.Ap ls) :: (FJ TS s ⟨qs, ws, ts⟩ ++ (Ab.box b T (V.BL k s).enc :: K))) :=
  h.perm ((Im [Ab.C3 (F8 TS k V.Ap ls)] (FJ TS s ⟨qs, ws, ts⟩ ++ [Ab.box b T (V.BL k s).enc]) K).symm.trans (.of_eq (by simp [FJ]))|>.symm.symm)
 have h3 := h2.YD
 have h4 : St w0 M w ((FJ TS s ⟨qs, ws, ts⟩ ++ F8 TS k V.Ap ls) ++ (Ab.box b T (V.BL k s).enc :: K)) := h3.perm (by rw [List.append_assoc]; exact Im _ _ _)
 have h5 := (h4.perm (hp.symm.append_right _)).X7
 exact h5.perm (List.Perm.swap ..)
theorem Eu (h0 : 0 ≤ k) (h1 : k < 4) (h : ∀ s l, V.Ap.at k = s → ls.at k = l → (s.Dy.queue.len = l.queue.length ∧ s.out.wait.len = l.wait.length ∧ s.told.len = l.told.length) → G P n w0 M cd Q F (Ab.own s.Dy.queue TS 1 (l.queue.flatMap A4) :: Ab.own s.out.wait TS 1 (l.wait.flatMap A4) :: Ab.own s.told TS 1 (l.told.flatMap A4) :: Ab.box b T (I4 V k s) :: Ab.C3 (F8 TS k V.Ap ls) :: K)) :
  G P n w0 M cd Q F (Ab.box b T V.enc :: Ab.C3 (Bt TS V.Ap ls) :: K) := fun a w hF hS =>
 have hO := hS.Zx h0 h1
 h _ _ rfl rfl ⟨(Kn.own (.head _) w hO).KV DB (by decide), (Kn.own (.tail _ (.head _)) w hO).KV DB (by decide), (Kn.own (.tail _ (.tail _ (.head _))) w hO).KV DB (by decide)⟩ a w hF hO
theorem GY (h0 : 0 ≤ k) (h1 : k < 4) {s : A0} {qs ws ts : List Au} {q w' t : Hd} (hq : s.Dy.queue = q) (hw : s.out.wait = w') (ht : s.told = t) (h : G P n w0 M cd Q F (Ab.box b T (V.BL k s).enc :: Ab.C3 (Bt TS (V.BL k s).Ap (ls.put k ⟨qs, ws, ts⟩)) :: K)) :
  G P n w0 M cd Q F (Ab.own q TS 1 (qs.flatMap A4) :: Ab.own w' TS 1 (ws.flatMap A4) :: Ab.own t TS 1 (ts.flatMap A4) :: Ab.box b T (I4 V k s) :: Ab.C3 (F8 TS k V.Ap ls) :: K) := fun a w hF hS => h a w hF (hS.close' h0 h1 hq hw ht)
theorem QU {x : Exit} (h0 : 0 ≤ k) (h1 : k < 4) {s : A0} {qs ws ts : List Au} {q w' t : Hd} (hq : s.Dy.queue = q) (hw : s.out.wait = w') (ht : s.told = t) (h : GQ n w0 M Q x F (Ab.box b T (V.BL k s).enc :: Ab.C3 (Bt TS (V.BL k s).Ap (ls.put k ⟨qs, ws, ts⟩)) :: K)) :
  GQ n w0 M Q x F (Ab.own q TS 1 (qs.flatMap A4) :: Ab.own w' TS 1 (ws.flatMap A4) :: Ab.own t TS 1 (ts.flatMap A4) :: Ab.box b T (I4 V k s) :: Ab.C3 (F8 TS k V.Ap ls) :: K) := fun a w hF hS => h a w hF (hS.close' h0 h1 hq hw ht)
end
theorem EW {V : AH} {ls : Vector BG 4} {ev : List Event} {k : Int} (h0 : 0 ≤ k) (h1 : k < 4) {s v : A0} {l l' : BG} (hs : V.Ap.at k = s) (hl : ls.at k = l) {f : BA → BA} (e : Ch v l' = f (Ch s l)) : A2 (V.BL k v) (ls.put k l') ev = (A2 V ls ev).set k (f ((A2 V ls ev).at_ k)) := by
 rw [H3 V ls ev h0 h1, CY V ls ev h0 h1, hs, hl, e]
theorem IQ {v : A0} {l : BG} (h : v.out.wait.len = l.wait.length) : (Ch v l).NK = Page.Br v.out := by
 unfold BA.NK Page.Br
 rw [h]; rfl
end Go.Ing
/- A house: plain laws for the walks. -/
namespace Go.Ing
open Go
theorem Vu {v : A0} {l : BG} {u : Au} (hw : v.out.wait.len = l.wait.length) (h : Page.Br v.out = false) : (Ch v l).line u = Ch v l := if_pos (by rw [IQ hw, h]; rfl)
theorem Vj {v : A0} {l : BG} {u : Au} (hw : v.out.wait.len = l.wait.length) (h : Page.Br v.out = true) (c : v.out.cut = true) : (Ch v l).line u = Ch v l := (if_neg (by rw [IQ hw, h]; decide)).trans (if_pos c)
theorem Tb {v : A0} {l : BG} {u : Au} (hw : v.out.wait.len = l.wait.length) (h : Page.Br v.out = true) (c : v.out.cut = false) (n : 60 ≤ l.wait.length) : (Ch v l).line u = Ch { v with out := ⟨v.out.wait, v.out.shown, v.out.B5, v.out.ring, true⟩ } l :=
 (if_neg (by rw [IQ hw, h]; decide)).trans ((if_neg (by show ¬ v.out.cut = true; rw [c]; decide)).trans (if_pos (decide_eq_true (show (60 : Int) ≤ (l.wait.length : Int) by omega))))
theorem Uz {v : A0} {l : BG} {u : Au} (hw : v.out.wait.len = l.wait.length) (h : Page.Br v.out = true) (c : v.out.cut = false) (n : l.wait.length < 60) (w : Hd) : (Ch v l).line u = Ch { v with out := ⟨w, v.out.shown, v.out.B5, v.out.ring, v.out.cut⟩ } ⟨l.queue, l.wait ++ [u], l.told⟩ :=
 (if_neg (by rw [IQ hw, h]; decide)).trans ((if_neg (by show ¬ v.out.cut = true; rw [c]; decide)).trans (if_neg (by rw [decide_eq_true_eq]; show ¬ (60 : Int) ≤ (l.wait.length : Int); omega)))
theorem Yc {v : A0} {l : BG} {u : Au} (h : (!v.out.cut) = true) (t : Hd) : (Ch v l).note u = Ch { v with told := t } ⟨l.queue, l.wait, l.told ++ [u]⟩ := if_pos h
theorem Y8 {v : A0} {l : BG} {u : Au} (h : (!v.out.cut) = false) : (Ch v l).note u = Ch v l := if_neg (by show ¬ (!v.out.cut) = true; rw [h]; decide)
theorem AN.IW (H : AN) {k j : Int} (h0 : 0 ≤ k) (h1 : k < 4) (j0 : 0 ≤ j) (s : BA) : (H.set k s).at_ j = if j = k then s else H.at_ j := by
 unfold AN.set AN.at_
 by_cases e : j = k
 ·subst e; rw [if_pos rfl]; exact Vector.CN h0 h1
 ·rw [if_neg e]; exact Vector.E4 h0 h1 j0 e
theorem CD (s : BA) (u : Au) : (s.tell u).told.length ≤ s.told.length + 1 := by
 have h : (s.line u).told = s.told := by
  unfold BA.line; split
  ·rfl
  ·split
   ·rfl
   ·split <;> rfl
 unfold BA.tell BA.note
 split
 ·show ((s.line u).told ++ [u]).length ≤ _
  rw [h, List.length_append]; exact Nat.le_refl _
 ·rw [h]; exact Nat.le_succ _
theorem KS {V V' : AH} {ls ls' : Vector BG 4} {ev ev' : List Event} {k : Int} {u : Au} (h0 : 0 ≤ k) (h1 : k < 4) (e : A2 V' ls' ev' = (A2 V ls ev).tell k u) {j : Int} (j0 : 0 ≤ j) (j1 : j < 4) :
  (ls'.at j).told.length ≤ (ls.at j).told.length + 1 ∧ (j ≠ k → (ls'.at j).told = (ls.at j).told) := by
 have h := congrArg (fun H => (AN.at_ H j).told) e
 simp only [AN.tell] at h
 rw [CY _ _ _ j0 j1, AN.IW _ h0 h1 j0] at h
 have h' : (ls'.at j).told = (if j = k then ((A2 V ls ev).at_ k).tell u else (A2 V ls ev).at_ j).told := h
 by_cases c : j = k
 ·subst c
  rw [if_pos rfl, CY _ _ _ j0 j1] at h'
  exact ⟨by rw [h']; exact CD _ _, fun hn => absurd rfl hn⟩
 ·rw [if_neg c, CY _ _ _ j0 j1] at h'
  exact ⟨by rw [h']; exact Nat.le_succ _, fun _ => h'⟩
theorem J5 {V : AH} {ls : Vector BG 4} {ev : List Event} {e : Event} {X : AN} {i : Int} (h0 : 0 ≤ i) (h1 : i < 4) (h : A2 V ls ev = AN.Cl e X i.toNat) : AN.Cl e X (i + 1).toNat = if (!decide ((V.Ap.at i).state = 2)) = true then A2 V ls ev else if (AI.tell e (V.Ap.at i).A7).2 = true then (A2 V ls ev).tell i (AI.tell e (V.Ap.at i).A7).1 else A2 V ls ev := by
 obtain ⟨m, rfl⟩ := Int.eq_ofNat_of_zero_le h0
 have ha := CY V ls ev h0 h1
 rw [show ((m : Int) + 1).toNat = m + 1 by omega, AN.Cl]
 rw [show ((m : Int)).toNat = m by omega] at h
 rw [← h, ha]
 rfl
theorem Rq {H : AN} {es : List Event} {k : Int} (h0 : 0 ≤ k) (h1 : k < es.length) : H.Is (es.take (k + 1).toNat) = AN.Cl (es.getD k.toNat default) (H.Is (es.take k.toNat)) 4 := by
 obtain ⟨m, rfl⟩ := Int.eq_ofNat_of_zero_le h0
 have hm : m < es.length := by omega
 show H.Is (es.take (m + 1)) = AN.Cl (es.getD m default) (H.Is (es.take m)) 4
 unfold AN.Is
 rw [List.take_add_one, List.getElem?_eq_getElem hm, List.foldl_append, List.getD_eq_getElem?_getD, List.getElem?_eq_getElem hm]
 rfl
def VE (ls : Vector BG 4) (n : Nat) : Prop := ∀ j : Int, 0 ≤ j → j < 4 → (ls.at j).told.length ≤ n
theorem WR {H : AN} {ev es : List Event} (h : H.last = ev) : AN.HI H es = ({ H with last := ev ++ es } : AN).Is es := by subst h; rfl
end Go.Ing
/- What is said in a land of short names is short: plain laws. -/
namespace Go.Ing
open Go
namespace AI
structure Lt (w : AI) : Prop where
 th : ∀ i, (w.AX.at i).name.length ≤ 100
 be : ∀ i, (w.AW.at i).name.length ≤ 100
 ro : ∀ i, (w.By.at i).name.length ≤ 100
theorem Lt.MH {w : AI} (h : w.Lt) : w.D4 := ⟨fun i => Nat.le_trans (h.th i) (by decide), fun i => Nat.le_trans (h.be i) (by decide), fun i => Nat.le_trans (h.ro i) (by decide)⟩
theorem VV {X : AI} (h : X.Lt) {i : Int} {t : Ak} (ht : t.name.length ≤ 100) : (X.KH i t).Lt := ⟨fun j => by
 rcases Vector.Ra X.AX i j t with e | e
 ·show ((X.AX.put i t).at j).name.length ≤ _; rw [e]; exact ht
 ·show ((X.AX.put i t).at j).name.length ≤ _; rw [e]; exact h.th j, h.be, h.ro⟩
theorem H7 {X : AI} (h : X.Lt) {i : Int} {t : Al} (ht : t.name.length ≤ 100) : (X.C1 i t).Lt := ⟨h.th, fun j => by
 rcases Vector.Ra X.AW i j t with e | e
 ·show ((X.AW.put i t).at j).name.length ≤ _; rw [e]; exact ht
 ·show ((X.AW.put i t).at j).name.length ≤ _; rw [e]; exact h.be j, h.ro⟩
theorem Vq {X : AI} (h : X.Lt) {r d : Int} {v : Bool} : (X.ZC r d v).Lt := ⟨h.th, h.be, fun j => by
 rcases Vector.Ra X.By r j { X.By.at r with shut := (X.By.at r).shut.put d v } with e | e
 ·show ((X.By.put r _).at j).name.length ≤ _; rw [e]; exact h.ro r
 ·show ((X.By.put r _).at j).name.length ≤ _; rw [e]; exact h.ro j⟩
end AI
namespace AG
structure Cs (T : AG) : Prop where
 HE : T.w.Lt
 out : ∀ e ∈ T.out, AI.Small e
theorem Le {w : AI} (hw : w.Lt) : ∀ (l : List Int) (s : Au), (HY w s l).length ≤ s.length + l.length * 102
 | [], s => by simp [HY]
 | i :: r, s => by
  have hn := hw.th i
  unfold HY
  split
  ·have := Le hw r (s ++ [32] ++ (w.AX.at i).name ++ [42])
   simp only [List.length_append, List.length_cons, List.length_nil] at this ⊢
   omega
  ·have := Le hw r (s ++ [32] ++ (w.AX.at i).name)
   simp only [List.length_append, List.length_cons, List.length_nil] at this ⊢
   omega
theorem MC : (default : Al).name.length ≤ 100 := by decide
section
variable {T : AG}
theorem Cs.Bl (h : Cs T) {e : Event} (h1 : e.B2.length ≤ 1000000) (h2 : e.text.length ≤ 1000000) (h3 : e.EC.length ≤ 1000000) (h4 : -9223372036854775808 ≤ e.n) (h5 : e.n ≤ 9223372036854775807) : Cs (T.Bl e) := by
 refine ⟨h.HE, fun x hx => ?_⟩
 rcases List.mem_append.1 (show x ∈ T.out ++ [T.w.HK (T.D8 e) 6] from hx) with hx | hx
 ·exact h.out x hx
 ·have hx' : x = T.w.HK (T.D8 e) 6 := by simpa using hx
  subst hx'
  obtain ⟨a1, a2, a3, a4, a5, a6, a7, a8, a9⟩ := AI.Lz T.w (T.D8 e) 6
  have e2 : (T.D8 e).n = e.n ∧ (T.D8 e).Hf = T.me.name ∧ (T.D8 e).EC.length ≤ 1000000 ∧ (T.D8 e).B2 = e.B2 ∧ (T.D8 e).text = e.text := by
   unfold D8
   split
   ·exact ⟨rfl, rfl, Nat.le_trans (h.HE.be _) (by decide), rfl, rfl⟩
   ·exact ⟨rfl, rfl, h3, rfl, rfl⟩
  obtain ⟨b4, b5, b6, b7, b8⟩ := e2
  refine ⟨?_, ?_, ?_, ?_, ?_, ?_⟩
  ·rw [a6, b5]; exact Nat.le_trans (h.HE.be T.b) (by decide)
  ·rw [a7]; exact Nat.le_trans b6 (by decide)
  ·rw [a8, b7]; exact Nat.le_trans h1 (by decide)
  ·rw [a9, b8]; exact Nat.le_trans h2 (by decide)
  ·rw [a5, b4]; exact h4
  ·rw [a5, b4]; exact h5
theorem Cs.tell (h : Cs T) {s : Au} (hs : s.length ≤ 1000000) : Cs (T.tell s) := h.Bl (Nat.zero_le _) hs (Nat.zero_le _) (show (-9223372036854775808 : Int) ≤ 0 by decide) (show (0 : Int) ≤ 9223372036854775807 by decide)
theorem Cs.kind (h : Cs T) (k : Int) : Cs (T.kind k) := h.Bl (Nat.zero_le _) (Nat.zero_le _) (Nat.zero_le _) (show (-9223372036854775808 : Int) ≤ 0 by decide) (show (0 : Int) ≤ 9223372036854775807 by decide)
theorem Cs.B2 (h : Cs T) (k i : Int) : Cs (T.B2 k i) := h.Bl (Nat.le_trans (h.HE.th i) (by decide)) (Nat.zero_le _) (Nat.zero_le _) (show (-9223372036854775808 : Int) ≤ 0 by decide) (show (0 : Int) ≤ 9223372036854775807 by decide)
theorem Cs.land (h : Cs T) {w' : AI} (ht : w'.Lt) : Cs { T with w := w' } := ⟨ht, h.out⟩
theorem Cs.EE (h : Cs T) {i : Int} {t : Ak} (ht : t.name = (T.w.AX.at i).name) : Cs (T.EE i t) := h.land (w' := T.w.KH i t) (AI.VV h.HE (by rw [ht]; exact h.HE.th i))
theorem Cs.place (h : Cs T) (i Cr at_ : Int) : Cs (T.place i Cr at_) := h.EE rfl
theorem Cs.DX (h : Cs T) (k f : Int) : Cs (T.DX k f) := h.land (w' := T.w.C1 k { T.w.AW.at k with B7 := f }) (AI.H7 h.HE (h.HE.be k))
theorem Cs.DI (h : Cs T) (k : Int) {x : Al} (hx : x.name.length ≤ 100) : Cs (T.DI k x) := h.land (w' := T.w.C1 k x) (AI.H7 h.HE hx)
theorem Cs.Fw (h : Cs T) (r d : Int) (v : Bool) : Cs (T.Fw r d v) := h.land (w' := T.w.ZC r d v) (AI.Vq h.HE)
theorem Cs.I8 (h : Cs T) (r : Int) : Cs (T.I8 r) := h.land (w' := T.w.C1 T.b { T.me with room := r, B7 := 0 }) (AI.H7 h.HE (h.HE.be T.b))
theorem Cs.list (h : Cs T) {s : Au} (hs : s.length ≤ 100) {l : List Int} (hl : l.length ≤ 9) : Cs (T.list s l) := by
 refine h.tell ?_
 have := Le h.HE l s
 unfold RV
 split <;> simp only [List.length_append, List.length_cons, List.length_nil] <;> omega
theorem Cs.look (h : Cs T) : Cs T.look := by
 have hk : ∀ {T' : AG}, Cs T' → ∀ k : Nat, Cs (T'.FZ k) := fun {T'} h' k => by
  induction k with
  | zero => exact h'
  | succ k ih =>
   unfold FZ
   split
   ·exact ih.tell (by
     have := ih.HE.be k
     have e : (T'.FZ k).w = T'.w := (Ks T' k).1
     rw [e] at this
     simp only [List.length_append, List.length_cons, List.length_nil]; omega)
   ·exact ih
 unfold AG.look
 split
 ·exact h.tell (by show ([73, 116, 32, 105, 115, 32, 100, 97, 114, 107, 46] : Au).length ≤ _; decide)
 ·refine hk ?_ 6
  have ha : Cs T.J0 := (h.tell (by
   have := h.HE.ro T.me.room
   simp only [List.length_append, List.length_cons, List.length_nil]; omega)).tell (by
   have := Ld (T.w.By.at T.me.room) 6
   omega)
  unfold D0
  split
  ·exact ha.list (by decide) (AI.Hq ..)
  ·exact ha
theorem Cs.walk (h : Cs T) (d : Int) : Cs (T.walk d) := by
 unfold AG.walk
 split
 ·exact h.tell (by decide)
 ·split
  ·exact h.tell (by decide)
  ·have i1 : Cs (T.Bl { GR 1 with dir := d }) := h.Bl (Nat.zero_le _) (Nat.zero_le _) (Nat.zero_le _) (show (-9223372036854775808 : Int) ≤ 0 by decide) (show (0 : Int) ≤ 9223372036854775807 by decide)
   exact ((i1.I8 _).Bl (e := { GR 2 with dir := AI.opposite d }) (Nat.zero_le _) (Nat.zero_le _) (Nat.zero_le _) (show (-9223372036854775808 : Int) ≤ 0 by decide) (show (0 : Int) ≤ 9223372036854775807 by decide)).look
theorem Cs.box (h : Cs T) (u : Au) : Cs (T.box u).1 := by
 unfold AG.box
 split
 ·exact h.tell (by decide)
 ·split
  ·exact h.tell (by decide)
  ·exact h
theorem Cs.BN (h : Cs T) (u : Au) : Cs (T.BN u).1 := by
 unfold AG.BN
 split
 ·split
  ·exact h
  ·exact h.tell (by decide)
 ·exact h.tell (by decide)
theorem Cs.Di (l : List Int) : ∀ {T' : AG}, Cs T' → Cs (T'.Di l) := by
 induction l with
 | nil => exact fun h => h
 | cons i r ih => exact fun {T'} h => ih ((h.place i 1 T'.b).B2 3 i)
theorem Cs.QI (h : Cs T) (l : List Int) (o : Order) : Cs (T.QI l o) := by
 unfold AG.QI
 refine Cs.Di _ ?_
 split
 ·exact h.tell (by decide)
 ·exact h
theorem Cs.get (h : Cs T) (o : Order) : Cs (T.get o) := by
 unfold AG.get
 split
 ·split
  ·exact h.box _
  ·exact (h.box _).QI _ _
 ·exact h.QI _ _
theorem Cs.DS (h : Cs T) (v to i : Int) : Cs (T.DS v to i) := by
 unfold AG.DS
 split
 ·exact h.tell (by decide)
 ·split
  ·exact (h.place _ _ _).B2 _ _
  ·split
   ·exact (h.place i 1 to).Bl (e := { GR 6 with other := to, B2 := (T.w.AX.at i).name }) (Nat.le_trans (h.HE.th i) (by decide)) (Nat.zero_le _) (Nat.zero_le _) (show (-9223372036854775808 : Int) ≤ 0 by decide) (show (0 : Int) ≤ 9223372036854775807 by decide)
   ·split
    ·exact h.tell (by decide)
    ·exact (h.place i 2 to).Bl (e := { GR 5 with B2 := (T.w.AX.at i).name, text := (T.w.AX.at to).name }) (Nat.le_trans (h.HE.th i) (by decide)) (Nat.le_trans (h.HE.th to) (by decide)) (Nat.zero_le _) (show (-9223372036854775808 : Int) ≤ 0 by decide) (show (0 : Int) ≤ 9223372036854775807 by decide)
theorem Cs.Fg {v to : Int} (l : List Int) : ∀ {T' : AG}, Cs T' → Cs (T'.Fg v to l) := by
 induction l with
 | nil => exact fun h => h
 | cons i r ih => exact fun h => ih (h.DS v to i)
theorem Cs.G6 (h : Cs T) (o : Order) : Cs (T.G6 o) := by
 have ht : Cs (T.DG o).1 := by
  unfold DG
  split
  ·exact h.box _
  ·split
   ·exact h.BN _
   ·exact h
 unfold AG.G6
 split
 ·exact ht
 ·unfold WY
  refine Cs.Fg _ ?_
  split
  ·exact ht.tell (by decide)
  ·exact ht
theorem Cs.GW (h : Cs T) (o : Order) : Cs (T.GW o) := by
 unfold AG.GW
 generalize (if (!decide (o.nth = 1) || o.Bn) = true then [] else o.name) = nm
 have hs := h.BN nm
 split
 ·exact hs
 ·refine Cs.tell ?_ (by decide)
  split
  ·exact (hs.DX _ _).DX _ _
  ·exact hs.DX _ _
theorem Cs.before (h : Cs T) (first : Bool) (i : Int) (v : Bool) (k : Int) : Cs (T.before first i v k) := by
 unfold AG.before
 split
 ·exact (Cs.EE h (i := i) (t := { T.w.AX.at i with on := v }) rfl).B2 _ _
 ·exact (h.B2 k i).EE rfl
theorem Cs.I1 (h : Cs T) (d : Int) (on : Bool) (k : Int) : Cs (T.I1 d on k) := by
 unfold AG.I1
 split
 ·exact h.tell (by decide)
 ·split
  ·exact h.tell (by decide)
  ·refine Cs.Bl ?_ (by show ([100, 111, 111, 114] : Au).length ≤ 1000000; decide) (Nat.zero_le _) (Nat.zero_le _) (show (-9223372036854775808 : Int) ≤ 0 by decide) (show (0 : Int) ≤ 9223372036854775807 by decide)
   split
   ·exact (h.Fw _ _ _).Fw _ _ _
   ·exact h.Fw _ _ _
theorem Cs.set (h : Cs T) (o : Order) : Cs (T.set o) := by
 unfold AG.set
 split
 ·exact h.I1 _ _ _
 ·split
  ·exact h.tell (by decide)
  ·split
   ·exact h.tell (by decide)
   ·split
    ·exact h.before _ _ _ _
    ·exact h.before _ _ _ _
theorem Cs.Ci (l : List Int) : ∀ {T' : AG}, Cs T' → Cs (T'.Ci l) := by
 induction l with
 | nil => exact fun h => h
 | cons i r ih => exact fun {T'} h => ih (Cs.EE h (i := i) rfl)
theorem Cs.Dz (h : Cs T) : ∀ k : Nat, Cs (T.Dz k)
 | 0 => h
 | k + 1 => by
  unfold AG.Dz
  split
  ·exact (Cs.Dz h k).DX _ _
  ·exact Cs.Dz h k
theorem Cs.GH (h : Cs T) : Cs T.GH := by
 rw [Mr]
 exact ((Cs.Ci _ h).Dz 6).DX _ _
theorem Cs.LP (h : Cs T) : Cs T.LP := by
 have hf := Cs.GH (h.kind 18)
 unfold AG.LP
 generalize (T.kind 18).GH = F at *
 exact hf.DI T.b (x := default) MC
theorem Cs.act (h : Cs T) {o : Order} (hx : o.text.length ≤ 1000000) : Cs (T.act o) := by
 unfold AG.act
 split
 ·exact h.walk _
 ·split
  ·exact h.look
  ·split
   ·exact h.list (by decide) (AI.Hq ..)
   ·split
    ·exact h.Bl (e := { GR 7 with text := o.text }) (Nat.zero_le _) hx (Nat.zero_le _) (show (-9223372036854775808 : Int) ≤ 0 by decide) (show (0 : Int) ≤ 9223372036854775807 by decide)
    ·split
     ·exact h.LP
     ·split
      ·exact h.GW _
      ·split
       ·exact h.get _
       ·split
        ·exact h.G6 _
        ·exact h.set _
end
theorem Mk {X : AI} {b : Int} {o : Order} (hw : X.Lt) (hx : o.text.length ≤ 1000000) : (Fh X b o).1.Lt ∧ ∀ e ∈ (Fh X b o).2.1, AI.Small e := by
 unfold Fh
 split
 ·exact ⟨hw, fun e h => by cases h⟩
 ·split
  ·exact ⟨hw, fun e h => by cases h⟩
  ·split
   ·exact ⟨hw, fun e h => by cases h⟩
   ·have := Cs.act (T := ⟨X, b, []⟩) ⟨hw, fun e h => by cases h⟩ hx
    exact ⟨this.HE, this.out⟩
theorem KY {X : AI} {s : Au} (hw : X.Lt) : (Bj X s).1.Lt ∧ ∀ e ∈ (Bj X s).2.2.1, AI.Small e := by
 unfold Bj
 split
 ·exact ⟨hw, fun e h => by cases h⟩
 ·split
  ·exact ⟨hw, fun e h => by cases h⟩
  ·rename_i h1
   split
   ·exact ⟨hw, fun e h => by cases h⟩
   ·split
    ·exact ⟨hw, fun e h => by cases h⟩
    ·have hn : s.length ≤ 8 := by
      have h2 : Je s = true := by simpa using h1
      simp only [Je, Bool.and_eq_true, decide_eq_true_eq] at h2
      omega
     have h0 : Cs ⟨X.C1 (DK X 6) (KQ s), DK X 6, []⟩ := ⟨AI.H7 hw (by show s.length ≤ 100; omega), fun e h => by cases h⟩
     have := (h0.kind 17).look
     exact ⟨this.HE, this.out⟩
theorem SQ {w : AI} {b B7 n : Int} (hw : w.Lt) (h0 : 1 ≤ n) (h1 : n ≤ 3) : Cs (CK w b B7 n) := by
 have hs : Cs ⟨w, b, []⟩ := ⟨hw, fun e h => by cases h⟩
 unfold CK
 exact (hs.Bl (e := { GR 14 with other := B7, n := n }) (Nat.zero_le _) (Nat.zero_le _) (Nat.zero_le _) (show -9223372036854775808 ≤ n by omega) (show n ≤ 9223372036854775807 by omega)).DI _ (hw.be B7)
theorem Cs.cP {T : AG} (h : Cs T) (b : Int) : Cs (T.DI b { T.w.AW.at b with room := 0, BM := 10 }) := h.DI b (h.HE.be b)
theorem WD {w : AI} {b : Int} (hw : w.Lt) : Cs (Ie w b) := by
 have h0 : Cs (FX w b) := ⟨AI.H7 hw (hw.be b), fun e h => by cases h⟩
 have h1 : Cs (F6 w b) := by unfold F6; exact (h0.kind 15).GH
 unfold Ie
 split
 ·generalize F6 w b = F at *
  exact h1.DI b (x := default) MC
 ·have h2 : Cs (Iw w b) := by unfold Iw; exact h1.cP b
  exact (h2.kind 17).look
theorem R0 {draw b : Int} (hb : 0 ≤ b) {s : AI × List Event} (h : s.1.Lt ∧ ∀ e ∈ s.2, AI.Small e) : (Es draw b s).1.Lt ∧ ∀ e ∈ (Es draw b s).2, AI.Small e := by
 have hh := Mi (draw := draw) hb
 unfold Es
 split
 ·exact h
 ·split
  ·exact ⟨AI.H7 h.1 (h.1.be b), h.2⟩
  ·have hk := SQ (b := b) (B7 := (s.1.AW.at b).B7 - 1) h.1 hh.1 hh.2
   split
   ·have hd := WD (b := (s.1.AW.at b).B7 - 1) hk.HE
    refine ⟨hd.HE, fun e he => ?_⟩
    rcases List.mem_append.1 he with he | he
    ·rcases List.mem_append.1 he with he | he
     ·exact h.2 e he
     ·exact hk.out e he
    ·exact hd.out e he
   ·refine ⟨hk.HE, fun e he => ?_⟩
    rcases List.mem_append.1 he with he | he
    ·exact h.2 e he
    ·exact hk.out e he
theorem OG {X : AI} {draw : Int} (hw : X.Lt) : ∀ k : Nat, (EF X draw k).1.Lt ∧ ∀ e ∈ (EF X draw k).2, AI.Small e
 | 0 => ⟨hw, fun e h => by cases h⟩
 | k + 1 => R0 (by omega) (OG hw k)
theorem N0 {X : AI} {draw : Int} (hw : X.Lt) : (Cg X draw).1.Lt ∧ ∀ e ∈ (Cg X draw).2.1, AI.Small e := by
 unfold Cg
 split
 ·exact ⟨hw, fun e h => by cases h⟩
 ·have h := OG (draw := draw) hw 6
  generalize EF X draw 6 = r at *
  exact h
end AG
end Go.Ing
/- What a house keeps: plain laws. -/
namespace Go.Ing
open Go
namespace AN
def YR (q : List Au) : Prop := q.length ≤ 6 ∧ ∀ s ∈ q, s.length ≤ 60
structure Fit (H : AN) (n m : Nat) : Prop where
 HE : H.w.Lt
 told : ∀ k : Int, 0 ≤ k → k < 4 → (H.at_ k).told.length ≤ n
 last : H.last.length ≤ m
 A7 : ∀ k : Int, 0 ≤ k → k < 4 → (H.at_ k).state = 2 → 0 ≤ (H.at_ k).A7 ∧ (H.at_ k).A7 < 6
 wait : ∀ k : Int, 0 ≤ k → k < 4 → ∀ s ∈ (H.at_ k).wait, s.length ≤ 70368744000000
 queue : ∀ k : Int, 0 ≤ k → k < 4 → YR (H.at_ k).queue
variable {H : AN} {n m : Nat}
theorem Fit.mono (h : H.Fit n m) {n' m' : Nat} (hn : n ≤ n') (hm : m ≤ m') : H.Fit n' m' := ⟨h.HE, fun k a b => Nat.le_trans (h.told k a b) hn, Nat.le_trans h.last hm, h.A7, h.wait, h.queue⟩
theorem Fit.set (h : H.Fit n m) {k : Int} (h0 : 0 ≤ k) (h1 : k < 4) {s : BA} (ht : s.told.length ≤ n) (hb : s.state = 2 → 0 ≤ s.A7 ∧ s.A7 < 6) (hw : ∀ u ∈ s.wait, u.length ≤ 70368744000000) (hq : YR s.queue) : (H.set k s).Fit n m := by
 have e : ∀ j : Int, 0 ≤ j → (H.set k s).at_ j = if j = k then s else H.at_ j := fun j j0 => AN.IW H h0 h1 j0 s
 refine ⟨h.HE, fun j a b => ?_, h.last, fun j a b => ?_, fun j a b => ?_, fun j a b => ?_⟩ <;> rw [e j a] <;> split
 ·exact ht
 ·exact h.told j a b
 ·exact hb
 ·exact h.A7 j a b
 ·exact hw
 ·exact h.wait j a b
 ·exact hq
 ·exact h.queue j a b
theorem Fit.land (h : H.Fit n m) {w : AI} (hw : w.Lt) : ({ H with w := w } : AN).Fit n m := ⟨hw, h.told, h.last, h.A7, h.wait, h.queue⟩
theorem PL (s : BA) (u : Au) : (s.line u).wait = s.wait ∨ (s.line u).wait = s.wait ++ [u] := by
 unfold BA.line
 split
 ·exact .inl rfl
 ·split
  ·exact .inl rfl
  ·split
   ·exact .inl rfl
   ·exact .inr rfl
theorem Tz (s : BA) (u : Au) : (s.line u).state = s.state ∧ (s.line u).A7 = s.A7 ∧ (s.line u).queue = s.queue ∧ (s.line u).told = s.told := by
 unfold BA.line
 split
 ·exact ⟨rfl, rfl, rfl, rfl⟩
 ·split
  ·exact ⟨rfl, rfl, rfl, rfl⟩
  ·split <;> exact ⟨rfl, rfl, rfl, rfl⟩
theorem Ji (s : BA) (u : Au) : (s.tell u).state = s.state ∧ (s.tell u).A7 = s.A7 ∧ (s.tell u).queue = s.queue ∧ (s.tell u).wait = (s.line u).wait := by
 obtain ⟨a, b, c, _⟩ := Tz s u
 unfold BA.tell BA.note
 split
 ·exact ⟨a, b, c, rfl⟩
 ·exact ⟨a, b, c, rfl⟩
theorem Fit.tell (h : H.Fit n m) {k : Int} (h0 : 0 ≤ k) (h1 : k < 4) {u : Au} (hu : u.length ≤ 70368744000000) : (H.tell k u).Fit (n + 1) m := by
 obtain ⟨a, b, c, d⟩ := Ji (H.at_ k) u
 refine (h.mono (Nat.le_succ n) (Nat.le_refl m)).set h0 h1 (Nat.le_trans (CD _ _) (Nat.succ_le_succ (h.told k h0 h1))) (by rw [a, b]; exact h.A7 k h0 h1) (fun s hs => ?_) (by rw [c]; exact h.queue k h0 h1)
 rw [d] at hs
 rcases PL (H.at_ k) u with e | e <;> rw [e] at hs
 ·exact h.wait k h0 h1 s hs
 ·rcases List.mem_append.1 hs with hs | hs
  ·exact h.wait k h0 h1 s hs
  ·rw [List.mem_singleton.1 hs]; exact hu
theorem Xh {e : Event} (he : AI.Small e) (b : Int) : (AI.tell e b).1.length ≤ 70368744000000 := by
 unfold AI.tell
 split
 ·exact Nat.zero_le _
 ·split
  ·exact Nat.zero_le _
  ·refine Nat.le_trans (AI.NJ he (AI.O3 he b) (AI.M8 he b) _ _) ?_
   have := AI.M5 e b
   omega
theorem TL {k j : Int} (h0 : 0 ≤ k) (h1 : k < 4) (j0 : 0 ≤ j) (hn : j ≠ k) (u : Au) : (H.tell k u).at_ j = H.at_ j := by
 unfold AN.tell
 rw [AN.IW H h0 h1 j0, if_neg hn]
theorem J9 (e : Event) (H : AN) : ∀ k : Nat, k ≤ 4 → ∀ j : Int, (k : Int) ≤ j → j < 4 → (Cl e H k).at_ j = H.at_ j
 | 0, _, _, _, _ => rfl
 | k + 1, hk, j, h0, h1 => by
  have ih := J9 e H k (by omega) j (by omega) h1
  unfold Cl
  split
  ·exact ih
  ·split
   ·rw [TL (by omega) (by omega) (by omega) (by omega)]; exact ih
   ·exact ih
theorem OI {e : Event} (he : AI.Small e) (h : H.Fit n m) : ∀ k : Nat, k ≤ 4 → (Cl e H k).Fit (n + 1) m
 | 0, _ => h.mono (Nat.le_succ n) (Nat.le_refl m)
 | k + 1, hk => by
  have ih := OI he h k (by omega)
  unfold Cl
  split
  ·exact ih
  ·split
   ·have hr := J9 e H k (by omega) k (Int.le_refl _) (by omega)
    obtain ⟨a, b, c, d⟩ := Ji ((Cl e H k).at_ k) (AI.tell e ((Cl e H k).at_ k).A7).1
    unfold AN.tell
    refine ih.set (by omega) (by omega) ?_ (by rw [a, b]; exact ih.A7 k (by omega) (by omega)) (fun s hs => ?_) (by rw [c]; exact ih.queue k (by omega) (by omega))
    ·refine Nat.le_trans (CD _ _) ?_
     rw [hr]; exact Nat.succ_le_succ (h.told k (by omega) (by omega))
    ·rw [d] at hs
     rcases PL ((Cl e H k).at_ k) (AI.tell e ((Cl e H k).at_ k).A7).1 with q | q <;> rw [q] at hs
     ·exact ih.wait k (by omega) (by omega) s hs
     ·rcases List.mem_append.1 hs with hs | hs
      ·exact ih.wait k (by omega) (by omega) s hs
      ·rw [List.mem_singleton.1 hs]; exact Xh he _
   ·exact ih
theorem PN : ∀ (es : List Event) {H : AN} {n : Nat}, (∀ e ∈ es, AI.Small e) → H.Fit n m → (H.Is es).Fit (n + es.length) m
 | [], _, _, _, h => h
 | e :: r, H, n, he, h => by
  have h1 := OI (he e (List.mem_cons_self ..)) h 4 (Nat.le_refl 4)
  have h2 := PN r (fun x hx => he x (List.mem_cons_of_mem _ hx)) h1
  rw [List.length_cons, show n + (r.length + 1) = n + 1 + r.length by omega]
  exact h2
theorem Fit.HI (h : H.Fit n m) {es : List Event} (he : ∀ e ∈ es, AI.Small e) : (H.HI es).Fit (n + es.length) (m + es.length) := by
 refine PN (m := m + es.length) es he ?_
 exact ⟨h.HE, h.told, by show (H.last ++ es).length ≤ _; rw [List.length_append]; exact Nat.add_le_add_right h.last _, h.A7, h.wait, h.queue⟩
theorem Fit.free (h : H.Fit n m) {k : Int} (h0 : 0 ≤ k) (h1 : k < 4) : (H.set k default).Fit n m :=
 h.set h0 h1 (Nat.zero_le _) (fun e => absurd (show (0 : Int) = 2 from e) (by decide)) (fun u hu => by cases hu) ⟨Nat.zero_le _, fun u hu => by cases hu⟩
theorem PJ : FY.text.length ≤ 1000000 := Nat.zero_le _
theorem Fit.leave (h : H.Fit n m) {k : Int} (h0 : 0 ≤ k) (h1 : k < 4) : (H.leave k).Fit (n + 11) (m + 11) := by
 unfold AN.leave
 refine Fit.free ?_ h0 h1
 split
 ·have hd := AG.Mk (b := (H.at_ k).A7) (o := FY) h.HE PJ
  have hl := AG.Mp H.w (H.at_ k).A7 FY
  exact (((h.land hd.1).free h0 h1).HI hd.2).mono (Nat.add_le_add_left hl n) (Nat.add_le_add_left hl m)
 ·exact h.mono (Nat.le_add_right ..) (Nat.le_add_right ..)
theorem Qv (ht : Int) : ∀ (l : List Au) (x : Page.Pg), ∀ s ∈ (Page.B3 ht l x).2, s ∈ l
 | [], _, s, h => h
 | q :: r, x, s, h => by
  unfold Page.B3 at h
  split at h
  ·exact h
  ·split at h
   ·exact h
   ·exact List.mem_cons_of_mem _ (Qv ht r _ s h)
theorem Tv (s : BA) : s.B3.told = s.told ∧ s.B3.state = s.state ∧ s.B3.A7 = s.A7 ∧ s.B3.queue = s.queue ∧ ∀ u ∈ s.B3.wait, u ∈ s.wait := by
 unfold BA.B3
 split
 ·exact ⟨rfl, rfl, rfl, rfl, fun _ h => h⟩
 ·exact ⟨rfl, rfl, rfl, rfl, Qv _ _ _⟩
theorem Fit.VX (h : H.Fit n m) {k : Int} (h0 : 0 ≤ k) (h1 : k < 4) : (H.set k (H.at_ k).B3).Fit n m := by
 obtain ⟨a, b, c, d, e⟩ := Tv (H.at_ k)
 exact h.set h0 h1 (by rw [a]; exact h.told k h0 h1) (by rw [b, c]; exact h.A7 k h0 h1) (fun u hu => h.wait k h0 h1 u (e u hu)) (by rw [d]; exact h.queue k h0 h1)
theorem Lg (h : H.Fit n m) : ∀ k : Nat, k ≤ 4 → (H.DY k).1.Fit (n + 11 * k) (m + 11 * k)
 | 0, _ => h
 | k + 1, hk => by
  have ih := Lg h k (by omega)
  unfold DY
  split
  ·exact ih.mono (by omega) (by omega)
  ·split
   ·exact ((ih.VX (by omega) (by omega)).leave (by omega) (by omega)).mono (by omega) (by omega)
   ·exact (ih.VX (by omega) (by omega)).mono (by omega) (by omega)
theorem O5 : ∀ (r : Nat) {H : AN} {n m : Nat}, H.Fit n m → (H.Ip r).Fit (n + 44 * r) (m + 44 * r)
 | 0, _, _, _, h => h
 | r + 1, H, n, m, h => by
  have h1 := Lg h 4 (Nat.le_refl 4)
  unfold Ip
  split
  ·exact h1.mono (by omega) (by omega)
  ·exact (O5 r h1).mono (by omega) (by omega)
theorem Fit.B3 (h : H.Fit n m) : H.B3.Fit (n + 220) (m + 220) := O5 5 h
end AN
end Go.Ing
/- A house: plain laws for the walks, on. -/
namespace Go.Ing
open Go
theorem H8 {V : AH} {ls : Vector BG 4} {ev : List Event} {k : Int} (h0 : 0 ≤ k) (h1 : k < 4) : A2 (V.BL k default) (ls.put k ⟨[], [], []⟩) ev = (A2 V ls ev).set k default := H3 V ls ev h0 h1 _ _
theorem Nu {V : AH} {ls : Vector BG 4} {ev : List Event} {w : AI} : A2 { V with w := w } ls ev = { A2 V ls ev with w := w } := rfl
theorem P6 {V V4 : AH} {ls ls4 : Vector BG 4} {ev ev4 : List Event} {k : Int} (h0 : 0 ≤ k) (h1 : k < 4) (c : (decide ((V.Ap.at k).state = 2) && (V.w.AW.at (V.Ap.at k).A7).here) = true)
  (e : A2 V4 ls4 ev4 = (A2 (AH.BL { V with w := (AG.Fh V.w (V.Ap.at k).A7 AN.FY).1 } k default) (ls.put k ⟨[], [], []⟩) ev).HI (AG.Fh V.w (V.Ap.at k).A7 AN.FY).2.1) :
  A2 (V4.BL k default) (ls4.put k ⟨[], [], []⟩) ev4 = (A2 V ls ev).leave k := by
 rw [H8 h0 h1, e, H8 h0 h1, Nu]
 have ha := CY V ls ev h0 h1
 unfold AN.leave AN.Sg
 rw [ha]
 rw [if_pos (show (decide ((Ch (V.Ap.at k) (ls.at k)).state = 2) && ((A2 V ls ev).w.AW.at (Ch (V.Ap.at k) (ls.at k)).A7).here) = true from c)]
 rfl
theorem Sw {V : AH} {ls : Vector BG 4} {ev : List Event} {k : Int} (h0 : 0 ≤ k) (h1 : k < 4) (c : (decide ((V.Ap.at k).state = 2) && (V.w.AW.at (V.Ap.at k).A7).here) = false) :
  A2 (V.BL k default) (ls.put k ⟨[], [], []⟩) ev = (A2 V ls ev).leave k := by
 rw [H8 h0 h1]
 have ha := CY V ls ev h0 h1
 unfold AN.leave
 rw [ha]
 rw [if_neg (show ¬ (decide ((Ch (V.Ap.at k) (ls.at k)).state = 2) && ((A2 V ls ev).w.AW.at (Ch (V.Ap.at k) (ls.at k)).A7).here) = true by rw [show (decide ((Ch (V.Ap.at k) (ls.at k)).state = 2) && ((A2 V ls ev).w.AW.at (Ch (V.Ap.at k) (ls.at k)).A7).here) = false from c]; decide)]
theorem GF {V : AH} {ls : Vector BG 4} {ev : List Event} {n m : Nat} (h : (A2 V ls ev).Fit n m) : VE ls n := fun j j0 j1 => by
 have := h.told j j0 j1
 rw [CY V ls ev j0 j1] at this
 exact this
theorem Ux {V : AH} {ls : Vector BG 4} {ev : List Event} {n m : Nat} (h : (A2 V ls ev).Fit n m) {k : Int} (h0 : 0 ≤ k) (h1 : k < 4) : (V.Ap.at k).state ≠ 2 ∨ (0 ≤ (V.Ap.at k).A7 ∧ (V.Ap.at k).A7 < 6) := by
 have := h.A7 k h0 h1
 rw [CY V ls ev h0 h1] at this
 by_cases c : (V.Ap.at k).state = 2
 ·exact .inr (this c)
 ·exact .inl c
theorem St.or {w0 w : World} {M : List Nat} {L : List Ab} {T TS : Nat} {h f g : Hd} {xs qs zs : List Au} (ho : ZJ T h xs TS f qs TS g zs) (hS : St w0 M w (Ab.own g TS 1 (zs.flatMap A4) :: Ab.own f TS 1 (qs.flatMap A4) :: L)) : St w0 M w (Ab.own h TS 1 (xs.flatMap A4) :: L) := by
 rcases ho with ⟨_, rfl, rfl, _, _⟩ | ⟨_, rfl, rfl⟩
 ·exact hS.sub (List.sublist_cons_self ..)
 ·exact hS.sub (List.Sublist.cons_cons _ (List.sublist_cons_self ..))
theorem aK {n : Nat} {w0 : World} {M : List Nat} {Q : Exit → Go.Act → World → Prop} {F : List (Nat × Value)} {L : List Ab} {x : Exit} {T TS : Nat} {h f g : Hd} {xs qs zs : List Au} (ho : ZJ T h xs TS f qs TS g zs) (k : GQ n w0 M Q x F (Ab.own h TS 1 (xs.flatMap A4) :: L)) : GQ n w0 M Q x F (Ab.own g TS 1 (zs.flatMap A4) :: Ab.own f TS 1 (qs.flatMap A4) :: L) := fun a w hF hS => k a w hF (St.or ho hS)
theorem RB {v : A0} {l : BG} (hw : v.out.wait.len = l.wait.length) (h : (!Page.Br v.out || decide (v.EI.CZ < 0) || decide (200 < v.EI.CZ)) = true) : Ch v l = (Ch v l).B3 :=
 (if_pos (show (!(Ch v l).NK || decide (v.EI.CZ < 0) || decide (200 < v.EI.CZ)) = true by rw [IQ hw]; exact h)).symm
theorem Wx {v : A0} {l : BG} (hw : v.out.wait.len = l.wait.length) (h : (!Page.Br v.out || decide (v.EI.CZ < 0) || decide (200 < v.EI.CZ)) = false) (w : Hd) :
  Ch { v with out := ⟨w, (Page.B3 v.EI.CZ l.wait (Page.of v.out)).1.shown, (Page.B3 v.EI.CZ l.wait (Page.of v.out)).1.B5, (Page.B3 v.EI.CZ l.wait (Page.of v.out)).1.ring, (Page.B3 v.EI.CZ l.wait (Page.of v.out)).1.cut⟩ } ⟨l.queue, (Page.B3 v.EI.CZ l.wait (Page.of v.out)).2, l.told⟩ = (Ch v l).B3 :=
 ((if_neg (show ¬ (!(Ch v l).NK || decide (v.EI.CZ < 0) || decide (200 < v.EI.CZ)) = true by rw [IQ hw, h]; decide)).trans rfl).symm
theorem KN {V : AH} {ls : Vector BG 4} {ev : List Event} {c : Bool} {H : AN} {i : Int} (h0 : 0 ≤ i) (h1 : i < 4) (h : (A2 V ls ev, c) = H.DY i.toNat) :
  H.DY (i + 1).toNat = if decide ((V.Ap.at i).state = 0) = true then (A2 V ls ev, c) else if (((A2 V ls ev).at_ i).B3).pg.cut = true then (((A2 V ls ev).set i ((A2 V ls ev).at_ i).B3).leave i, true) else ((A2 V ls ev).set i ((A2 V ls ev).at_ i).B3, c) := by
 obtain ⟨m, rfl⟩ := Int.eq_ofNat_of_zero_le h0
 have ha := CY V ls ev h0 h1
 rw [show ((m : Int) + 1).toNat = m + 1 by omega, AN.DY]
 rw [show ((m : Int)).toNat = m by omega] at h
 rw [← h]
 rw [show decide (((A2 V ls ev).at_ (m : Int)).state = 0) = decide ((V.Ap.at (m : Int)).state = 0) by rw [ha]; rfl]
theorem S1 {V V' : AH} {ls ls' : Vector BG 4} {ev ev' : List Event} {i : Int} (h0 : 0 ≤ i) (h1 : i < 4) {s : BA} (e : A2 V' ls' ev' = (A2 V ls ev).set i s) : (V'.Ap.at i).out.cut = s.pg.cut := by
 have h := congrArg (fun H => (AN.at_ H i).pg.cut) e
 rw [CY V' ls' ev' h0 h1, AN.IW _ h0 h1 h0, if_pos rfl] at h
 exact h
theorem M7 {X : AN} {k : Int} (h0 : 0 ≤ k) (h1 : k < 5) : X.Ip (5 - k).toNat = if (!(X.DY 4).2) = true then (X.DY 4).1 else (X.DY 4).1.Ip (5 - (k + 1)).toNat := by
 rw [show (5 - k).toNat = (5 - (k + 1)).toNat + 1 by omega, AN.Ip]
theorem Og {H : AN} {n m : Nat} (h : H.Fit n m) {V : AH} {ls : Vector BG 4} {ev : List Event} {c : Bool} {i : Int} (h0 : 0 ≤ i) (h1 : i ≤ 4) (e : (A2 V ls ev, c) = H.DY i.toNat) : (A2 V ls ev).Fit (n + 44) (m + 44) := by
 have := AN.Lg h i.toNat (by omega)
 rw [← e] at this
 exact this.mono (by omega) (by omega)
theorem WI {V : AH} {ls : Vector BG 4} {ev : List Event} {n m : Nat} (h : (A2 V ls ev).Fit n m) {k : Int} (h0 : 0 ≤ k) (h1 : k < 4) : ∀ s ∈ (ls.at k).wait, s.length ≤ 70368744000000 := by
 have := h.wait k h0 h1
 rw [CY V ls ev h0 h1] at this
 exact this
end Go.Ing
/- A house: who comes, and what is typed: plain laws for the walks. -/
namespace Go.Ing
open Go
namespace Words
def Mw (N : Nat) (o : Order) : Prop := o.name.length ≤ N ∧ o.second.length ≤ N ∧ o.text.length ≤ N
theorem FG (N : Nat) : Mw N default := ⟨Nat.zero_le _, Nat.zero_le _, Nat.zero_le _⟩
theorem VR (u p : Au) : (Ma u p).1.length ≤ u.length := by
 unfold Ma
 split
 ·exact Nat.le_refl _
 ·show (List.drop _ u).length ≤ _
  rw [List.length_drop]; omega
theorem We (u : Au) : (EA u).2.1.length ≤ u.length := by
 unfold EA
 split
 ·exact Nat.zero_le _
 ·split
  ·exact VR u _
  ·split
   ·split
    ·exact Nat.zero_le _
    ·exact Nat.le_refl _
   ·unfold Od
    have := (Mf 46 u).2
    split
    ·split
     ·exact Nat.zero_le _
     ·exact this
    ·exact Nat.zero_le _
theorem Vh {N : Nat} {o : Order} {j : Au × Bool} {W : List Au} {m : Nat} (h : Mw N o) (hw : (W.getD 0 []).length ≤ N) : Mw N (P5 o j W m).1 := by
 unfold P5
 split
 ·exact h
 ·split
  ·exact FG N
  ·exact ⟨h.1, hw, h.2.2⟩
theorem Yy {N : Nat} {o : Order} {j : Au × Bool} {W : List Au} {m : Nat} (h : Mw N o) (hw : ∀ i, (W.getD i []).length ≤ N) : Mw N (R5 o j W m).1 := by
 unfold R5
 split
 ·split
  ·exact FG N
  ·refine Vh h ?_
   have := hw 1
   rw [List.getD_eq_getElem?_getD, List.getElem?_drop, ← List.getD_eq_getElem?_getD]
   exact this
 ·exact Vh h (hw 0)
theorem VO {N : Nat} {v : Int} {W : List Au} {m : Nat} (hw : ∀ i, (W.getD i []).length ≤ N) : Mw N (Pq v W m).1 := by
 unfold Pq
 split
 ·exact FG N
 ·refine Yy ⟨Nat.le_trans (We _) (hw 0), Nat.zero_le _, Nat.zero_le _⟩ (fun i => ?_)
  rw [List.getD_eq_getElem?_getD, List.getElem?_drop, ← List.getD_eq_getElem?_getD]
  exact hw (1 + i)
theorem QX (i : Nat) : (AI.F9.getD i []).length ≤ 20 := by
 rw [List.getD_eq_getElem?_getD]
 cases h : AI.F9[i]? with
 | none => exact Nat.zero_le _
 | some w =>
  have hm : w ∈ AI.F9 := List.mem_of_getElem? h
  have : ∀ w ∈ AI.F9, w.length ≤ 20 := by decide
  exact this w hm
theorem MJ (s : Au) : Mw (s.length + 20) (parse s).1 := by
 have hw : ∀ i, (((words s).drop 1).getD i []).length ≤ s.length + 20 := fun i => Nat.le_trans (L4 s i 1) (by omega)
 unfold parse
 split
 ·exact FG _
 ·split
  ·exact FG _
  ·unfold Wp
   split
   ·split
    ·exact FG _
    ·refine ⟨Nat.zero_le _, Nat.zero_le _, ?_⟩
     show (said s).length ≤ _
     unfold said
     have h1 := Km 32 (RT 32 (cut 32 (PM 32 s)).2.1)
     have h2 := QA 32 (cut 32 (PM 32 s)).2.1
     have h3 := (Mf 32 (PM 32 s)).2
     have h4 := Km 32 s
     omega
   ·split
    ·split
     ·exact FG _
     ·exact ⟨Nat.zero_le _, Nat.zero_le _, Nat.zero_le _⟩
    ·split
     ·exact FG _
     ·split
      ·split
       ·exact ⟨Nat.le_trans (QX _) (by omega), Nat.zero_le _, Nat.zero_le _⟩
       ·exact VO hw
      ·exact VO hw
end Words
theorem Ut {V : AH} {ls : Vector BG 4} {ev : List Event} {n m : Nat} (h : (A2 V ls ev).Fit n m) {k : Int} (h0 : 0 ≤ k) (h1 : k < 4) : AN.YR (ls.at k).queue := by
 have := h.queue k h0 h1
 rw [CY V ls ev h0 h1] at this
 exact this
theorem AN.Kf (H : AN) {k : Int} (h0 : 0 ≤ k) (h1 : k < 4) : H.set k (H.at_ k) = H := by
 unfold AN.set AN.at_
 rw [Vector.LG _ h0 h1]
theorem Qo {X : AI} {s : Au} (h : (AG.Bj X s).2.2.2 = 0) : 0 ≤ (AG.Bj X s).2.1 ∧ (AG.Bj X s).2.1 < 6 := by
 have hf := AG.Ov X 6 (Nat.le_refl 6)
 unfold AG.Bj at h ⊢
 split
 ·exact ⟨Int.le_refl 0, show (0 : Int) < 6 by decide⟩
 ·split
  ·exact ⟨Int.le_refl 0, show (0 : Int) < 6 by decide⟩
  ·split
   ·exact ⟨Int.le_refl 0, show (0 : Int) < 6 by decide⟩
   ·split
    ·rename_i h1 h2 h3 h4
     rw [if_neg h1, if_neg h2, if_neg h3, if_pos h4] at h
     exact absurd h (show ¬ (4 : Int) = 0 by decide)
    ·rename_i h4
     show 0 ≤ AG.DK X 6 ∧ AG.DK X 6 < 6
     rw [decide_eq_true_eq] at h4
     omega
namespace AN
variable {H : AN} {n m : Nat}
theorem Fit.enters (h : H.Fit n m) {k : Int} (h0 : 0 ≤ k) (h1 : k < 4) {u : Au} (c : (AG.Bj H.w u).2.2.2 = 0) : (({ H with w := (AG.Bj H.w u).1 } : AN).set k { H.at_ k with state := 2, A7 := (AG.Bj H.w u).2.1 }).Fit n m := by
 have hs := AG.KY (s := u) h.HE
 exact (h.land hs.1).set h0 h1 (h.told k h0 h1) (fun _ => Qo c) (h.wait k h0 h1) (h.queue k h0 h1)
theorem Fit.named (h : H.Fit n m) {k : Int} (h0 : 0 ≤ k) (h1 : k < 4) (u : Au) : (H.named k u).Fit (n + 11) (m + 11) := by
 unfold AN.named
 split
 ·rename_i c
  have hs := AG.KY (s := u) h.HE
  have hl := AG.O6 H.w u
  exact ((h.enters h0 h1 (of_decide_eq_true c)).HI hs.2).mono (by omega) (by omega)
 ·split
  ·exact (h.tell h0 h1 (show noRoom.length ≤ _ by decide)).mono (by omega) (by omega)
  ·exact (h.tell h0 h1 (show Pc.length ≤ _ by decide)).mono (by omega) (by omega)
theorem Fit.order (h : H.Fit n m) {k : Int} (h0 : 0 ≤ k) (h1 : k < 4) {u : Au} (hu : u.length ≤ 1000) : (H.order k u).Fit (n + 11) (m + 11) := by
 unfold AN.order
 split
 ·exact (h.tell h0 h1 (show Yd.length ≤ _ by decide)).mono (by omega) (by omega)
 ·split
  ·exact h.leave h0 h1
  ·have hp := Words.MJ u
   have hd := AG.Mk (b := (H.at_ k).A7) (o := (Words.parse u).1) h.HE (by have := hp.2.2; omega)
   have hl := AG.Mp H.w (H.at_ k).A7 (Words.parse u).1
   exact ((h.land hd.1).HI hd.2).mono (by omega) (by omega)
theorem Fit.FM (h : H.Fit n m) {k : Int} (h0 : 0 ≤ k) (h1 : k < 4) {q : Au} {r : List Au} (e : (H.at_ k).queue = q :: r) : (H.set k { H.at_ k with queue := r }.FM).Fit n m :=
 h.set h0 h1 (h.told k h0 h1) (h.A7 k h0 h1) (h.wait k h0 h1) (by
  have hq := h.queue k h0 h1
  rw [e] at hq
  exact ⟨Nat.le_of_succ_le hq.1, fun u hu => hq.2 u (List.mem_cons_of_mem _ hu)⟩)
theorem Fit.EJ (h : H.Fit n m) {k : Int} (h0 : 0 ≤ k) (h1 : k < 4) : (H.EJ k).Fit (n + 11) (m + 11) := by
 unfold AN.EJ
 split
 ·exact h.mono (by omega) (by omega)
 ·split
  ·exact h.mono (by omega) (by omega)
  ·rename_i q r e
   have ht := h.FM h0 h1 e
   have hq := (h.queue k h0 h1).2 q (by rw [e]; exact List.mem_cons_self ..)
   simp only []
   split
   ·exact ht.mono (by omega) (by omega)
   ·split
    ·exact ht.named h0 h1 _
    ·exact ht.order h0 h1 (by omega)
theorem Jk (h : H.Fit n m) : ∀ k : Nat, k ≤ 4 → (H.turns k).Fit (n + 11 * k) (m + 11 * k)
 | 0, _ => h
 | k + 1, hk => by
  have ih := Jk h k (by omega)
  unfold AN.turns
  exact (ih.EJ (by omega) (by omega)).mono (by omega) (by omega)
end AN
theorem Xr {V V3 V4 : AH} {ls ls3 ls4 : Vector BG 4} {ev ev4 : List Event} {k : Int} {u : Au} (c : decide ((AG.Bj V.w u).2.2.2 = 0) = true)
  (e3 : A2 V3 ls3 ev = ({ A2 V ls ev with w := (AG.Bj V.w u).1 } : AN).set k { (A2 V ls ev).at_ k with state := 2, A7 := (AG.Bj V.w u).2.1 })
  (e : A2 V4 ls4 ev4 = (A2 V3 ls3 ev).HI (AG.Bj V.w u).2.2.1) : A2 V4 ls4 ev4 = (A2 V ls ev).named k u := by
 rw [e, e3]
 exact (if_pos c).symm
theorem W5 {V V4 : AH} {ls ls4 : Vector BG 4} {ev ev4 : List Event} {k : Int} {u : Au} (c : decide ((AG.Bj V.w u).2.2.2 = 0) = false) (c2 : decide ((AG.Bj V.w u).2.2.2 = 4) = true)
  (e : A2 V4 ls4 ev4 = (A2 V ls ev).tell k AN.noRoom) : A2 V4 ls4 ev4 = (A2 V ls ev).named k u := e.trans ((if_neg (by show ¬ decide ((AG.Bj V.w u).2.2.2 = 0) = true; rw [c]; decide)).trans (if_pos c2)).symm
theorem XC {V V4 : AH} {ls ls4 : Vector BG 4} {ev ev4 : List Event} {k : Int} {u : Au} (c : decide ((AG.Bj V.w u).2.2.2 = 0) = false) (c2 : decide ((AG.Bj V.w u).2.2.2 = 4) = false)
  (e : A2 V4 ls4 ev4 = (A2 V ls ev).tell k AN.Pc) : A2 V4 ls4 ev4 = (A2 V ls ev).named k u := e.trans ((if_neg (by show ¬ decide ((AG.Bj V.w u).2.2.2 = 0) = true; rw [c]; decide)).trans (if_neg (by show ¬ decide ((AG.Bj V.w u).2.2.2 = 4) = true; rw [c2]; decide))).symm
theorem TR {V V4 : AH} {ls ls4 : Vector BG 4} {ev ev4 : List Event} {k : Int} {u : Au} (h0 : 0 ≤ k) (h1 : k < 4) (c : (!decide ((Words.parse u).2 = 0)) = false) (c2 : decide ((Words.parse u).1.verb = 20) = false)
  (e : A2 V4 ls4 ev4 = (A2 { V with w := (AG.Fh V.w (V.Ap.at k).A7 (Words.parse u).1).1 } ls ev).HI (AG.Fh V.w (V.Ap.at k).A7 (Words.parse u).1).2.1) : A2 V4 ls4 ev4 = (A2 V ls ev).order k u := by
 rw [e, Nu]
 have ha := CY V ls ev h0 h1
 unfold AN.order
 rw [if_neg (by rw [c]; decide), if_neg (by rw [c2]; decide), ha]
 rfl
theorem Un {V : AH} {ls : Vector BG 4} {ev : List Event} {k : Int} (h0 : 0 ≤ k) (h1 : k < 4) (c : decide ((V.Ap.at k).state = 0) = true) : A2 V ls ev = (A2 V ls ev).EJ k := by
 have ha := CY V ls ev h0 h1
 exact (if_pos (show decide (((A2 V ls ev).at_ k).state = 0) = true by rw [ha]; exact c)).symm
theorem Ue {V : AH} {ls : Vector BG 4} {ev : List Event} {k : Int} (h0 : 0 ≤ k) (h1 : k < 4) {sv : A0} {sl : BG} (hs : V.Ap.at k = sv) (hl : ls.at k = sl) (hq : sl.queue = []) (c : decide ((V.Ap.at k).state = 0) = false) :
  A2 (V.BL k sv) (ls.put k ⟨sl.queue, sl.wait, sl.told⟩) ev = (A2 V ls ev).EJ k := by
 have ha := CY V ls ev h0 h1
 rw [EW h0 h1 hs hl (f := fun x => x) rfl, AN.Kf _ h0 h1]
 unfold AN.EJ
 rw [if_neg (show ¬ decide (((A2 V ls ev).at_ k).state = 0) = true by rw [ha]; show ¬ decide ((V.Ap.at k).state = 0) = true; rw [c]; decide)]
 have e : ((A2 V ls ev).at_ k).queue = [] := by rw [ha, hl]; exact hq
 split
 ·rfl
 ·rename_i q r e2; rw [e] at e2; cases e2
theorem DR {V : AH} {ls : Vector BG 4} {ev : List Event} {k : Int} (h0 : 0 ≤ k) (h1 : k < 4) {sv : A0} {sl : BG} (hs : V.Ap.at k = sv) (hl : ls.at k = sl) {q : Au} {r : List Au} (hq : sl.queue = q :: r) (c : decide ((V.Ap.at k).state = 0) = false) (h' : Hd) :
  A2 (V.BL k { sv with Dy := ⟨sv.Dy.now, sv.Dy.Cd, sv.Dy.ret, h'⟩, out := ⟨sv.out.wait, 0, false, sv.out.ring, sv.out.cut⟩ }) (ls.put k ⟨r, sl.wait, sl.told⟩) ev = (A2 V ls ev).set k { (A2 V ls ev).at_ k with queue := r }.FM ∧ ((A2 V ls ev).at_ k).queue = q :: r ∧
  (A2 V ls ev).EJ k = if sv.out.B5 = true then (A2 V ls ev).set k { (A2 V ls ev).at_ k with queue := r }.FM else if decide (sv.state = 1) = true then ((A2 V ls ev).set k { (A2 V ls ev).at_ k with queue := r }.FM).named k (Words.PM 32 (Words.RT 32 q)) else ((A2 V ls ev).set k { (A2 V ls ev).at_ k with queue := r }.FM).order k q := by
 have ha := CY V ls ev h0 h1
 have e : ((A2 V ls ev).at_ k).queue = q :: r := by rw [ha, hl]; exact hq
 refine ⟨EW h0 h1 hs hl (f := fun x => { x with queue := r }.FM) rfl, e, ?_⟩
 unfold AN.EJ
 rw [if_neg (show ¬ decide (((A2 V ls ev).at_ k).state = 0) = true by rw [ha]; show ¬ decide ((V.Ap.at k).state = 0) = true; rw [c]; decide)]
 split
 ·rename_i e2; rw [e] at e2; cases e2
 ·rename_i q' r' e2
  rw [e] at e2
  obtain ⟨rfl, rfl⟩ := List.cons.inj e2
  have e3 : ((A2 V ls ev).at_ k).pg.B5 = sv.out.B5 := by rw [ha, hs]; rfl
  have e4 : ((A2 V ls ev).at_ k).state = sv.state := by rw [ha, hs]; rfl
  simp only [e3, e4]
theorem Rw {H : AN} {i : Int} (h0 : 0 ≤ i) : H.turns (i + 1).toNat = (H.turns i.toNat).EJ i := by
 obtain ⟨m, rfl⟩ := Int.eq_ofNat_of_zero_le h0
 rfl
end Go.Ing
/- A house: who comes, bytes that come: plain laws for the walks. -/
namespace Go.Ing
open Go
def XS : Hd := ⟨none, 0, 0⟩
def EB (t : AO) (g : Page.Pg) : A0 := ⟨1, -1, t, ⟨[], false, false, XS⟩, ⟨XS, g.shown, g.B5, g.ring, g.cut⟩, XS⟩
def XA : BG := ⟨[], [], []⟩
theorem Q3 {v : A0} {l : BG} {u : Au} (hw : v.out.wait.len = l.wait.length) : (Ch v l).send u = Ch { v with out := ⟨v.out.wait, (Page.send v.out u).1.shown, (Page.send v.out u).1.B5, (Page.send v.out u).1.ring, (Page.send v.out u).1.cut⟩ } l := by
 unfold BA.send Page.send
 rw [IQ hw]
 cases h : Page.Br v.out with
 | false => rfl
 | true =>
  have e : (Ch v l).pg.cut = v.out.cut := rfl
  cases hc : v.out.cut with
  | true => rw [e, hc]; show Ch v l = Ch { v with out := ⟨v.out.wait, v.out.shown, v.out.B5, v.out.ring, v.out.cut⟩ } l; rfl
  | false => rw [e, hc]; rfl
def Hu (t : AO) (opt : Int) : AO := if decide ((t.DD opt).2.1 = []) = true then ((t.DD opt).1.Ask opt).1 else (t.DD opt).1
def Ll (t : AO) (opt : Int) : Au := if decide ((t.DD opt).2.1 = []) = true then (t.DD opt).2.1 ++ ((t.DD opt).1.Ask opt).2.1 else (t.DD opt).2.1 ++ []
def KC (t : AO) (g : Page.Pg) (opt : Int) : Page.Pg := (Page.send ⟨XS, g.shown, g.B5, g.ring, g.cut⟩ (Ll t opt)).1
theorem ME (t : AO) (g : Page.Pg) (opt : Int) : (Ch (EB t g) XA).offer opt = Ch (EB (Hu t opt) (KC t g opt)) XA := by
 have h := Q3 (v := EB (Hu t opt) g) (l := XA) (u := Ll t opt) rfl
 unfold BA.offer
 have e : (Ch (EB t g) XA).EI = t := rfl
 rw [e]
 by_cases c : decide ((t.DD opt).2.1 = []) = true
 ·rw [if_pos c]
  have e1 : Hu t opt = ((t.DD opt).1.Ask opt).1 := if_pos c
  have e2 : Ll t opt = [] ++ ((t.DD opt).1.Ask opt).2.1 := (if_pos c).trans (by rw [of_decide_eq_true c])
  rw [← e1, ← e2]
  exact h
 ·rw [if_neg c]
  have e1 : Hu t opt = (t.DD opt).1 := if_neg c
  have e2 : Ll t opt = (t.DD opt).2.1 ++ [] := if_neg c
  rw [← e1, ← e2]
  exact h
def Dk (j : Int) : Int := (((Vector.replicate 2 (default : Int)).put 0 3).put 1 31).at j
def Ej : Nat → AO × Page.Pg
 | 0 => (default, ⟨0, false, [], false⟩)
 | j + 1 => (Hu (Ej j).1 (Dk j), KC (Ej j).1 (Ej j).2 (Dk j))
theorem Gg {j : Int} (h0 : 0 ≤ j) : Ej (j + 1).toNat = (Hu (Ej j.toNat).1 (Dk j), KC (Ej j.toNat).1 (Ej j.toNat).2 (Dk j)) := by
 obtain ⟨m, rfl⟩ := Int.eq_ofNat_of_zero_le h0
 rfl
theorem NT : Ch (EB (Ej 2).1 (Ej 2).2) XA = (({ (default : BA) with state := 1, A7 := -1 }).offer 3).offer 31 := by
 have h0 : ({ (default : BA) with state := 1, A7 := -1 } : BA) = Ch (EB (Ej 0).1 (Ej 0).2) XA := rfl
 rw [h0, ME, ME]
 rfl
theorem FD (t : AO) (opt : Int) : (t.DD opt).2.1.length ≤ 3 := by
 unfold AO.DD
 split
 ·exact Nat.zero_le _
 ·split
  ·exact Nat.zero_le _
  ·split
   ·exact Nat.zero_le _
   ·exact Nat.le_refl 3
theorem HN (t : AO) (opt : Int) : (t.Ask opt).2.1.length ≤ 3 := by
 unfold AO.Ask
 split
 ·exact Nat.zero_le _
 ·split
  ·exact Nat.zero_le _
  ·split
   ·exact Nat.zero_le _
   ·exact Nat.le_refl 3
theorem AN.Fit.comes {H : AN} {n m : Nat} (h : H.Fit n m) {k : Int} (h0 : 0 ≤ k) (h1 : k < 4) (t : AO) (g : Page.Pg) : (H.set k (Ch (EB t g) XA)).Fit n m :=
 h.set h0 h1 (Nat.zero_le _) (fun e => absurd (show (1 : Int) = 2 from e) (by decide)) (fun u hu => by cases hu) ⟨Nat.zero_le _, fun u hu => by cases hu⟩
theorem AN.Fit.RG {H : AN} {n m : Nat} (h : H.Fit n m) {k : Int} (h0 : 0 ≤ k) (h1 : k < 4) : (H.RG k).Fit (n + 221) (m + 220) := by
 unfold AN.RG
 rw [← NT]
 exact ((h.comes h0 h1 _ _).tell h0 h1 (show AN.Hf.length ≤ _ by decide)).B3.mono (by omega) (by omega)
end Go.Ing
/- A house: an act: plain laws for the walks. -/
namespace Go.Ing
open Go
theorem PB {v : A0} {l : BG} (h : v.Dy.queue.len = l.queue.length) : (Ch v l).KP = Bc.Br v.Dy l.queue := by
 unfold BA.KP Bc.Br Bc.Ia
 rw [h]; rfl
theorem Ul {v : A0} {l : BG} {u : Au} (h : v.Dy.queue.len = l.queue.length) (c : Bc.Br v.Dy l.queue = false) : (Ch v l).typed u = (Ch v l, 0) := if_pos (by rw [PB h, c]; rfl)
theorem Ws {v : A0} {l : BG} {u : Au} (h : v.Dy.queue.len = l.queue.length) (c : Bc.Br v.Dy l.queue = true) (q : Hd) :
  (Ch v l).typed u = (Ch { v with Dy := ⟨(Bc.feed (Bc.start v.Dy l.queue) u).now, (Bc.feed (Bc.start v.Dy l.queue) u).Cd, (Bc.feed (Bc.start v.Dy l.queue) u).ret, q⟩ } ⟨(Bc.feed (Bc.start v.Dy l.queue) u).queue, l.wait, l.told⟩, (Bc.feed (Bc.start v.Dy l.queue) u).lost) :=
 (if_neg (by rw [PB h, c]; decide)).trans rfl
theorem RO (s : BA) (u : Au) : (s.typed u).1.told = s.told ∧ (s.typed u).1.state = s.state ∧ (s.typed u).1.A7 = s.A7 ∧ (s.typed u).1.wait = s.wait ∧ (AN.YR s.queue → AN.YR (s.typed u).1.queue) := by
 unfold BA.typed
 split
 ·exact ⟨rfl, rfl, rfl, rfl, fun h => h⟩
 ·rename_i c
  refine ⟨rfl, rfl, rfl, rfl, fun _ => ?_⟩
  have hg : Bc.Br ⟨s.now, s.Cd, s.ret, ⟨none, s.queue.length, 0⟩⟩ s.queue = true := by
   have : s.KP = true := by simpa using c
   exact this
  have ho := Bc.TY u ((Bc.Gz (l := ⟨s.now, s.Cd, s.ret, ⟨none, s.queue.length, 0⟩⟩) rfl).1 hg)
  exact ⟨ho.len, fun q hq => ((Bc.Gk q).1 (ho.queue q hq)).1⟩
theorem SV (s : BA) (u : Au) : (s.send u).told = s.told ∧ (s.send u).state = s.state ∧ (s.send u).A7 = s.A7 ∧ (s.send u).wait = s.wait ∧ (s.send u).queue = s.queue := by
 unfold BA.send
 split
 ·exact ⟨rfl, rfl, rfl, rfl, rfl⟩
 ·split <;> exact ⟨rfl, rfl, rfl, rfl, rfl⟩
def DV (s : BA) (u : Au) : BA × Int := (s.bytes u).1.typed (s.bytes u).2
theorem Pz (s : BA) (u : Au) : (DV s u).1.told = s.told ∧ (DV s u).1.state = s.state ∧ (DV s u).1.A7 = s.A7 ∧ (DV s u).1.wait = s.wait ∧ (AN.YR s.queue → AN.YR (DV s u).1.queue) := by
 have h1 := RO (s.bytes u).1 (s.bytes u).2
 have h2 := SV { s with EI := (s.EI.DQ u).1 } (s.EI.DQ u).2.2.1
 obtain ⟨a, b, c, d, e⟩ := h1
 obtain ⟨a', b', c', d', e'⟩ := h2
 exact ⟨a.trans a', b.trans b', c.trans c', d.trans d', fun hq => e (by rw [show (s.bytes u).1.queue = s.queue from e']; exact hq)⟩
theorem LL (H : AN) (k : Int) (u : Au) : H.byte k u = (if decide (0 < (DV (H.at_ k) u).2) = true then (H.set k (DV (H.at_ k) u).1).tell k AN.Qm else H.set k (DV (H.at_ k) u).1).B3 := rfl
def heard (v : A0) (u : Au) : A0 := { v with EI := (v.EI.DQ u).1, out := ⟨v.out.wait, (Page.send v.out (v.EI.DQ u).2.2.1).1.shown, (Page.send v.out (v.EI.DQ u).2.2.1).1.B5, (Page.send v.out (v.EI.DQ u).2.2.1).1.ring, (Page.send v.out (v.EI.DQ u).2.2.1).1.cut⟩ }
theorem PG {v : A0} {l : BG} {u : Au} (hw : v.out.wait.len = l.wait.length) : (Ch v l).bytes u = (Ch (heard v u) l, (v.EI.DQ u).2.1) := by
 unfold BA.bytes
 exact congrArg (fun x => (x, _)) (Q3 (v := { v with EI := (v.EI.DQ u).1 }) (l := l) (u := (v.EI.DQ u).2.2.1) hw)
theorem HA {v : A0} {l : BG} {u : Au} (hw : v.out.wait.len = l.wait.length) (h : v.Dy.queue.len = l.queue.length) (c : Bc.Br v.Dy l.queue = false) : DV (Ch v l) u = (Ch (heard v u) l, 0) := by
 unfold DV
 rw [PG hw]
 exact Ul (v := heard v u) h c
theorem IH {v : A0} {l : BG} {u : Au} (hw : v.out.wait.len = l.wait.length) (h : v.Dy.queue.len = l.queue.length) (c : Bc.Br v.Dy l.queue = true) (q : Hd) :
  DV (Ch v l) u = (Ch { heard v u with Dy := ⟨(Bc.feed (Bc.start v.Dy l.queue) (v.EI.DQ u).2.1).now, (Bc.feed (Bc.start v.Dy l.queue) (v.EI.DQ u).2.1).Cd, (Bc.feed (Bc.start v.Dy l.queue) (v.EI.DQ u).2.1).ret, q⟩ } ⟨(Bc.feed (Bc.start v.Dy l.queue) (v.EI.DQ u).2.1).queue, l.wait, l.told⟩, (Bc.feed (Bc.start v.Dy l.queue) (v.EI.DQ u).2.1).lost) := by
 unfold DV
 rw [PG hw]
 exact Ws (v := heard v u) h c q
namespace AN
variable {H : AN} {n m : Nat}
theorem QF {i : Int} (h0 : 0 ≤ i) : H.EK (i + 1).toNat = (H.EK i.toNat).set i { (H.EK i.toNat).at_ i with told := [] } := by
 obtain ⟨k, rfl⟩ := Int.eq_ofNat_of_zero_le h0
 rfl
theorem IN : ∀ k : Nat, (H.EK k).w = H.w ∧ (H.EK k).last = H.last ∧ (H.EK k).Cx = H.Cx
 | 0 => ⟨rfl, rfl, rfl⟩
 | k + 1 => IN k
theorem N7 : ∀ k : Nat, k ≤ 4 → ∀ j : Int, 0 ≤ j → j < 4 → (H.EK k).at_ j = if j < k then { H.at_ j with told := [] } else H.at_ j
 | 0, _, j, j0, _ => by rw [if_neg (by omega)]; rfl
 | k + 1, hk, j, j0, j1 => by
  have ih := N7 k (by omega)
  show (((H.EK k).set k _).at_ j) = _
  rw [IW _ (by omega) (by omega) j0]
  by_cases c : j = (k : Int)
  ·subst c
   rw [if_pos rfl, if_pos (by omega), ih _ j0 j1, if_neg (by omega)]
  ·rw [if_neg c, ih j j0 j1]
   by_cases c2 : j < (k : Int)
   ·rw [if_pos c2, if_pos (by omega)]
   ·rw [if_neg c2, if_neg (by omega)]
theorem RD {j : Int} (j0 : 0 ≤ j) (j1 : j < 4) : H.begun.at_ j = { H.at_ j with told := [] } := by
 have := N7 (H := { H with Cx := H.Cx + 1, last := [] }) 4 (Nat.le_refl 4) j j0 j1
 rw [if_pos (by omega)] at this
 exact this
theorem Fit.begun (h : H.Fit n m) : H.begun.Fit 0 0 := by
 have hs := IN (H := { H with Cx := H.Cx + 1, last := [] }) 4
 refine ⟨by show (EK _ 4).w.Lt; rw [hs.1]; exact h.HE, fun j a b => ?_, by show (EK _ 4).last.length ≤ 0; rw [hs.2.1]; exact Nat.le_refl 0, fun j a b => ?_, fun j a b => ?_, fun j a b => ?_⟩ <;> rw [RD a b]
 ·exact Nat.le_refl 0
 ·exact h.A7 j a b
 ·exact h.wait j a b
 ·exact h.queue j a b
theorem Fit.typed (h : H.Fit n m) {k : Int} (h0 : 0 ≤ k) (h1 : k < 4) (u : Au) : (H.set k (DV (H.at_ k) u).1).Fit n m := by
 obtain ⟨a, b, c, d, e⟩ := Pz (H.at_ k) u
 exact h.set h0 h1 (by rw [a]; exact h.told k h0 h1) (by rw [b, c]; exact h.A7 k h0 h1) (by rw [d]; exact h.wait k h0 h1) (e (h.queue k h0 h1))
theorem Fit.LV (h : H.Fit n m) {k : Int} (h0 : 0 ≤ k) (h1 : k < 4) (z : Int) : (H.set k ((H.at_ k).LV z)).Fit n m :=
 h.set h0 h1 (h.told k h0 h1) (h.A7 k h0 h1) (h.wait k h0 h1) (h.queue k h0 h1)
theorem Fit.Oo (h : H.Fit n m) (d : Int) : (H.Oo d).Fit (n + 400) (m + 400) := by
 have h1 := Jk h 4 (Nat.le_refl 4)
 have hr := AG.N0 (draw := d) h1.HE
 have hl := AG.O1 h1.HE.MH d
 exact (((h1.land hr.1).HI hr.2).B3).mono (by omega) (by omega)
theorem Fit.byte (h : H.Fit 0 0) {k : Int} (h0 : 0 ≤ k) (h1 : k < 4) (u : Au) : (H.byte k u).Fit 1000 1000 := by
 rw [LL]
 refine (Fit.B3 (n := 1) (m := 0) ?_).mono (by omega) (by omega)
 split
 ·exact (h.typed h0 h1 _).tell h0 h1 (show Qm.length ≤ _ by decide)
 ·exact (h.typed h0 h1 _).mono (by omega) (by omega)
theorem KT (P : AN → Prop) (h0 : P H) (hp : ∀ d, P (H.Oo d)) (hc : ∀ k, 0 ≤ k → k < 4 → P (H.RG k)) (hb : ∀ k u, 0 ≤ k → k < 4 → P (H.byte k u)) (ht : ∀ k z, 0 ≤ k → k < 4 → P ((H.set k ((H.at_ k).LV z)).B3)) (hl : ∀ k, 0 ≤ k → k < 4 → P (H.leave k).B3) (a : B4) : P (H.El a).1 := by
 unfold AN.El
 split
 ·dsimp only; exact hp a.n
 ·split
  ·dsimp only; exact h0
  ·split
   ·dsimp only; exact h0
   ·rename_i c
    have hs : 0 ≤ a.BL ∧ a.BL < 4 := by simp only [Bool.or_eq_true, decide_eq_true_eq] at c; omega
    split
    ·dsimp only; exact h0
    ·split
     ·dsimp only; exact hc _ hs.1 hs.2
     ·split
      ·dsimp only; exact hb _ _ hs.1 hs.2
      ·split
       ·dsimp only; exact ht _ _ hs.1 hs.2
       ·dsimp only; exact hl _ hs.1 hs.2
theorem Fit.El (h : H.Fit 0 0) (a : B4) : (H.El a).1.Fit 1000 1000 :=
 KT (fun X => X.Fit 1000 1000) (h.mono (by omega) (by omega)) (fun d => (h.Oo d).mono (by omega) (by omega)) (fun k h0 h1 => (h.RG h0 h1).mono (by omega) (by omega)) (fun k u h0 h1 => h.byte h0 h1 u)
  (fun k z h0 h1 => ((h.LV h0 h1 z).B3).mono (by omega) (by omega)) (fun k h0 h1 => ((h.leave h0 h1).B3).mono (by omega) (by omega)) a
theorem Fit.act (h : H.Fit n m) (a : B4) : (H.act a).1.Fit (n + 1000) (m + 1000) := by
 unfold AN.act
 split
 ·exact h.mono (by omega) (by omega)
 ·exact (h.begun.El a).mono (by omega) (by omega)
theorem GP {H : AN} (c : decide (400 ≤ H.Cx) = false) (a : B4) : H.act a = H.begun.El a := if_neg (by rw [c]; decide)
end AN
theorem F7 (V : AH) (ls : Vector BG 4) (ev : List Event) {k : Int} (h0 : 0 ≤ k) (h1 : k < 4) : decide (((A2 V ls ev).at_ k).state = 0) = decide ((V.Ap.at k).state = 0) := by rw [CY V ls ev h0 h1]; rfl
theorem Ex {V : AH} {ls : Vector BG 4} {ev : List Event} {k : Int} (h0 : 0 ≤ k) (h1 : k < 4) {sv v : A0} {sl l : BG} (hs : V.Ap.at k = sv) (hl : ls.at k = sl) {u : Au} {z : Int} (e : DV (Ch sv sl) u = (Ch v l, z)) :
  A2 (V.BL k v) (ls.put k l) ev = (A2 V ls ev).set k (DV ((A2 V ls ev).at_ k) u).1 ∧ (DV ((A2 V ls ev).at_ k) u).2 = z := by
 have ha : DV ((A2 V ls ev).at_ k) u = (Ch v l, z) := by rw [CY V ls ev h0 h1, hs, hl]; exact e
 rw [H3 V ls ev h0 h1, ha]
 exact ⟨rfl, rfl⟩
theorem II {V V2 : AH} {ls ls2 : Vector BG 4} {ev : List Event} {k : Int} (h0 : 0 ≤ k) (h1 : k < 4) {u : Au} {z : Int} (e : A2 V2 ls2 ev = (A2 V ls ev).set k (DV ((A2 V ls ev).at_ k) u).1 ∧ (DV ((A2 V ls ev).at_ k) u).2 = z) (hF : (A2 V ls ev).Fit 0 0) : (A2 V2 ls2 ev).Fit 0 0 := by
 rw [e.1]; exact hF.typed h0 h1 u
theorem LU {V V2 V3 V4 : AH} {ls ls2 ls3 ls4 : Vector BG 4} {ev ev3 ev4 : List Event} {k : Int} (_ : 0 ≤ k) (_ : k < 4) {u : Au} {z : Int} (e : A2 V2 ls2 ev = (A2 V ls ev).set k (DV ((A2 V ls ev).at_ k) u).1 ∧ (DV ((A2 V ls ev).at_ k) u).2 = z)
  (e3 : (decide (0 < z) = true ∧ A2 V3 ls3 ev3 = (A2 V2 ls2 ev).tell k AN.Qm) ∨ (decide (0 < z) = false ∧ A2 V3 ls3 ev3 = A2 V2 ls2 ev)) (e4 : A2 V4 ls4 ev4 = (A2 V3 ls3 ev3).B3) : A2 V4 ls4 ev4 = (A2 V ls ev).byte k u := by
 rw [e4, LL, e.2]
 rcases e3 with ⟨c, e3⟩ | ⟨c, e3⟩
 ·rw [e3, if_pos c, e.1]
 ·rw [e3, if_neg (by rw [c]; decide), e.1]
theorem VC (V : AH) (ls : Vector BG 4) (ev : List Event) {k : Int} (h0 : 0 ≤ k) (h1 : k < 4) {sv : A0} (hs : V.Ap.at k = sv) (n : Int) : sv.out.ring.take (max 0 (min n (sv.out.ring.length : Int))).toNat = ((A2 V ls ev).at_ k).out n := by
 rw [CY V ls ev h0 h1, hs]; rfl
theorem UU (t : AO) (u : Au) : (t.DQ u).2.1.length ≤ u.length := by
 unfold AO.DQ
 split
 ·exact Nat.zero_le _
 ·exact (AO.Wd u t).1
end Go.Ing
/- A house, from outside: plain laws for the walks. -/
namespace Go.Ing
open Go
namespace AN
def HZ (H : AN) (i : Int) : Int × Int := if decide ((H.at_ i).state = 2) = true then (2, (H.at_ i).A7) else ((H.at_ i).state, -1)
theorem RI : ∀ (l : List B4) (H : AN) (a : B4), run H (l ++ [a]) = (((run H l).1.act a).1, (run H l).2 ++ [((run H l).1.act a).2])
 | [], _, _ => rfl
 | b :: r, H, a => by
  have ih := RI r (H.act b).1 a
  show ((run (H.act b).1 (r ++ [a])).1, (H.act b).2 :: (run (H.act b).1 (r ++ [a])).2) = _
  rw [ih]; rfl
theorem Wh {H : AN} {xs : List B4} {k : Int} (h0 : 0 ≤ k) (h1 : k < xs.length) : run H (xs.take (k + 1).toNat) = (((run H (xs.take k.toNat)).1.act (xs.getD k.toNat default)).1, (run H (xs.take k.toNat)).2 ++ [((run H (xs.take k.toNat)).1.act (xs.getD k.toNat default)).2]) := by
 obtain ⟨m, rfl⟩ := Int.eq_ofNat_of_zero_le h0
 have hm : m < xs.length := by omega
 show run H (xs.take (m + 1)) = (((run H (xs.take m)).1.act (xs.getD m default)).1, (run H (xs.take m)).2 ++ [((run H (xs.take m)).1.act (xs.getD m default)).2])
 rw [List.take_add_one, List.getElem?_eq_getElem hm, List.getD_eq_getElem?_getD, List.getElem?_eq_getElem hm]
 exact RI _ _ _
def Fits (H : AN) : Prop := ∃ n m, H.Fit n m
theorem Fits.act {H : AN} (h : H.Fits) (a : B4) : (H.act a).1.Fits := by
 obtain ⟨n, m, h⟩ := h
 exact ⟨_, _, h.act a⟩
theorem Fits.run : ∀ (l : List B4) {H : AN}, H.Fits → (run H l).1.Fits
 | [], _, h => h
 | a :: r, _, h => Fits.run r (h.act a)
theorem Wz : AI.new.Lt := by
 refine ⟨fun i => ?_, fun i => ?_, fun i => ?_⟩
 ·rcases Vector.Nq AI.new.AX i with e | ⟨j, j0, j1, e⟩
  ·rw [e]; exact Nat.zero_le _
  ·rw [e]
   have : j = 0 ∨ j = 1 ∨ j = 2 ∨ j = 3 ∨ j = 4 ∨ j = 5 ∨ j = 6 ∨ j = 7 ∨ j = 8 := by omega
   rcases this with h | h | h | h | h | h | h | h | h <;> subst h <;> decide
 ·rcases Vector.Nq AI.new.AW i with e | ⟨j, j0, j1, e⟩
  ·rw [e]; exact Nat.zero_le _
  ·rw [e]
   have : j = 0 ∨ j = 1 ∨ j = 2 ∨ j = 3 ∨ j = 4 ∨ j = 5 := by omega
   rcases this with h | h | h | h | h | h <;> subst h <;> decide
 ·rcases Vector.Nq AI.new.By i with e | ⟨j, j0, j1, e⟩
  ·rw [e]; exact Nat.zero_le _
  ·rw [e]
   have : j = 0 ∨ j = 1 ∨ j = 2 ∨ j = 3 ∨ j = 4 ∨ j = 5 := by omega
   rcases this with h | h | h | h | h | h <;> subst h <;> decide
theorem Vz {k : Int} (h0 : 0 ≤ k) (h1 : k < 4) : AN.new.at_ k = default := by
 rcases four h0 h1 with e | e | e | e <;> subst e <;> rfl
theorem W0 : AN.new.Fit 0 0 := by
 refine ⟨Wz, fun k a b => ?_, Nat.le_refl 0, fun k a b => ?_, fun k a b => ?_, fun k a b => ?_⟩ <;> rw [Vz a b]
 ·exact Nat.le_refl 0
 ·exact fun e => absurd (show (0 : Int) = 2 from e) (by decide)
 ·exact fun u hu => by cases hu
 ·exact ⟨Nat.zero_le _, fun u hu => by cases hu⟩
end AN
theorem St.XD {w0 w : World} {M : List Nat} {L l : List Ab} (h : St w0 M w L) (hl : ∀ r ∈ l, r.CP = [] ∧ r.ok w) : St w0 M w (Ab.C3 l :: L) := by
 have hf : (Ab.C3 l).CP = [] := by
  show l.flatMap Ab.CP = []
  rw [List.flatMap_eq_nil_iff]
  exact fun r hr => (hl r hr).1
 refine ⟨h.os, h.tape, h.output, h.size, h.Gx, fun r hr => ?_, fun r hr => ?_, List.pairwise_cons.2 ⟨fun s hs b hb => ?_, h.IM⟩⟩
 ·rcases List.mem_cons.1 hr with rfl | hr
  ·refine ⟨fun r hr => (hl r hr).2, ?_⟩
   refine List.Pairwise.imp_of_mem (R := fun _ _ => True) (fun {a b} ha hb _ x hx => ?_) (List.pairwise_of_forall (fun _ _ => trivial))
   rw [(hl a ha).1] at hx; cases hx
  ·exact h.ok r hr
 ·rcases List.mem_cons.1 hr with rfl | hr
  ·rw [hf]; exact fun b hb => by cases hb
  ·exact h.CP r hr
 ·rw [hf] at hb; cases hb
def Mg : Vector A0 4 := Vector.replicate 4 default
def Me : Vector BG 4 := Vector.replicate 4 ⟨[], [], []⟩
theorem U7 (T : Nat) (w : World) : ∀ r ∈ Bt T Mg Me, r.CP = [] ∧ r.ok w := by
 have hs : ∀ r ∈ FJ T default ⟨[], [], []⟩, r.CP = [] ∧ r.ok w := fun r hr => by
  unfold FJ at hr
  simp only [List.mem_cons, List.mem_nil_iff, or_false] at hr
  rcases hr with rfl | rfl | rfl <;> exact ⟨rfl, .inl ⟨rfl, rfl⟩⟩
 intro r hr
 have e : Bt T Mg Me = FJ T default ⟨[], [], []⟩ ++ (FJ T default ⟨[], [], []⟩ ++ (FJ T default ⟨[], [], []⟩ ++ FJ T default ⟨[], [], []⟩)) := rfl
 rw [e] at hr
 simp only [List.mem_append] at hr
 rcases hr with h | h | h | h <;> exact hs r h
def Ei (v : A0) : Int × Int := if decide (v.state = 2) = true then (2, v.A7) else (v.state, -1)
theorem Ii (V : AH) (ls : Vector BG 4) (ev : List Event) {i : Int} (h0 : 0 ≤ i) (h1 : i < 4) : Ei (V.Ap.at i) = (A2 V ls ev).HZ i := by
 unfold AN.HZ
 rw [CY V ls ev h0 h1]
 rfl
end Go.Ing
/- Engine: calls of closures that read what they are handed; slices that are only read, beside boxes. -/
namespace Go.Ing
open Go
section
variable {P : Program} {n : Nat} {w0 : World} {M : List Nat} {Q : Exit → Go.Act → World → Prop} {F : List (Nat × Value)} {L : List Ab} {ops : Array Oper} {rest : List Oper}
theorem Tl {d : Nat} {f : FuncId} {t : Nat} {caps : List Value} {args : List Operand} {ts : Array TypeId} {T : TypeId} {pos : String} {Ce : Array Edge} {vs : List Value} {H : World → Prop} {Post : Value → List Ab → Prop} {A K : List Ab} (hd : Nat.blt d n = true) (hc : CF P f) (hf : lk t F = some (.func (.func f) #[] caps.toArray)) (ha : MV F args vs) (hL : Av L A K)
  (h : Ev P f (vs ++ caps).toArray A H Post) (hH : ∀ w, St w0 M w L → H w)
  (k : ∀ v B, Post v B → GL P n w0 M ops Q rest ((d, v) :: F) (B ++ K)) : GL P n w0 M ops Q (⟨some d, .call ⟨.value (.tmp t), args.toArray, ts⟩, T, pos, Ce, none⟩ :: rest) F L := by
 intro a w hF hS
 refine wpList_plain rfl fun K' hK => ?_
 unfold Oper.wp
 rw [O8 hc hF hf ha]
 show Calls _ _ _ _ _
 refine Calls.mono (h w (hS.perm hL.perm).focus (hH w hS)) fun e w' he => ?_
 obtain ⟨v, rfl, B, hP, hB⟩ := he
 exact hK _ _ (k v B hP _ _ (hF.put (by simpa [Nat.blt_eq] using hd) v) ((hS.perm hL.perm).frame hB))
def cK (w : World) (M : List Nat) (h : Hd) (T sz : Nat) (cs : List Value) : Prop := Rd w h T sz cs ∧ (cs ≠ [] → ∀ b o, h.a = some ⟨b, o, none⟩ → b ∉ M)
theorem Kn.W9 {h : Hd} {T sz : Nat} {cs : List Value} (hr : cK w0 M h T sz cs) : Kn w0 M L h T sz cs := fun w hS => by
 by_cases hc : cs = []
 ·subst hc; exact ⟨hr.1.1, fun h => absurd rfl h⟩
 ·exact hS.ch hr.1 (hr.2 hc)
theorem PT {L' : List Ab} {T U E i sz p : Nat} {h : Hd} {cs : List Value} {x y : Operand} {v : Value} (hx : ev F x = some (h.ptr i sz p)) (hy : ev F y = some v) (hv : v.cells = [v].toArray) (h1 : v.oneCell' = true) (hT : Sz P T 1) (hi : i * sz + p < cs.length) (hL : Jp L (Ab.own h E sz cs) (Ab.own h E sz (cs.set (i * sz + p) v)) L') : PU P n w0 M (.store T x y) U F L L' := by
 intro a w hF hS
 rcases hS.ok _ hL.mem with ⟨_, rfl⟩ | ⟨b, o, C, fz, e1, e2, e3, e4, e5, e6, e7, e8⟩
 ·simp at hi
 ·have hlen : o + cs.length ≤ C.length := by have := Nat.mul_le_mul_right sz e6; omega
  obtain ⟨w', s1, s2, s3, s4, s5, s6, s7⟩ := Ft (P := P) (o := o + (i * sz + p)) [v] w C 0 e3 (fun u hu => by simp at hu; subst hu; exact h1) (by simp; omega) e4
  refine ⟨w', ?_, hS.EJ hL s5 s6 s7 (by omega) (fun k _ hk => s3 k (by simpa [Ab.own, e1] using hk)) ?_ ?_⟩
  ·rw [Hd.Nl e1, Nat.add_assoc] at hx
   simp only [execOp, hF.ev hx, hF.ev hy, Instr.storeAt, Instr.sureAddr, storeVar, hv]
   simp [hT w, s1]
  ·refine .inr ⟨b, o, C7 C (o + (i * sz + p)) [v], fz, e1, by omega, by simpa using s2, ?_, ?_, e6, ?_, ?_⟩
   ·rw [DM (by simp; omega)]; exact e4
   ·rw [DM (by simp; omega)]; exact e5
   ·rw [List.length_set]; exact e7
   ·exact OA e8 hlen hi
  ·intro k hk
   simp [Ab.own, e1] at hk
   subst hk
   exact ⟨by omega, .inl (by simp [Ab.own, e1])⟩
end
theorem Rd.pull {w0 w : World} {L A K : List Ab} {h : Hd} {T sz : Nat} {cs : List Value} (hr : Rd w0 h T sz cs) (hS : St w0 [] w L) (hp : Av L A K) : cK w (CR A) h T sz cs :=
 ⟨hS.rd hr, fun hne b o e => by
  obtain ⟨b', o', C, fz, h1, h2, _⟩ := hr.2 hne
  rw [e] at h1
  injection h1 with h1
  injection h1 with h1
  subst h1
  exact NA h2 (by simp) hS hp⟩
instance : Inhabited AH := ⟨⟨default, Vector.replicate 4 default, 0, ⟨none, 0, 0⟩⟩⟩
end Go.Ing
/- Engine: the texts in a slice of acts that came in, and how much they can take. -/
namespace Go.Ing
open Go Go.RowKit Go.ChangeShapes Go.WideShapes Go.ChangeAt
section
variable {H : Type} {enc : TypeId × Value → H} {P : Program} {w : World}
theorem L8 {e : TypeId} {d : DataW H} : ∀ {l : List (DataW H)}, d ∈ l → ∀ n ∈ d.weights P e, n ∈ DataW.weightsAll P e l
 | [], h, _, _ => by cases h
 | x :: r, h, n, hn => by
  simp only [DataW.weightsAll]
  rcases List.mem_cons.1 h with rfl | h
  ·exact List.mem_append_left _ hn
  ·exact List.mem_append_right _ (L8 h n hn)
theorem Sl {t E TS : TypeId} {fs : Array Field} {h : Hd} {d : DataW H} {p : List MemPlace} {T0 : Nat} {xs : List B4} (hT : P.underlying t = some (.slice E)) (hE : P.underlying E = some (.struct fs)) (hf : (fs[3]?).map (fun f => (f.type, f.offset)) = some (TS, 3)) (hS : P.underlying TS = some .string) (zE : P.cellsOf E = 4) (zS : P.cellsOf TS = 1)
  (hd : DataW.Trod enc P w 0 (fun _ => true) true t h.val d p) (hr : Rd w h T0 4 (xs.flatMap B4.enc)) (hw : ∀ n ∈ d.weights P t, n ≤ reachBytes) : ∀ a ∈ xs, a.bytes.length ≤ 140737488351232 := by
 have hlen : h.len = xs.length := hr.KV B4.fl (by decide)
 intro a ha
 obtain ⟨i, hi, rfl⟩ := List.getElem_of_mem ha
 have hb : ∃ b o, h.a = some ⟨b, o, none⟩ := by
  have hne : xs.flatMap B4.enc ≠ [] := fun e => by
   have := congrArg List.length e
   rw [B1 B4.fl.len] at this
   simp only [List.length_nil] at this
   omega
  obtain ⟨b, o, _, _, e, _⟩ := hr.2 hne
  exact ⟨b, o, e⟩
 obtain ⟨b, o, hb⟩ := hb
 obtain ⟨fuel, hfu⟩ := hd
 have hv : h.val = .slice (some ⟨b, o, none⟩) h.len h.cap := by rw [← hb]; rfl
 have hcs : h.val.cells.toList = [.slice (some ⟨b, o, none⟩) h.len h.cap] := by rw [hv]; rfl
 rw [hcs] at hfu
 rcases DataW.trod_slice hT hfu with ⟨h3, _⟩ | ⟨a', len, cap, elems, rest, m, _, h3, h4, _, hlc, _, h5, hel, _⟩
 ·simp at h3
 ·simp at h3
  obtain ⟨rfl, rfl, rfl⟩ := h3
  have hd' : d = .slice (elems.map (·.1)) (rest.map (·.1)) := congrArg Prod.fst h4
  have h6 := hel i (by omega)
  have hi' : i < elems.length := by omega
  rw [List.getElem?_eq_getElem hi', Option.bind_eq_some_iff] at h6
  obtain ⟨c, h7, h9⟩ := h6
  obtain ⟨ys, q, _, hx, hl, hlen', hfl⟩ := DataW.trod_struct hE h9
  cases hf3 : fs[3]? with
  | none => rw [hf3] at hf; cases hf
  | some f =>
   rw [hf3] at hf
   simp at hf
   obtain ⟨rfl, hoff⟩ := hf
   have h1 := hfl 3 f hf3
   have h3s : 3 < fs.size := by
    rcases Nat.lt_or_ge 3 fs.size with h' | h'
    ·exact h'
    ·rw [Array.getElem?_eq_none h'] at hf3; cases hf3
   have h2 : ys[3]? = some (ys[3]'(by omega)) := List.getElem?_eq_getElem (by omega)
   rw [h2, zS, hoff] at h1
   obtain ⟨s, e1, e2, _⟩ := DataW.trod_string hS h1
   have hc := World.cells?_some h7
   rw [zE] at hc
   have h10 := hc.2.2 3 (by omega)
   have h11 : c[3]? = some (.string s) := by
    have := congrArg (fun l => l[0]?) e1
    simp only [List.getElem?_take, List.getElem?_drop] at this
    simpa using this
   obtain ⟨b', o', C, fz, k1, k2, k3, k4⟩ := M6 B4.fl B4.l3 hr hi (by decide)
   have k1' : (some ⟨b, o, none⟩ : Option Addr) = some ⟨b', o', none⟩ := hb.symm.trans k1
   injection k1' with k1'
   injection k1' with kb ko
   subst kb; subst ko
   rw [EH, EH] at h10
   unfold World.cell? at h10
   simp only [k2] at h10
   have k5 : C[o + i * 4 + 3]? = some (BO xs[i].bytes) := by
    have := congrArg (fun l => l[0]?) k4
    simp only [List.getElem?_take, List.getElem?_drop] at this
    simpa [A4] using this
   have k6 : BO xs[i].bytes = .string s := by
    rw [h11] at h10
    have : C[o + i * 4 + 3]? = some (Value.string s) := by simpa using h10
    rw [k5] at this
    injection this
   have k7 : s.data.toList = xs[i].bytes := by
    simp [BO] at k6
    rw [← k6]
   have hmem : xs[i].bytes.length ∈ d.weights P t := by
    rw [hd']
    simp only [DataW.weights, hT]
    refine List.mem_cons_of_mem _ (List.mem_append_left _ (L8 (d := elems[i].1) (List.mem_map.2 ⟨elems[i], List.getElem_mem _, rfl⟩) _ ?_))
    have hx' : elems[i].1 = .agg (ys.map (·.1)) := congrArg Prod.fst hx
    rw [hx']
    simp only [DataW.weights, hE]
    refine DataW.weights_mem_each (j := 3) (t := f.type) (d := (ys[3]'(by omega)).1) ?_ ?_ _ ?_
    ·rw [List.getElem?_map]; simp [hf3]
    ·rw [List.getElem?_map, h2]; rfl
    ·rw [e2, k7]; simp [DataW.weights]
   exact hw _ hmem
end
end Go.Ing
/- What every turn keeps: a principle. -/
namespace Go.Ing
open Go
namespace AG
inductive UM (w : AI) : Au → Prop
 | word {s : Au} : s ∈ [Lh, U6, SG, K6, PQ, OB, Zd, X8, Yl, QT] → UM w s
 | room (r : Int) : UM w ([84, 104, 101, 32] ++ (w.By.at r).name ++ [46])
 | ways (r : Room) : UM w (H6 r 6)
 | list {s : Au} (l : List Int) : s ∈ [[72, 101, 114, 101, 32, 105, 115], [89, 111, 117, 32, 104, 97, 118, 101]] → UM w (RV w s l ++ [46])
 | seen (k : Int) : UM w ((w.AW.at k).name ++ [32, 105, 115, 32, 104, 101, 114, 101, 46])
inductive Shape (x : Au) (w : AI) : Event → Prop
 | cx {s : Au} : UM w s → Shape x w { GR 16 with text := s }
 | said : Shape x w { GR 7 with text := x }
 | kind {k : Int} : k = 15 ∨ k = 17 → Shape x w (GR k)
 | dir {k d : Int} : k = 1 ∨ k = 2 → Shape x w { GR k with dir := d }
 | B2 {k i : Int} : k = 3 ∨ k = 4 ∨ (8 ≤ k ∧ k ≤ 13) → Shape x w { GR k with B2 := (w.AX.at i).name }
 | I1 {k : Int} : k = 8 ∨ k = 9 → Shape x w { GR k with B2 := PH }
 | cn {i to : Int} : Shape x w { GR 6 with other := to, B2 := (w.AX.at i).name }
 | bL {i to : Int} : Shape x w { GR 5 with B2 := (w.AX.at i).name, text := (w.AX.at to).name }
 | CK {B7 n : Int} : 1 ≤ n → n ≤ 3 → Shape x w { GR 14 with other := B7, n := n }
def ev (w : AI) (b : Int) (e : Event) : Event := w.HK (D8 ⟨w, b, []⟩ e) 6
structure Rel (x : Au) (q : Prop) (b : Int) (R : AI → List Event → AI → Prop) : Prop where
 refl : ∀ w, R w [] w
 trans : ∀ {X l Y m Z}, R X l Y → R Y m Z → R X (l ++ m) Z
 hap : ∀ {w e}, Shape x w e → R w [ev w b e] w
 B2 : ∀ {w : AI} {i : Int} {t : Ak}, t.name = (w.AX.at i).name → t.kind = (w.AX.at i).kind → R w [] (w.KH i t)
 B7 : ∀ {w : AI} {k f : Int}, R w [] (w.C1 k { w.AW.at k with B7 := f })
 shut : ∀ {w : AI} {r d : Int} {v : Bool}, R w [] (w.ZC r d v)
 I8 : ∀ {w : AI} {d r : Int}, R w [ev w b { GR 1 with dir := d }] (w.C1 b { w.AW.at b with room := r, B7 := 0 })
 LP : q → ∀ {w}, R w [ev w b (GR 18)] w
 gone : ∀ {X l w}, R X l w → (∃ e ∈ l, (e.kind = 18 ∨ (e.kind = 15 ∧ b < 2)) ∧ e.Dt = b) → R X l (w.C1 b default)
section
variable {x : Au} {q : Prop} {b : Int} {R : AI → List Event → AI → Prop} (K : Rel x q b R) {X : AI} {T : AG}
include K
end
end AG
end Go.Ing
/- What every round of fights keeps, and every coming in: a principle. -/
namespace Go.Ing
open Go
namespace AG
structure cQ (R : AI → List Event → AI → Prop) : Prop where
 all : ∀ b, 0 ≤ b → b < 6 → Rel [] False b R
 cq : ∀ {w : AI} {k h : Int}, R w [] (w.C1 k { w.AW.at k with BM := h })
 cw : ∀ {X l w} {b : Int}, 2 ≤ b → R X l w → (∃ e ∈ l, e.kind = 15 ∧ e.Dt = b) → R X l (w.C1 b { w.AW.at b with room := 0, BM := 10 })
section
variable {R : AI → List Event → AI → Prop} (K : cQ R)
include K
omit K in
end
end AG
end Go.Ing
/- What happens within an act of a house, in small steps. -/
namespace Go.Ing
open Go
namespace BA
def Cl (s : BA) (e : Event) : BA := if (AI.tell e s.A7).2 = true then s.tell (AI.tell e s.A7).1 else s
def JA (s : BA) (es : List Event) : BA := if s.state = 2 then es.foldl Cl s else s
end BA
theorem lt_next {j : Int} {k : Nat} (c : ¬ j = (k : Int)) : (j < ((k + 1 : Nat) : Int)) = (j < (k : Int)) := propext ⟨fun _ => by omega, fun _ => by omega⟩
namespace AN
theorem J1 (e : Event) (H : AN) : ∀ k : Nat, k ≤ 4 → ∀ j : Int, 0 ≤ j → j < 4 → (Cl e H k).at_ j = if j < k ∧ (H.at_ j).state = 2 then (H.at_ j).Cl e else H.at_ j
 | 0, _, j, h0, _ => by rw [if_neg (by omega)]; rfl
 | k + 1, hk, j, h0, h1 => by
  have ih := J1 e H k (by omega) j h0 h1
  have ihk := J9 e H k (by omega) k (Int.le_refl _) (by omega)
  by_cases c : j = (k : Int)
  ·subst c
   unfold Cl
   rw [ihk]
   split
   ·rename_i c1
    rw [if_neg (by simp at c1; exact fun h => c1 h.2)]; exact ihk
   ·rename_i c1
    have hr : (if (k : Int) < ((k + 1 : Nat) : Int) ∧ (H.at_ k).state = 2 then (H.at_ k).Cl e else H.at_ k) = if (AI.tell e (H.at_ k).A7).2 = true then (H.at_ k).tell (AI.tell e (H.at_ k).A7).1 else H.at_ k := if_pos ⟨by omega, by simpa using c1⟩
    rw [hr]
    by_cases c2 : (AI.tell e (H.at_ k).A7).2 = true
    ·rw [if_pos c2, if_pos c2]
     unfold AN.tell
     rw [AN.IW _ (by omega) (by omega) h0, if_pos rfl, ihk]
    ·rw [if_neg c2, if_neg c2]; exact ihk
  ·have e2 : (Cl e H (k + 1)).at_ j = (Cl e H k).at_ j := by
    rw [Cl.eq_2]
    split
    ·rfl
    ·split
     ·exact TL (by omega) (by omega) h0 c _
     ·rfl
   rw [e2, ih]; simp only [lt_next c]
theorem Wy (s : BA) (e : Event) : (s.Cl e).state = s.state ∧ (s.Cl e).A7 = s.A7 := by
 unfold BA.Cl
 split
 ·exact ⟨(Ji _ _).1, (Ji _ _).2.1⟩
 ·exact ⟨rfl, rfl⟩
theorem Qr {j : Int} (j0 : 0 ≤ j) (j1 : j < 4) : ∀ (es : List Event) (H : AN), (H.Is es).at_ j = (H.at_ j).JA es
 | [], H => by show H.at_ j = _; unfold BA.JA; split <;> rfl
 | e :: r, H => by
  have ih := Qr j0 j1 r (Cl e H 4)
  show ((Cl e H 4).Is r).at_ j = _
  have h1 := J1 e H 4 (Nat.le_refl 4) j j0 j1
  rw [ih, h1]
  by_cases c : (H.at_ j).state = 2
  ·rw [if_pos ⟨by omega, c⟩]
   unfold BA.JA
   rw [if_pos c, if_pos (by rw [(Wy _ e).1]; exact c)]
   rfl
  ·rw [if_neg (fun h => c h.2)]
   unfold BA.JA
   rw [if_neg c, if_neg c]
theorem Xp (H : AN) (es : List Event) {j : Int} (j0 : 0 ≤ j) (j1 : j < 4) : (H.HI es).at_ j = (H.at_ j).JA es := Qr j0 j1 es _
def XQ : List Au := [Hf, Qm, Yd, Pc, noRoom]
inductive Gd (U : Au → Prop) (H : AN) : Int → AI → BA → List Event → Prop
 | left {k : Int} : (H.at_ k).state = 2 → (H.w.AW.at (H.at_ k).A7).here = true → Gd U H k (AG.Fh H.w (H.at_ k).A7 FY).1 default (AG.Fh H.w (H.at_ k).A7 FY).2.1
 | Xj {k : Int} {u : Au} : (H.at_ k).state = 1 → (AG.Bj H.w u).2.2.2 = 0 → Gd U H k (AG.Bj H.w u).1 { H.at_ k with state := 2, A7 := (AG.Bj H.w u).2.1 } (AG.Bj H.w u).2.2.1
 | cW {k : Int} {q : Au} : U q → (H.at_ k).state ≠ 0 → (H.at_ k).state ≠ 1 → (Words.parse q).1.verb ≠ 20 → Gd U H k (AG.Fh H.w (H.at_ k).A7 (Words.parse q).1).1 (H.at_ k) (AG.Fh H.w (H.at_ k).A7 (Words.parse q).1).2.1
 | round {d : Int} : Gd U H 0 (AG.Cg H.w d).1 (H.at_ 0) (AG.Cg H.w d).2.1
def Pm (H : AN) (k : Int) (w : AI) (s : BA) (es : List Event) : AN := ({ H with w := w }.set k s).HI es
inductive Step (U : Au → Prop) (H : AN) : AN → Prop
 | told {k : Int} {u : Au} : 0 ≤ k → k < 4 → (H.at_ k).state ≠ 0 → u ∈ XQ → Step U H (H.tell k u)
 | B3 {k : Int} : 0 ≤ k → k < 4 → (H.at_ k).state ≠ 0 → Step U H (H.set k (H.at_ k).B3)
 | goes {k : Int} {w : AI} {s : BA} {es : List Event} : 0 ≤ k → k < 4 → Gd U H k w s es → Step U H (H.Pm k w s es)
 | free {k : Int} : 0 ≤ k → k < 4 → ¬ ((H.at_ k).state = 2 ∧ (H.w.AW.at (H.at_ k).A7).here = true) → Step U H (H.set k default)
inductive Steps (U : Au → Prop) (H : AN) : AN → Prop
 | refl : Steps U H H
 | tail {X Y : AN} : Steps U H X → Step U X Y → Steps U H Y
section
variable {U : Au → Prop} {H X Y : AN}
theorem Step.one (h : Step U H X) : Steps U H X := .tail .refl h
theorem Steps.trans (h : Steps U H X) (k : Steps U X Y) : Steps U H Y := by
 induction k with
 | refl => exact h
 | tail _ s ih => exact ih.tail s
theorem Steps.Jw {P : AN → Prop} (hs : ∀ {H X : AN}, P H → Step U H X → P X) (h : P H) (k : Steps U H X) : P X := by
 induction k with
 | refl => exact h
 | tail _ s ih => exact hs ih s
theorem TB (H : AN) {k : Int} (h0 : 0 ≤ k) (h1 : k < 4) (w : AI) (s : BA) (es : List Event) {j : Int} (j0 : 0 ≤ j) (j1 : j < 4) : (H.Pm k w s es).at_ j = (if j = k then s else H.at_ j).JA es := by
 unfold Pm
 rw [Xp _ _ j0 j1, IW _ h0 h1 j0]
 rfl
theorem Sp (es : List Event) : (default : BA).JA es = default := if_neg (show ¬ (0 : Int) = 2 by decide)
theorem JC (H : AN) {k : Int} (h0 : 0 ≤ k) (h1 : k < 4) : Steps U H (H.leave k) := by
 unfold AN.leave
 split
 ·rename_i c
  rw [Bool.and_eq_true, decide_eq_true_eq] at c
  have s : Step U H (H.Pm k (AG.Fh H.w (H.at_ k).A7 FY).1 default (AG.Fh H.w (H.at_ k).A7 FY).2.1) := .goes h0 h1 (.left c.1 c.2)
  have e : (((H.Sg k).set k default).HI (AG.Fh H.w (H.at_ k).A7 FY).2.1).set k default = H.Pm k (AG.Fh H.w (H.at_ k).A7 FY).1 default (AG.Fh H.w (H.at_ k).A7 FY).2.1 := by
   show (H.Pm k _ default _).set k default = _
   have := TB H h0 h1 (AG.Fh H.w (H.at_ k).A7 FY).1 default (AG.Fh H.w (H.at_ k).A7 FY).2.1 h0 h1
   rw [if_pos rfl, Sp] at this
   have h2 := Kf (H.Pm k (AG.Fh H.w (H.at_ k).A7 FY).1 default (AG.Fh H.w (H.at_ k).A7 FY).2.1) h0 h1
   rw [this] at h2
   exact h2
  rw [e]
  exact s.one
 ·rename_i c
  exact (Step.free h0 h1 (fun h => c (by rw [Bool.and_eq_true, decide_eq_true_eq]; exact h))).one
theorem JM (H : AN) : ∀ k : Nat, k ≤ 4 → Steps U H (H.DY k).1
 | 0, _ => .refl
 | k + 1, hk => by
  have ih := JM H k (by omega)
  unfold DY
  split
  ·exact ih
  ·rename_i c
   have s : Step U (H.DY k).1 ((H.DY k).1.set k (((H.DY k).1.at_ k).B3)) := .B3 (by omega) (by omega) (by simpa using c)
   split
   ·exact (ih.tail s).trans (JC _ (by omega) (by omega))
   ·exact ih.tail s
theorem L9 : ∀ (n : Nat) (H : AN), Steps U H (H.Ip n)
 | 0, _ => .refl
 | n + 1, H => by
  unfold Ip
  split
  ·exact JM H 4 (Nat.le_refl 4)
  ·exact (JM H 4 (Nat.le_refl 4)).trans (L9 n _)
theorem Sh (H : AN) : Steps U H H.B3 := L9 5 H
theorem Ri (H : AN) {k : Int} (h0 : 0 ≤ k) (h1 : k < 4) (hs : (H.at_ k).state = 1) (u : Au) : Steps U H (H.named k u) := by
 unfold AN.named
 split
 ·rename_i c
  exact (Step.goes h0 h1 (.Xj hs (of_decide_eq_true c))).one
 ·have hn : (H.at_ k).state ≠ 0 := by omega
  split
  ·exact (Step.told h0 h1 hn (by simp [XQ])).one
  ·exact (Step.told h0 h1 hn (by simp [XQ])).one
theorem Qn (H : AN) {k : Int} (h0 : 0 ≤ k) (h1 : k < 4) (hs : (H.at_ k).state ≠ 0) (h2 : (H.at_ k).state ≠ 1) {u : Au} (hu : U u) : Steps U H (H.order k u) := by
 unfold AN.order
 split
 ·exact (Step.told h0 h1 hs (by simp [XQ])).one
 ·split
  ·exact JC H h0 h1
  ·rename_i c
   have := (Step.goes (H := H) h0 h1 (.cW hu hs h2 (fun e => c (decide_eq_true e)))).one
   unfold Pm at this
   rw [show ({ H with w := (AG.Fh H.w (H.at_ k).A7 (Words.parse u).1).1 } : AN).set k (H.at_ k) = { H with w := (AG.Fh H.w (H.at_ k).A7 (Words.parse u).1).1 } from Kf { H with w := (AG.Fh H.w (H.at_ k).A7 (Words.parse u).1).1 } h0 h1] at this
   exact this
theorem QZ (H : AN) (d : Int) : Steps U H ({ H with w := (AG.Cg H.w d).1 }.HI (AG.Cg H.w d).2.1) := by
 have := (Step.goes (U := U) (H := H) (Int.le_refl 0) (by decide) (.round (d := d))).one
 unfold Pm at this
 rw [show ({ H with w := (AG.Cg H.w d).1 } : AN).set 0 (H.at_ 0) = { H with w := (AG.Cg H.w d).1 } from Kf { H with w := (AG.Cg H.w d).1 } (Int.le_refl 0) (by decide)] at this
 exact this
def next (H : AN) (k : Int) (r : List Au) : AN := H.set k { H.at_ k with queue := r }.FM
theorem R7 (H : AN) {k : Int} (h0 : 0 ≤ k) (h1 : k < 4) (hU : ∀ q ∈ (H.at_ k).queue, U q) : (((H.at_ k).state = 0 ∨ (H.at_ k).queue = []) ∧ H.EJ k = H) ∨ ∃ q r, (H.at_ k).state ≠ 0 ∧ (H.at_ k).queue = q :: r ∧ Steps U (H.next k r) (H.EJ k) := by
 unfold AN.EJ
 split
 ·rename_i c; exact .inl ⟨.inl (of_decide_eq_true c), rfl⟩
 ·rename_i c
  have c' : (H.at_ k).state ≠ 0 := fun e => c (decide_eq_true e)
  split
  ·rename_i e; exact .inl ⟨.inr e, rfl⟩
  ·rename_i q r e
   refine .inr ⟨q, r, c', e, ?_⟩
   have ha : (H.next k r).at_ k = { H.at_ k with queue := r }.FM := by unfold next; rw [IW _ h0 h1 h0, if_pos rfl]
   have hst : ((H.next k r).at_ k).state = (H.at_ k).state := by rw [ha]; rfl
   show Steps U (H.next k r) (if (H.at_ k).pg.B5 = true then H.next k r else if decide ((H.at_ k).state = 1) = true then (H.next k r).named k (Words.PM 32 (Words.RT 32 q)) else (H.next k r).order k q)
   split
   ·exact .refl
   ·split
    ·rename_i c2
     exact Ri _ h0 h1 (by rw [hst]; exact of_decide_eq_true c2) _
    ·rename_i c2
     exact Qn _ h0 h1 (by rw [hst]; exact c') (by rw [hst]; exact fun e => c2 (decide_eq_true e)) (hU q (by rw [e]; exact List.mem_cons_self ..))
end
end AN
end Go.Ing
/- What a seat is behind every act: plain laws. -/
namespace Go.Ing
open Go
namespace Page
theorem OE (ht : Int) : ∀ (l : List Au) (x : Pg), x.ring.length ≤ 700 → 0 ≤ x.shown → x.shown ≤ 200 → (B3 ht l x).1.ring.length ≤ 700 ∧ 0 ≤ (B3 ht l x).1.shown ∧ (B3 ht l x).1.shown ≤ 200
 | [], x, h1, h2, h3 => ⟨h1, h2, h3⟩
 | s :: r, x, h1, h2, h3 => by
  unfold B3
  split
  ·exact ⟨h1, h2, h3⟩
  ·split
   ·refine ⟨LI h1, ?_, ?_⟩ <;> rw [Gl]
    ·exact h2
    ·exact h3
   ·refine OE ht r _ (LI h1) ?_ ?_ <;> rw [Gl]
    ·show 0 ≤ min (x.shown + 1) 200; omega
    ·show min (x.shown + 1) 200 ≤ 200; omega
end Page
namespace BA
structure Ok (s : BA) : Prop where
 st : 0 ≤ s.state ∧ s.state ≤ 2
 n : s.wait.length ≤ 60
 ring : s.pg.ring.length ≤ 700
 s0 : 0 ≤ s.pg.shown
 s1 : s.pg.shown ≤ 200
 ln : Bc.Ok ⟨s.now, s.Cd, s.ret, s.queue, 0⟩
theorem ZA (s : BA) : s.NK = true ↔ s.wait.length ≤ 60 ∧ s.pg.ring.length ≤ 700 ∧ 0 ≤ s.pg.shown ∧ s.pg.shown ≤ 200 := by
 simp only [NK, Bool.and_eq_true, decide_eq_true_eq]; omega
theorem Y0 (s : BA) : s.KP = true ↔ Bc.Ok ⟨s.now, s.Cd, s.ret, s.queue, 0⟩ :=
 Bc.Gz (l := ⟨s.now, s.Cd, s.ret, ⟨none, s.queue.length, 0⟩⟩) (qs := s.queue) rfl
variable {s : BA}
theorem Ok.NK (h : s.Ok) : s.NK = true := (ZA s).2 ⟨h.n, h.ring, h.s0, h.s1⟩
theorem Ok.KP (h : s.Ok) : s.KP = true := (Y0 s).2 h.ln
theorem He : (default : BA).Ok := ⟨⟨Int.le_refl 0, by decide⟩, Nat.zero_le _, Nat.zero_le _, Int.le_refl 0, by decide, (⟨Bc.L3, (fun s hs => by cases hs), Nat.zero_le _, (fun h => by cases h)⟩ : Bc.Ok ⟨[], false, false, [], 0⟩)⟩
theorem Ok.line (h : s.Ok) (u : Au) : (s.line u).Ok := by
 unfold BA.line
 split
 ·exact h
 ·split
  ·exact h
  ·split
   ·exact ⟨h.st, h.n, h.ring, h.s0, h.s1, h.ln⟩
   ·rename_i c
    refine ⟨h.st, ?_, h.ring, h.s0, h.s1, h.ln⟩
    have hn := h.n
    have c' : ¬ (60 : Int) ≤ s.wait.length := fun e => c (decide_eq_true e)
    show (s.wait ++ [u]).length ≤ 60
    rw [List.length_append, List.length_singleton]; omega
theorem Ok.tell (h : s.Ok) (u : Au) : (s.tell u).Ok := by
 have := h.line u
 unfold BA.tell BA.note
 split
 ·exact ⟨this.st, this.n, this.ring, this.s0, this.s1, this.ln⟩
 ·exact this
theorem Ok.B3 (h : s.Ok) : s.B3.Ok := by
 unfold BA.B3
 split
 ·exact h
 ·have hk := Page.OE s.EI.CZ s.wait s.pg h.ring h.s0 h.s1
  exact ⟨h.st, Nat.le_trans (Page.Xk _ _ _) h.n, hk.1, hk.2.1, hk.2.2, h.ln⟩
theorem Ok.send (h : s.Ok) (u : Au) : (s.send u).Ok := by
 unfold BA.send
 split
 ·exact h
 ·split
  ·exact h
  ·exact ⟨h.st, h.n, Page.LI h.ring, by show 0 ≤ (Page.put s.pg u).shown; rw [Page.Gl]; exact h.s0, by show (Page.put s.pg u).shown ≤ 200; rw [Page.Gl]; exact h.s1, h.ln⟩
theorem Ok.EI (h : s.Ok) (t : AO) : ({ s with EI := t } : BA).Ok := ⟨h.st, h.n, h.ring, h.s0, h.s1, h.ln⟩
theorem Ok.offer (h : s.Ok) (opt : Int) : (s.offer opt).Ok := by
 unfold BA.offer
 split
 ·exact (h.EI _).send _
 ·exact (h.EI _).send _
theorem Ok.LV (h : s.Ok) (n : Int) : (s.LV n).Ok := ⟨h.st, h.n, by show (s.pg.ring.drop _).length ≤ 700; rw [List.length_drop]; have := h.ring; omega, h.s0, h.s1, h.ln⟩
theorem Ok.next (h : s.Ok) {q : Au} {r : List Au} (e : s.queue = q :: r) : ({ s with queue := r } : BA).FM.Ok :=
 ⟨h.st, h.n, h.ring, Int.le_refl 0, show (0 : Int) ≤ 200 by decide, ⟨h.ln.now, fun x hx => h.ln.queue x (by show x ∈ s.queue; rw [e]; exact List.mem_cons_of_mem _ hx), by
  have := h.ln.len
  have h2 : s.queue.length ≤ 6 := this
  rw [e, List.length_cons] at h2
  show r.length ≤ 6; omega, h.ln.ret⟩⟩
theorem Ok.typed (h : s.Ok) (u : Au) : (DV s u).1.Ok := by
 have h1 : (s.bytes u).1.Ok := (h.EI _).send _
 unfold DV BA.typed
 split
 ·exact h1
 ·have ho := Bc.TY (s.bytes u).2 h1.ln
  exact ⟨h1.st, h1.n, h1.ring, h1.s0, h1.s1, ⟨ho.now, ho.queue, ho.len, ho.ret⟩⟩
theorem Ok.Xj (h : s.Ok) (b : Int) : ({ s with state := 2, A7 := b } : BA).Ok := ⟨⟨show (0 : Int) ≤ 2 by decide, show (2 : Int) ≤ 2 by decide⟩, h.n, h.ring, h.s0, h.s1, h.ln⟩
theorem Ok.Cl (h : s.Ok) (e : Event) : (s.Cl e).Ok := by
 unfold BA.Cl; split
 ·exact h.tell _
 ·exact h
theorem Ss : ∀ (es : List Event) {s : BA}, s.Ok → (es.foldl BA.Cl s).Ok
 | [], _, h => h
 | e :: r, _, h => Ss r (h.Cl e)
theorem Ok.JA (h : s.Ok) (es : List Event) : (s.JA es).Ok := by
 unfold BA.JA
 split
 ·exact Ss es h
 ·exact h
theorem Ok.heard (h : s.Ok) : ({ s with told := [] } : BA).Ok := ⟨h.st, h.n, h.ring, h.s0, h.s1, h.ln⟩
theorem RB (s : BA) (c : (decide (s.EI.CZ < 0) || decide (200 < s.EI.CZ)) = true) : s.B3 = s := by
 unfold BA.B3
 rw [if_pos]
 rw [Bool.or_assoc, c, Bool.or_true]
end BA
namespace AN
def Iv (H : AN) : Prop := ∀ k, 0 ≤ k → k < 4 → (H.at_ k).Ok
section
variable {U : Au → Prop} {H X : AN}
theorem Iv.set (h : H.Iv) {k : Int} (h0 : 0 ≤ k) (h1 : k < 4) {s : BA} (hs : s.Ok) : (H.set k s).Iv := fun j j0 j1 => by
 rw [IW _ h0 h1 j0]; split
 ·exact hs
 ·exact h j j0 j1
theorem Iv.step (h : H.Iv) (s : Step U H X) : X.Iv := by
 cases s with
 | told h0 h1 _ _ => exact h.set h0 h1 ((h _ h0 h1).tell _)
 | B3 h0 h1 _ => exact h.set h0 h1 (h _ h0 h1).B3
 | free h0 h1 _ => exact h.set h0 h1 BA.He
 | goes h0 h1 g =>
  intro j j0 j1
  rw [TB H h0 h1 _ _ _ j0 j1]
  refine BA.Ok.JA ?_ _
  split
  ·cases g with
   | left _ _ => exact BA.He
   | Xj _ _ => exact (h _ h0 h1).Xj _
   | cW _ _ _ _ => exact h _ h0 h1
   | round => exact h _ (Int.le_refl 0) (by decide)
  ·exact h j j0 j1
theorem Iv.steps (h : H.Iv) (s : Steps U H X) : X.Iv := Steps.Jw (P := Iv) (fun h s => h.step s) h s
/-! #### nobody is cut off behind all that flows -/
end
end AN
end Go.Ing
/- Acts that are played: plain laws. -/
namespace Go.Ing
open Go
namespace AO
def GN (t : AO) : Nat := if t.at_ = 2 then 2 else if t.at_ = 1 then 1 else 0
theorem Ug (t : AO) (b : UInt8) : (t.step b).2.2.length + (t.step b).1.GN ≤ 1 + t.GN := by
 unfold step; dsimp only
 split
 ·rename_i c; have c' := of_decide_eq_true c
  have hp : t.GN = 0 := by unfold GN; rw [if_neg (by omega), if_neg (by omega)]
  split
  ·exact Nat.le_add_right 1 _
  ·show 0 + t.GN ≤ 1 + t.GN; omega
 ·split
  ·rename_i c; have c' := of_decide_eq_true c
   have hp : t.GN = 1 := by unfold GN; rw [if_neg (by omega), if_pos c']
   rw [hp]
   split
   ·exact Nat.zero_le _
   ·split
    ·exact Nat.zero_le _
    ·split
     ·exact Nat.le_refl 2
     ·exact Nat.zero_le _
  ·split
   ·rename_i c; have c' := of_decide_eq_true c
    have hp : t.GN = 2 := by unfold GN; rw [if_pos c']
    rw [hp]
    exact Hk _ _ _
   ·split
    ·rename_i c; have c' := of_decide_eq_true c
     split
     ·exact Nat.zero_le _
     ·show 0 + (t.collect b).GN ≤ _
      have : (t.collect b).at_ = t.at_ := by unfold collect; split <;> rfl
      unfold GN; rw [this]; rw [if_neg (by omega), if_neg (by omega)]; omega
    ·split
     ·rename_i c; have c' := of_decide_eq_true c
      split
      ·show 0 + (collect { t with at_ := 3 } b).GN ≤ _
       have : (collect { t with at_ := 3 } b).at_ = 3 := by unfold collect; split <;> rfl
       unfold GN; rw [this]; rw [if_neg (by decide), if_neg (by decide)]; omega
      ·split
       ·show 0 + GN { t.measure with at_ := 0, sub := [] } ≤ _; exact Nat.zero_le _
       ·exact Nat.zero_le _
     ·show 0 + t.GN ≤ _; omega
theorem Lx : ∀ (s : Au) (t : AO), (t.feed s).2.2.length ≤ s.length + t.GN
 | [], t => Nat.zero_le _
 | b :: s, t => by
  have h1 := Ug t b
  have h2 := Lx s (t.step b).1
  show ((t.step b).2.2 ++ ((t.step b).1.feed s).2.2).length ≤ s.length + 1 + t.GN
  rw [List.length_append]; omega
theorem TU (t : AO) : t.GN ≤ 2 := by unfold GN; split; exact Nat.le_refl 2; split <;> decide
theorem I5.yb {X t : AO} {u x y : Au} {k : Int} (h : I5 X u k t x y) : y.length ≤ u.length + 2 := by
 have h1 := Lx u X
 have h2 := TU X
 rw [h.e3, List.length_append] at h1
 omega
theorem Tq (t : AO) (u : Au) : (t.DQ u).2.2.1.length ≤ u.length + 2 := by
 unfold DQ
 split
 ·exact Nat.zero_le _
 ·have h1 := Lx u t
  have h2 := TU t
  show (t.feed u).2.2.length ≤ _
  omega
end AO
namespace AN
section
variable {H : AN}
theorem Iv.tell (h : H.Iv) {k : Int} (h0 : 0 ≤ k) (h1 : k < 4) (u : Au) : (H.tell k u).Iv := h.set h0 h1 ((h k h0 h1).tell u)
theorem Iv.B3 (h : H.Iv) : H.B3.Iv := h.steps (U := fun _ => True) (Sh H)
theorem Iv.EJ (h : H.Iv) {k : Int} (h0 : 0 ≤ k) (h1 : k < 4) : (H.EJ k).Iv := by
 rcases R7 (U := fun _ => True) H h0 h1 (fun _ _ => trivial) with ⟨_, e⟩ | ⟨q, r, _, e, s⟩
 ·rw [e]; exact h
 ·exact Iv.steps (h.set h0 h1 ((h k h0 h1).next e)) s
theorem Iv.turns (h : H.Iv) : ∀ k : Nat, k ≤ 4 → (H.turns k).Iv
 | 0, _ => h
 | k + 1, hk => (Iv.turns h k (by omega)).EJ (by omega) (by omega)
theorem Iv.begun (h : H.Iv) : H.begun.Iv := fun k h0 h1 => by rw [RD h0 h1]; exact (h k h0 h1).heard
theorem Iv.El (h : H.Iv) (a : B4) : (H.El a).1.Iv :=
 KT (fun X => X.Iv) h (fun d => ((h.turns 4 (Nat.le_refl 4)).steps (U := fun _ => True) (QZ _ d)).B3)
  (fun k h0 h1 => ((h.set h0 h1 (((show ({ (default : BA) with state := 1, A7 := -1 } : BA).Ok from ⟨⟨show (0 : Int) ≤ 1 by decide, show (1 : Int) ≤ 2 by decide⟩, BA.He.n, BA.He.ring, BA.He.s0, BA.He.s1, BA.He.ln⟩).offer 3).offer 31)).tell h0 h1 Hf).B3)
  (fun k u h0 h1 => by
   rw [LL]
   refine Iv.B3 ?_
   have hs := h.set h0 h1 ((h k h0 h1).typed u)
   split
   ·exact hs.tell h0 h1 Qm
   ·exact hs)
  (fun k z h0 h1 => (h.set h0 h1 ((h k h0 h1).LV z)).B3) (fun k h0 h1 => (h.steps (U := fun _ => True) (JC H h0 h1)).B3) a
theorem Iv.act (h : H.Iv) (a : B4) : (H.act a).1.Iv := by
 unfold AN.act
 split
 ·exact h
 ·exact h.begun.El a
end
structure Live (H : AN) : Prop where
 fit : H.Fit 1000 1000
 Cx : 0 ≤ H.Cx
 bO : H.Iv
theorem Live.fits {H : AN} (h : H.Live) : H.Fits := ⟨_, _, h.fit⟩
theorem XL : AN.new.Iv := fun k h0 h1 => by rw [Vz h0 h1]; exact BA.He
theorem Nt : AN.new.Live := ⟨W0.mono (by decide) (by decide), Int.le_refl 0, XL⟩
section
variable {H X : AN}
theorem Nj (e : Event) (H : AN) : ∀ k : Nat, (Cl e H k).Cx = H.Cx
 | 0 => rfl
 | k + 1 => by
  have ih := Nj e H k
  rw [Cl.eq_2]
  split
  ·exact ih
  ·split <;> exact ih
theorem NW : ∀ (es : List Event) (H : AN), (H.Is es).Cx = H.Cx
 | [], _ => rfl
 | e :: r, H => (NW r _).trans (Nj e H 4)
theorem Jl (H : AN) (es : List Event) : (H.HI es).Cx = H.Cx := NW es _
theorem KD (H : AN) (k : Int) : (H.leave k).Cx = H.Cx := by
 unfold AN.leave
 split
 ·exact Jl _ _
 ·rfl
theorem J7 (H : AN) : ∀ k : Nat, (H.DY k).1.Cx = H.Cx
 | 0 => rfl
 | k + 1 => by
  have ih := J7 H k
  unfold DY
  split
  ·exact ih
  ·split
   ·exact (KD _ _).trans ih
   ·exact ih
theorem NS : ∀ (n : Nat) (H : AN), (H.Ip n).Cx = H.Cx
 | 0, _ => rfl
 | n + 1, H => by
  unfold Ip
  split
  ·exact J7 H 4
  ·exact (NS n _).trans (J7 H 4)
theorem H0 (H : AN) : H.B3.Cx = H.Cx := NS 5 H
theorem Rt (H : AN) (k : Int) : (H.EJ k).Cx = H.Cx := by
 unfold AN.EJ
 split
 ·rfl
 ·split
  ·rfl
  ·dsimp only
   split
   ·rfl
   ·split
    ·unfold AN.named
     split
     ·exact Jl _ _
     ·split <;> rfl
    ·unfold AN.order
     split
     ·rfl
     ·split
      ·exact KD _ _
      ·exact Jl _ _
theorem NR (H : AN) : ∀ k : Nat, (H.turns k).Cx = H.Cx
 | 0 => rfl
 | k + 1 => (Rt _ _).trans (NR H k)
theorem Td (X : AN) (a : B4) : (X.El a).1.Cx = X.Cx :=
 KT (fun Y => Y.Cx = X.Cx) rfl (fun d => (H0 _).trans ((Jl _ _).trans (NR X 4))) (fun k _ _ => H0 _) (fun k u _ _ => by rw [LL, H0]; split <;> rfl) (fun k z _ _ => H0 _) (fun k _ _ => (H0 _).trans (KD _ _)) a
theorem SF (H : AN) : H.begun.Cx = H.Cx + 1 := (IN (H := { H with Cx := H.Cx + 1, last := [] }) 4).2.2
theorem WV (H : AN) (a : B4) : (H.act a).1.Cx = if 400 ≤ H.Cx then H.Cx else H.Cx + 1 := by
 unfold AN.act
 by_cases c : 400 ≤ H.Cx
 ·rw [if_pos (decide_eq_true c), if_pos c]
 ·rw [if_neg (fun e => c (of_decide_eq_true e)), if_neg c]
  exact (Td _ _).trans (SF H)
theorem Live.act (h : H.Live) (a : B4) : (H.act a).1.Live := ⟨by
 unfold AN.act
 split
 ·exact h.fit
 ·exact (h.fit.begun).El a, by rw [WV]; have := h.Cx; split <;> omega, h.bO.act a⟩
theorem Live.run : ∀ (l : List B4) {H : AN}, H.Live → (H.run l).1.Live
 | [], _, h => h
 | a :: r, _, h => Live.run r (h.act a)
end
theorem RM {xs : List B4} {k : Int} (h0 : 0 ≤ k) (h1 : k < xs.length) (H : AN) : (H.run (xs.take (k + 1).toNat)).1 = ((H.run (xs.take k.toNat)).1.act (xs.getD k.toNat default)).1 := by rw [Wh h0 h1]
/-! #### does a house answer at all? -/
def Ox : B4 := ⟨1, 2, 0, []⟩
def type2 : B4 := ⟨2, 2, 0, [97, 110, 110, 13, 10]⟩
def Ry : B4 := ⟨5, 0, 0, []⟩
theorem cU : AN.new.Live := Nt
theorem cV : (AN.new.act Ox).1.Live := cU.act _
theorem cY : ((AN.new.act Ox).1.act type2).1.Live := cV.act _
def ai : AN := (((AN.new.act Ox).1.act type2).1.act Ry).1
theorem WO : ai.Live := cY.act _
theorem bb : (AN.new.act Ox).2.code = 0 := by kernel_rfl
theorem bG : (((AN.new.act Ox).1.act type2).1.act Ry).2.code = 0 := by kernel_rfl
theorem bx : ai.HZ 2 = (2, 2) := by kernel_rfl
theorem cR : decide (2 < ((ai.at_ 2).told.length : Int)) = true := by kernel_rfl
theorem Live.told {V : AH} {ls : Vector BG 4} {ev : List Event} (h : (A2 V ls ev).Live) {k : Int} (h0 : 0 ≤ k) (h1 : k < 4) : (ls.at k).told.length ≤ 1000000 := by
 have := h.fit.told k h0 h1
 rw [CY _ _ _ h0 h1] at this
 exact Nat.le_trans this (by decide)
theorem Live.wait {V : AH} {ls : Vector BG 4} {ev : List Event} (h : (A2 V ls ev).Live) {k : Int} (h0 : 0 ≤ k) (h1 : k < 4) : (ls.at k).wait.length ≤ 1000000 := by
 have := (h.bO k h0 h1).n
 rw [CY _ _ _ h0 h1] at this
 exact Nat.le_trans this (by decide)
theorem Live.queue {V : AH} {ls : Vector BG 4} {ev : List Event} (h : (A2 V ls ev).Live) {k : Int} (h0 : 0 ≤ k) (h1 : k < 4) : (ls.at k).queue.length ≤ 1000000 := by
 have := (h.bO k h0 h1).ln.len
 rw [CY _ _ _ h0 h1] at this
 exact Nat.le_trans this (by decide)
theorem Live.last {V : AH} {ls : Vector BG 4} {ev : List Event} (h : (A2 V ls ev).Live) : ev.length ≤ 1000000 := Nat.le_trans h.fit.last (by decide)
/-! #### do two houses stand alike? -/
def V8 (s t : BA) : Bool := decide (s.wait = t.wait) && decide (s.pg.shown = t.pg.shown) && (s.pg.B5 == t.pg.B5) && decide (s.pg.ring = t.pg.ring) && (s.pg.cut == t.pg.cut)
def VD (s t : BA) : Bool := decide (s.now = t.now) && (s.Cd == t.Cd) && (s.ret == t.ret) && decide (s.queue = t.queue)
def sameAt (H K : AN) (k : Int) : Bool := !(!decide ((H.HZ k).1 = (K.HZ k).1) || !decide ((H.HZ k).2 = (K.HZ k).2) || !V8 (H.at_ k) (K.at_ k) || !VD (H.at_ k) (K.at_ k))
def same (H K : AN) : Bool := CA 4 (sameAt H K) 4 && decide (H.w = K.w)
theorem XF {H K : AN} (hw : H.w = K.w) (hs : ∀ k, 0 ≤ k → k < 4 → { H.at_ k with told := [] } = { K.at_ k with told := [] }) : same H K = true := by
 unfold same
 rw [Bool.and_eq_true]
 refine ⟨(DL 4).2 fun k h0 h1 => ?_, decide_eq_true hw⟩
 have h := hs k (by omega) h1
 have e1 : (H.at_ k).state = (K.at_ k).state := by have q := congrArg BA.state h; exact q
 have e2 : (H.at_ k).A7 = (K.at_ k).A7 := by have q := congrArg BA.A7 h; exact q
 have e3 : (H.at_ k).wait = (K.at_ k).wait := by have q := congrArg BA.wait h; exact q
 have e4 : (H.at_ k).pg = (K.at_ k).pg := by have q := congrArg BA.pg h; exact q
 have e5 : (H.at_ k).now = (K.at_ k).now := by have q := congrArg BA.now h; exact q
 have e6 : (H.at_ k).Cd = (K.at_ k).Cd := by have q := congrArg BA.Cd h; exact q
 have e7 : (H.at_ k).ret = (K.at_ k).ret := by have q := congrArg BA.ret h; exact q
 have e8 : (H.at_ k).queue = (K.at_ k).queue := by have q := congrArg BA.queue h; exact q
 simp [sameAt, HZ, V8, VD, e1, e2, e3, e4, e5, e6, e7, e8]
end AN
theorem Jj {V W : AH} {ls ms : Vector BG 4} {ev fv : List Event} {k : Int} (h0 : 0 ≤ k) (h1 : k < 4) : AN.sameAt (A2 V ls ev) (A2 W ms fv) k =
  !(!decide ((Ei (V.Ap.at k)).1 = (Ei (W.Ap.at k)).1) || !decide ((Ei (V.Ap.at k)).2 = (Ei (W.Ap.at k)).2) || !(decide ((ls.at k).wait = (ms.at k).wait) && decide ((V.Ap.at k).out.shown = (W.Ap.at k).out.shown) && ((V.Ap.at k).out.B5 == (W.Ap.at k).out.B5) && decide ((V.Ap.at k).out.ring = (W.Ap.at k).out.ring) && ((V.Ap.at k).out.cut == (W.Ap.at k).out.cut)) || !(decide ((V.Ap.at k).Dy.now = (W.Ap.at k).Dy.now) && ((V.Ap.at k).Dy.Cd == (W.Ap.at k).Dy.Cd) && ((V.Ap.at k).Dy.ret == (W.Ap.at k).Dy.ret) && decide ((ls.at k).queue = (ms.at k).queue))) := by
 unfold AN.sameAt
 rw [← Ii V ls ev h0 h1, ← Ii W ms fv h0 h1, CY V ls ev h0 h1, CY W ms fv h0 h1]
 rfl
end Go.Ing
/- An act that is refused, and acts behind the last: plain laws. -/
namespace Go.Ing
open Go
theorem W4 {α : Type} (a b c : α) : [a, b, c].Perm [c, b, a] := List.reverse_perm [c, b, a]
namespace AN
theorem Ur (H : AN) : same H H = true := XF rfl fun _ _ _ => rfl
def zero : B4 := ⟨0, 0, 0, []⟩
end AN
end Go.Ing
