/- What the functions that the law of this seat reaches compute, and the plain laws of it. No condition. -/
import Derived.Test.YtoidpggbbfncpaaGreatDoorTopEndsEc3
import Derived.Test.YtoidpggbbfncpaaGreatDoorTopEndsRa1
import Derived.Test.YtoidpggbbfncpaaGreatDoorTopEndsRb1
set_option linter.unusedSimpArgs false
set_option linter.unusedVariables false
/- Who is far perceives nothing: plain laws. -/
namespace Go.Ing
open Go
namespace AH
theorem La (w : AH) (e : Event) : ∀ n : Nat, (w.HD e n).kind = e.kind ∧ (w.HD e n).Dn = e.Dn ∧ (w.HD e n).room = e.room ∧ (w.HD e n).other = e.other ∧ (w.HD e n).n = e.n ∧ (w.HD e n).Hh = e.Hh ∧ (w.HD e n).D8 = e.D8 ∧ (w.HD e n).B1 = e.B1 ∧ (w.HD e n).text = e.text
 | 0 => ⟨rfl, rfl, rfl, rfl, rfl, rfl, rfl, rfl, rfl⟩
 | k + 1 => La w e k
end AH
namespace AG
section
variable {b c rc : Int} {S : Int → Prop} {T : AG}
section
variable (c0 : 0 ≤ c) (c6 : c < 6) (hn : c ≠ b)
include c0 c6 hn
end
end
end AG
end Go.Ing
/- What others are told is not empty: plain laws. -/
namespace Go.Ing
open Go
namespace AH
end AH
theorem PJ {α : Type} {d : α} {xs : List α} {i : Nat} (h : i < xs.length) : xs.getD i d ∈ xs := by
 rw [List.getD_eq_getElem?_getD, List.getElem?_eq_getElem h]
 exact List.getElem_mem h
namespace AG
theorem MC : ∀ (l : List Int) (T : AG), (T.Df l).out.length = T.out.length + l.length
 | [], T => rfl
 | i :: r, T => by rw [Df, MC r, FE]; show T.out.length + 1 + r.length = _; rw [List.length_cons]; omega
theorem Mz (v to : Int) : ∀ (l : List Int) (T : AG), (T.Fg v to l).out.length ≤ T.out.length + l.length
 | [], T => Nat.le_refl _
 | i :: r, T => by
  have h1 := Mz v to r (T.DQ v to i)
  have h2 := T.Nt v to i
  rw [Fg, List.length_cons]; omega
theorem Q6 (T : AG) {l : List Int} (hl : l.length ≤ 9) (o : Order) : (T.QG l o).out.length ≤ T.out.length + 10 := by
 have h := (Ek T.w l o.nth o.name o.Bl).length_le
 unfold QG
 rw [MC]
 split
 ·rw [CC]; omega
 ·omega
theorem Xo (T : AG) (o : Order) : (T.get o).out.length ≤ T.out.length + 11 := by
 have hb := T.HP o.second
 unfold get
 split
 ·split
  ·omega
  ·have := Q6 (T.box o.second).1 (AH.Ho (T.box o.second).1.w 2 (T.box o.second).2.1) o
   omega
 ·have := Q6 T T.H0 o
  omega
theorem Tq (T : AG) (o : Order) : (T.G7 o).out.length ≤ T.out.length + 11 := by
 have hb := T.Ox o
 unfold G7
 split
 ·omega
 ·unfold Wd
  have h := (Ek (T.DG o).1.w (T.DG o).1.own o.nth o.name o.Bl).length_le
  have h9 := (T.DG o).1.JX
  refine Nat.le_trans (Mz _ _ _ _) ?_
  split
  ·rw [CC]; omega
  ·omega
theorem Uu (T : AG) (o : Order) : (T.GS o).out.length ≤ T.out.length + 2 := by
 unfold GS
 generalize (if (!decide (o.nth = 1) || o.Bl) = true then [] else o.name) = nm
 have hs := T.GY nm
 split
 ·omega
 ·refine Nat.le_trans (Nat.le_of_eq (CC _ _)) ?_
  split
  ·show (T.BN nm).1.out.length + 1 ≤ _; omega
  ·show (T.BN nm).1.out.length + 1 ≤ _; omega
theorem NS (T : AG) (first : Bool) (i : Int) (v : Bool) (k : Int) : (T.before first i v k).out.length = T.out.length + 1 := by
 unfold before
 split
 ·rw [FE]; rfl
 ·exact FE T k i
theorem Xe (T : AG) (o : Order) : (T.set o).out.length ≤ T.out.length + 1 := by
 unfold set
 split
 ·unfold I1
  split
  ·rw [CC]; exact Nat.le_refl _
  ·split
   ·rw [CC]; exact Nat.le_refl _
   ·refine Nat.le_trans (Nat.le_of_eq (CU _ _)) ?_
    split <;> exact Nat.le_refl _
 ·split
  ·rw [CC]; exact Nat.le_refl _
  ·split
   ·rw [CC]; exact Nat.le_refl _
   ·split
    ·exact Nat.le_of_eq (NS T _ _ _ _)
    ·exact Nat.le_of_eq (NS T _ _ _ _)
theorem Vp (T : AG) (d : Int) : (T.walk d).out.length ≤ T.out.length + 11 := by
 unfold walk
 split
 ·rw [CC]; omega
 ·split
  ·rw [CC]; omega
  ·refine Nat.le_trans (M9 _).2.2 ?_
   rw [CU]
   show (T.out ++ [_]).length + 1 + 9 ≤ _
   simp
theorem XW (T : AG) (o : Order) : (T.act o).out.length ≤ T.out.length + 11 := by
 unfold act
 split
 ·exact T.Vp _
 ·split
  ·exact Nat.le_trans (T.M9).2.2 (by omega)
  ·split
   ·rw [(T.Ie _ _).2.2]; omega
   ·split
    ·rw [CU]; omega
    ·split
     ·rw [(T.VS).2.1, Kk]; omega
     ·split
      ·exact Nat.le_trans (T.Uu o) (by omega)
      ·split
       ·exact T.Xo o
       ·split
        ·exact T.Tq o
        ·exact Nat.le_trans (T.Xe o) (by omega)
end AG
end Go.Ing
/- A round of all fights: plain functions and laws. -/
namespace Go.Ing
open Go
theorem Cm (d : Int) : -2 ≤ d.tmod 3 ∧ d.tmod 3 ≤ 2 := by
 have h1 := Int.tmod_lt_of_pos d (show (0 : Int) < 3 by decide)
 have h2 := Int.tmod_lt_of_pos (-d) (show (0 : Int) < 3 by decide)
 rw [Int.neg_tmod] at h2
 omega
namespace AG
def FW (w : AH) (b : Int) : AG := ⟨w.Cz b { w.AW.at b with BM := 1 }, b, []⟩
def GA (w : AH) (b : Int) : AG := ((FW w b).kind 15).GC
def Iq (w : AH) (b : Int) : AG := (GA w b).DF b { (GA w b).w.AW.at b with room := 0, BM := 10 }
def IQ (w : AH) (b : Int) : AG := if decide (b < 2) = true then (GA w b).DF b default else ((Iq w b).kind 17).look
def Kq (draw b : Int) : Int := 1 + (draw.tmod 3 + 3 + b).tmod 3
def CJ (w : AH) (b B5 n : Int) : AG := (AG.Bk ⟨w, b, []⟩ { GI 14 with other := B5, n := n }).DF B5 { w.AW.at B5 with BM := max 0 ((w.AW.at B5).BM - n) }
def Es (draw b : Int) (s : AH × List Event) : AH × List Event :=
 if (!(s.1.AW.at b).here || decide ((s.1.AW.at b).B5 = 0)) = true then s
 else if (!(s.1.AW.at ((s.1.AW.at b).B5 - 1)).here || !decide ((s.1.AW.at ((s.1.AW.at b).B5 - 1)).room = (s.1.AW.at b).room)) = true then (s.1.Cz b { s.1.AW.at b with B5 := 0 }, s.2)
 else if decide (((CJ s.1 b ((s.1.AW.at b).B5 - 1) (Kq draw b)).w.AW.at ((s.1.AW.at b).B5 - 1)).BM = 0) = true then ((IQ (CJ s.1 b ((s.1.AW.at b).B5 - 1) (Kq draw b)).w ((s.1.AW.at b).B5 - 1)).w, (s.2 ++ (CJ s.1 b ((s.1.AW.at b).B5 - 1) (Kq draw b)).out) ++ (IQ (CJ s.1 b ((s.1.AW.at b).B5 - 1) (Kq draw b)).w ((s.1.AW.at b).B5 - 1)).out)
 else ((CJ s.1 b ((s.1.AW.at b).B5 - 1) (Kq draw b)).w, s.2 ++ (CJ s.1 b ((s.1.AW.at b).B5 - 1) (Kq draw b)).out)
def EG (X : AH) (draw : Int) : Nat → AH × List Event
 | 0 => (X, [])
 | k + 1 => Es draw k (EG X draw k)
def Ch (X : AH) (draw : Int) : AH × List Event × Int := if (!X.Bs) = true then (X, [], 2) else ((EG X draw 6).1, (EG X draw 6).2, 0)
theorem HW {X : AH} {draw k : Int} (h : 0 ≤ k) : EG X draw (k + 1).toNat = Es draw k (EG X draw k.toNat) := by
 obtain ⟨m, rfl⟩ := Int.eq_ofNat_of_zero_le h
 rfl
theorem Mk {draw b : Int} (h : 0 ≤ b) : 1 ≤ Kq draw b ∧ Kq draw b ≤ 3 := by
 unfold Kq
 have := Cm draw
 have h2 : 0 ≤ draw.tmod 3 + 3 + b := by omega
 have h3 := Int.tmod_nonneg (a := draw.tmod 3 + 3 + b) 3 h2
 have h4 := Int.tmod_lt_of_pos (draw.tmod 3 + 3 + b) (show (0 : Int) < 3 by decide)
 omega
structure XL (x : Al) : Prop where
 room : 0 ≤ x.room ∧ x.room < 6
 BM : 0 ≤ x.BM ∧ x.BM ≤ 10
 B5 : 0 ≤ x.B5 ∧ x.B5 ≤ 6
 off : x.here = false → x.B5 = 0
 alive : x.here = decide (0 < x.BM)
theorem aM {x : Al} (h : AH.DS x = false) : XL x := by
 simp only [AH.DS, Bool.or_eq_false_iff, decide_eq_false_iff_not, Bool.and_eq_false_iff, Bool.not_eq_false', bne_eq_false_iff_eq] at h
 obtain ⟨⟨⟨⟨⟨⟨⟨q1, q2⟩, q3⟩, q4⟩, q5⟩, q6⟩, q7⟩, q8⟩ := h
 refine ⟨by omega, by omega, by omega, fun e => ?_, q8⟩
 rcases q7 with q | q
 ·rw [e] at q; cases q
 ·exact of_decide_eq_true q
theorem ab {x : Al} (h : XL x) : AH.DS x = false := by
 have h1 := h.room; have h2 := h.BM; have h3 := h.B5
 simp only [AH.DS, Bool.or_eq_false_iff, decide_eq_false_iff_not, Bool.and_eq_false_iff, Bool.not_eq_false', bne_eq_false_iff_eq]
 refine ⟨⟨⟨⟨⟨⟨⟨by omega, by omega⟩, by omega⟩, by omega⟩, by omega⟩, by omega⟩, ?_⟩, h.alive⟩
 cases hh : x.here with
 | true => exact .inl rfl
 | false => exact .inr (decide_eq_true (h.off hh))
theorem HU {X : AH} (h : X.Bs = true) {b : Int} (h0 : 0 ≤ b) (h6 : b < 6) : XL (X.AW.at b) := aM (AH.Fm h h0 h6)
theorem I6 {X : AH} (h : X.Bs = true) {b : Int} (h0 : 0 ≤ b) (h6 : b < 6) {x : Al} (hx : XL x) (hh : (X.AW.at b).here = true → x.here = true) : (X.Cz b x).Bs = true :=
 AH.JT h h0 h6 (ab hx) fun i i0 i9 e1 e2 => by
  rcases (AH.L1 h i0 i9).Cq with ⟨a, _⟩ | ⟨_, _, a⟩ | ⟨a, _⟩
  ·omega
  ·rw [e2] at a; exact hh a
  ·omega
theorem Tk (X : AH) (b : Int) (x y : Al) : (X.Cz b x).Cz b y = X.Cz b y := by
 unfold AH.Cz
 show ({ X with AW := (X.AW.put b x).put b y } : AH) = _
 rw [Vector.ER]
section
variable {w : AH} {b B5 n : Int} (hg : w.Bs = true) (hw : w.Dz) (f0 : 0 ≤ B5) (f6 : B5 < 6) (hh : (w.AW.at B5).here = true)
include hg hw f0 f6 hh
theorem J6 : (FW (CJ w b B5 n).w B5).Fit := by
 have e : (CJ w b B5 n).w.Cz B5 { (CJ w b B5 n).w.AW.at B5 with BM := 1 } = w.Cz B5 { w.AW.at B5 with BM := 1 } := by
  show (w.Cz B5 _).Cz B5 { (w.Cz B5 _).AW.at B5 with BM := 1 } = _
  rw [Tk, AH.Eb f0 f6]
 have k := HU hg f0 f6
 refine ⟨⟨f0, f6⟩, ?_, ?_, ?_⟩
 ·show ((CJ w b B5 n).w.Cz B5 _).Dz
  rw [e]; exact EV hw (hw.be B5)
 ·show ((CJ w b B5 n).w.Cz B5 _).Bs = true
  rw [e]
  exact I6 hg f0 f6 ⟨k.room, ⟨show (0 : Int) ≤ 1 by decide, show (1 : Int) ≤ 10 by decide⟩, k.B5, k.off, by rw [show ({ w.AW.at B5 with BM := 1 } : Al).here = true from hh]; rfl⟩ fun _ => hh
 ·show (((CJ w b B5 n).w.Cz B5 _).AW.at B5).here = true
  rw [e, AH.Eb f0 f6]; exact hh
theorem RX (hn : 0 < (w.AW.at B5).BM - n) (h1 : 0 ≤ n) : (CJ w b B5 n).w.Bs = true ∧ (CJ w b B5 n).w.Dz := by
 have k := HU hg f0 f6
 have hk := k.BM
 refine ⟨I6 hg f0 f6 ⟨k.room, ⟨?_, ?_⟩, k.B5, k.off, ?_⟩ fun _ => hh, EV hw (hw.be B5)⟩
 ·show 0 ≤ max 0 ((w.AW.at B5).BM - n); omega
 ·show max 0 ((w.AW.at B5).BM - n) ≤ 10; omega
 ·show (w.AW.at B5).here = decide (0 < max 0 ((w.AW.at B5).BM - n))
  rw [hh, decide_eq_true (by omega)]
end
theorem Lb (w : AH) (b : Int) : (GA w b).b = b ∧ (GA w b).out = ((FW w b).kind 15).out := Ru ((FW w b).kind 15)
theorem Sd (w : AH) (b : Int) : (Iq w b).b = b ∧ (Iq w b).out = ((FW w b).kind 15).out ∧ (Iq w b).w = (GA w b).w.Cz b { (GA w b).w.AW.at b with room := 0, BM := 10 } := by
 have h := Lb w b
 unfold Iq
 rw [(DR _ _ _).1, (DR _ _ _).2.1, (DR _ _ _).2.2]
 exact ⟨h.1, h.2, rfl⟩
theorem XU (D : AH) {b : Int} (hb : 0 ≤ b ∧ b < 6) : ({ D with AW := (D.AW.put b { D.AW.at b with room := 0 }).put b { (D.AW.put b { D.AW.at b with room := 0 }).at b with BM := 10 } } : AH) = D.Cz b { D.AW.at b with room := 0, BM := 10 } := by
 rw [Vector.CM hb.1 hb.2, Vector.ER]; rfl
theorem TG {X F : AH} {b : Int} (h : F = ((FW X b).kind 15).GC.w) (x : Al) : (GA X b).DF b x = ⟨F.Cz b x, b, ((FW X b).kind 15).out⟩ := by
 subst h
 have e := Lb X b
 have h1 := DR (GA X b) b x
 cases hT : (GA X b).DF b x with
 | mk w' b' o' =>
  rw [hT] at h1
  obtain ⟨q1, q2, q3⟩ := h1
  simp only at q1 q2 q3
  rw [q1, q2, q3, e.1, e.2]
  rfl
theorem W6 {X F : AH} {b : Int} (h : F = ((FW X b).kind 15).GC.w) : Iq X b = ⟨F.Cz b { F.AW.at b with room := 0, BM := 10 }, b, ((FW X b).kind 15).out⟩ := by
 have h' : (GA X b).w = F := h.symm
 unfold Iq
 rw [h', TG h]
theorem QR {w : AH} {b : Int} (h : (FW w b).Fit) : GX (FW w b) (GA w b) ∧ ∀ j, 0 ≤ j → j < 9 → ¬ (((GA w b).w.AX.at j).Cq = 1 ∧ ((GA w b).w.AX.at j).at_ = b) := by
 have g1 : GX (FW w b) ((FW w b).kind 15) := h.goes.PW rfl rfl
 obtain ⟨g2, k⟩ := Uj g1.fit
 exact ⟨g1.trans g2, k⟩
theorem RJ {w : AH} {b : Int} (h : (FW w b).Fit) : (Iq w b).Fit := by
 have g := (QR h).1.fit
 have hb : 0 ≤ b ∧ b < 6 := h.b
 have e := Sd w b
 have eb := (Lb w b).1
 have gb := g.b
 have gh := g.here
 rw [eb] at gb gh
 have k := HU g.gd hb.1 hb.2
 have gbr := g.br
 have ggd := g.gd
 obtain ⟨e1, _, e3⟩ := e
 generalize hD : (GA w b).w = D at *
 have hx : (D.Cz b { D.AW.at b with room := 0, BM := 10 }).Bs = true := I6 ggd hb.1 hb.2 ⟨⟨Int.le_refl _, show (0 : Int) < 6 by decide⟩, ⟨show (0 : Int) ≤ 10 by decide, show (10 : Int) ≤ 10 by decide⟩, k.B5, k.off, gh⟩ fun _ => gh
 have hy : (D.Cz b { D.AW.at b with room := 0, BM := 10 }).Dz := EV gbr (gbr.be b)
 have hz : ((D.Cz b { D.AW.at b with room := 0, BM := 10 }).AW.at b).here = true := by rw [AH.Eb hb.1 hb.2]; exact gh
 exact ⟨by rw [e1]; exact hb, by rw [e3]; exact hy, by rw [e3]; exact hx, by rw [e1, e3]; exact hz⟩
theorem Od {w : AH} {b : Int} (h : (FW w b).Fit) : (IQ w b).w.Bs = true ∧ (IQ w b).w.Dz ∧ (IQ w b).out.length ≤ 12 := by
 have hb : 0 ≤ b ∧ b < 6 := h.b
 obtain ⟨g, hk⟩ := QR h
 unfold IQ
 split
 ·rw [(DR _ _ _).2.1, (DR _ _ _).2.2]
  refine ⟨AH.JT (X := (GA w b).w) g.fit.gd hb.1 hb.2 (by decide) fun i i0 i9 e1 e2 => absurd ⟨e1, e2⟩ (hk i i0 i9), EV (X := (GA w b).w) g.fit.br (by decide), ?_⟩
  rw [(Lb w b).2, Kk]
  exact (by decide : (0 : Nat) + 1 ≤ 12)
 ·have f := RJ h
  have hl := M9 ((Iq w b).kind 17)
  refine ⟨by rw [hl.1]; exact f.gd, by rw [hl.1]; exact f.br, ?_⟩
  have h2 := hl.2.2
  rw [Kk, (Sd w b).2.1, Kk] at h2
  exact Nat.le_trans h2 (by decide : (0 : Nat) + 1 + 1 + 9 ≤ 12)
theorem F6 {s : AH × List Event} {draw b : Int} (hg : s.1.Bs = true) (hw : s.1.Dz) (h0 : 0 ≤ b) (h6 : b < 6) : (Es draw b s).1.Bs = true ∧ (Es draw b s).1.Dz ∧ (Es draw b s).2.length ≤ s.2.length + 13 := by
 have kb := HU hg h0 h6
 have hn := Mk (draw := draw) h0
 unfold Es
 split
 ·exact ⟨hg, hw, by omega⟩
 ·rename_i h1
  simp only [Bool.or_eq_true, Bool.not_eq_true', decide_eq_true_eq, not_or, Bool.not_eq_false] at h1
  have kf := kb.B5
  split
  ·exact ⟨I6 hg h0 h6 ⟨kb.room, kb.BM, ⟨Int.le_refl _, show (0 : Int) ≤ 6 by decide⟩, fun _ => rfl, kb.alive⟩ fun h => h, EV hw (hw.be b), Nat.le_add_right _ _⟩
  ·rename_i h2
   simp only [Bool.or_eq_true, Bool.not_eq_true', decide_eq_false_iff_not, not_or, Bool.not_eq_false, Decidable.not_not] at h2
   have hf := J6 (b := b) (n := Kq draw b) hg hw (B5 := (s.1.AW.at b).B5 - 1) (by omega) (by omega) h2.1
   have hso : (CJ s.1 b ((s.1.AW.at b).B5 - 1) (Kq draw b)).out.length = 1 := rfl
   split
   ·obtain ⟨d1, d2, d3⟩ := Od hf
    refine ⟨d1, d2, ?_⟩
    show ((s.2 ++ _) ++ _).length ≤ _
    rw [List.length_append, List.length_append, hso]; omega
   ·rename_i h3
    have h3' : ¬ ((CJ s.1 b ((s.1.AW.at b).B5 - 1) (Kq draw b)).w.AW.at ((s.1.AW.at b).B5 - 1)).BM = 0 := fun e => h3 (decide_eq_true e)
    have e : ((CJ s.1 b ((s.1.AW.at b).B5 - 1) (Kq draw b)).w.AW.at ((s.1.AW.at b).B5 - 1)) = { s.1.AW.at ((s.1.AW.at b).B5 - 1) with BM := max 0 ((s.1.AW.at ((s.1.AW.at b).B5 - 1)).BM - Kq draw b) } := Vector.CM (by omega) (by omega)
    rw [e] at h3'
    have h3'' : ¬ max 0 ((s.1.AW.at ((s.1.AW.at b).B5 - 1)).BM - Kq draw b) = 0 := h3'
    obtain ⟨d1, d2⟩ := RX (b := b) (n := Kq draw b) hg hw (B5 := (s.1.AW.at b).B5 - 1) (by omega) (by omega) h2.1 (by omega) (by omega)
    refine ⟨d1, d2, ?_⟩
    show (s.2 ++ _).length ≤ _
    rw [List.length_append, hso]; omega
end AG
end Go.Ing
/- What a round takes: plain laws. -/
namespace Go.Ing
open Go
namespace AG
def PB (v : Vector Int 6) (e : Event) : Vector Int 6 := if decide (e.kind = 14) = true then v.put e.other (v.at e.other + e.n) else v
def Ou (v : Vector Bool 6) (e : Event) : Vector Bool 6 := if decide (e.kind = 15) = true then v.put e.Dn true else v
def D1 (l : List Event) : Vector Int 6 := l.foldl PB (Vector.replicate 6 default)
def FD (l : List Event) : Vector Bool 6 := l.foldl Ou (Vector.replicate 6 default)
theorem OE (l : List Event) (e : Event) : D1 (l ++ [e]) = PB (D1 l) e := by simp [D1]
theorem NH (l : List Event) (e : Event) : FD (l ++ [e]) = Ou (FD l) e := by simp [FD]
def Quiet (q : List Event) : Prop := ∀ e ∈ q, e.kind ≠ 14 ∧ e.kind ≠ 15
theorem NQ : ∀ {q : List Event} (v : Vector Int 6) (u : Vector Bool 6), Quiet q → q.foldl PB v = v ∧ q.foldl Ou u = u
 | [], _, _, _ => ⟨rfl, rfl⟩
 | e :: r, v, u, h => by
  have he := h e (List.mem_cons_self ..)
  have hr : Quiet r := fun x hx => h x (List.mem_cons_of_mem _ hx)
  rw [List.foldl_cons, List.foldl_cons, PB, if_neg (by simp [he.1]), Ou, if_neg (by simp [he.2])]
  exact NQ v u hr
theorem RB {l q : List Event} (h : Quiet q) : D1 (l ++ q) = D1 l ∧ FD (l ++ q) = FD l := by
 unfold D1 FD
 rw [List.foldl_append, List.foldl_append]
 exact NQ _ _ h
theorem HO (T : AG) (e : Event) : ∃ x : Event, (T.Bk e).out = T.out ++ [x] ∧ x.kind = e.kind ∧ x.Dn = T.b ∧ x.other = e.other ∧ x.n = e.n := by
 obtain ⟨a1, a2, _, a4, a5, _⟩ := AH.La T.w (T.D3 e) 6
 have e2 : (T.D3 e).kind = e.kind ∧ (T.D3 e).Dn = T.b ∧ (T.D3 e).other = e.other ∧ (T.D3 e).n = e.n := by
  unfold D3
  split <;> exact ⟨rfl, rfl, rfl, rfl⟩
 exact ⟨_, rfl, a1.trans e2.1, a2.trans e2.2.1, a4.trans e2.2.2.1, a5.trans e2.2.2.2⟩
def MR (T T' : AG) : Prop := ∃ q, T'.out = T.out ++ q ∧ ∀ e ∈ q, e.kind = 16
theorem MR.refl (T : AG) : MR T T := ⟨[], by simp, fun _ h => by cases h⟩
theorem MR.tell {T T' : AG} (h : MR T T') (s : As) : MR T (T'.tell s) := by
 obtain ⟨q, e, k⟩ := h
 obtain ⟨x, e2, k2, _⟩ := HO T' { GI 16 with text := s }
 refine ⟨q ++ [x], ?_, fun y hy => ?_⟩
 ·show (T'.Bk _).out = _
  rw [e2, e, List.append_assoc]
 ·rcases List.mem_append.1 hy with hy | hy
  ·exact k y hy
  ·have : y = x := by simpa using hy
   rw [this]; exact k2
theorem MR.look {T T' : AG} (h : MR T T') : MR T T'.look := by
 have hk : ∀ {T'' : AG}, MR T T'' → ∀ k : Nat, MR T (T''.Fa k) := fun {T''} h' k => by
  induction k with
  | zero => exact h'
  | succ k ih =>
   unfold Fa
   split
   ·exact ih.tell _
   ·exact ih
 unfold AG.look
 split
 ·exact h.tell _
 ·refine hk ?_ 6
  have ha : MR T T'.Jx := (h.tell _).tell _
  unfold Dy
  split
  ·exact ha.tell _
  ·exact ha
/-! #### who is struck, who dies -/
def calm (b : Int) (x : Al) : Al := { x with B5 := if x.B5 = b + 1 then 0 else x.B5 }
theorem WO {b : Int} {x : Al} (h : x.B5 = b + 1) : calm b x = { x with B5 := 0 } := by unfold calm; rw [if_pos h]
theorem WN {b : Int} {x : Al} (h : ¬ x.B5 = b + 1) : calm b x = x := by unfold calm; rw [if_neg h]
theorem Qo (T : AG) (hb : 0 ≤ T.b) : ∀ k : Nat, k ≤ 6 → ∀ c : Int, 0 ≤ c → c < 6 → (T.Dw k).w.AW.at c = if c < (k : Int) then calm T.b (T.w.AW.at c) else T.w.AW.at c
 | 0, _, c, c0, _ => by rw [if_neg (by omega)]; rfl
 | k + 1, hk, c, c0, c6 => by
  have ih := Qo T hb k (by omega)
  have ihk := ih k (by omega) (by omega)
  rw [if_neg (by omega)] at ihk
  have ihc := ih c c0 c6
  unfold Dw
  rw [ihk]
  by_cases e : (T.w.AW.at (k : Int)).B5 = T.b + 1
  ·rw [if_pos (decide_eq_true e)]
   show (((T.Dw k).w.AW.put (k : Int) { (T.Dw k).w.AW.at (k : Int) with B5 := 0 }).at c) = _
   rw [KA _ _ _ _ (by omega) (by omega) c0]
   by_cases ec : c = (k : Int)
   ·subst ec
    rw [if_pos rfl, if_pos (by omega), ihk, WO e]
   ·rw [if_neg ec, ihc]
    by_cases hl : c < (k : Int)
    ·rw [if_pos hl, if_pos (by omega)]
    ·rw [if_neg hl, if_neg (by omega)]
  ·rw [if_neg (by simpa using e), ihc]
   by_cases hl : c < (k : Int)
   ·rw [if_pos hl, if_pos (by omega)]
   ·rw [if_neg hl]
    by_cases ec : c = (k : Int)
    ·subst ec
     rw [if_pos (by omega), WN e]
    ·rw [if_neg (by omega)]
theorem Nx : ∀ (l : List Int) (T : AG), (T.Ck l).w.AW = T.w.AW
 | [], _ => rfl
 | i :: r, T => (Nx r (T.Ee i)).trans rfl
theorem Xu (T : AG) (hb : 0 ≤ T.b ∧ T.b < 6) {c : Int} (c0 : 0 ≤ c) (c6 : c < 6) : T.GC.w.AW.at c = if c = T.b then { T.w.AW.at c with B5 := 0 } else calm T.b (T.w.AW.at c) := by
 have hd := Nx T.own T
 have hdb := (ID T.own T).1
 have hk := Qo (T.Ck T.own) (by rw [hdb]; exact hb.1) 6 (Nat.le_refl _)
 rw [hd, hdb] at hk
 rw [Mc]
 generalize (T.Ck T.own).Dw 6 = D at *
 show (D.w.AW.put T.b { D.w.AW.at T.b with B5 := 0 }).at c = _
 rw [KA _ _ _ _ hb.1 hb.2 c0]
 have hc := hk c c0 c6
 rw [if_pos (by omega)] at hc
 by_cases e : c = T.b
 ·rw [if_pos e, if_pos e, ← e, hc]; rfl
 ·rw [if_neg e, if_neg e, hc]
structure Za (w w' : AH) (f : Int) : Prop where
 ag : ∀ c, 0 ≤ c → c < 6 → c ≠ f → (w'.AW.at c).BM = (w.AW.at c).BM ∧ (w'.AW.at c).room = (w.AW.at c).room ∧ (w'.AW.at c).here = (w.AW.at c).here ∧ ((w'.AW.at c).B5 = (w.AW.at c).B5 ∨ (w'.AW.at c).B5 = 0) ∧ (w'.AW.at c).B5 ≠ f + 1
 here : (w'.AW.at f).here = decide (2 ≤ f)
 B5 : (w'.AW.at f).B5 = 0
theorem TA {w : AH} {f c : Int} (hf : 0 ≤ f ∧ f < 6) (c0 : 0 ≤ c) (c6 : c < 6) : (GA w f).w.AW.at c = if c = f then { (FW w f).w.AW.at c with B5 := 0 } else calm f ((FW w f).w.AW.at c) := Xu ((FW w f).kind 15) hf c0 c6
theorem Vh {w : AH} {f c : Int} (hf : 0 ≤ f ∧ f < 6) (c0 : 0 ≤ c) (c6 : c < 6) (hn : c ≠ f) : (GA w f).w.AW.at c = calm f (w.AW.at c) := by
 have h0 : (FW w f).w.AW.at c = w.AW.at c := AH.HI hf.1 hf.2 c0 hn _
 rw [TA hf c0 c6, h0, if_neg hn]
theorem W8 (f : Int) (hf : 0 ≤ f) (x : Al) : (calm f x).BM = x.BM ∧ (calm f x).room = x.room ∧ (calm f x).here = x.here ∧ ((calm f x).B5 = x.B5 ∨ (calm f x).B5 = 0) ∧ (calm f x).B5 ≠ f + 1 := by
 by_cases e : x.B5 = f + 1
 ·rw [WO e]
  refine ⟨rfl, rfl, rfl, .inr rfl, ?_⟩
  show (0 : Int) ≠ f + 1
  omega
 ·rw [WN e]
  exact ⟨rfl, rfl, rfl, .inl rfl, e⟩
theorem Te {w w1 w' : AH} {f : Int} (hf : 0 ≤ f ∧ f < 6) (ho : ∀ c, 0 ≤ c → c < 6 → c ≠ f → w1.AW.at c = calm f (w.AW.at c)) (he : ∀ c, 0 ≤ c → c < 6 → c ≠ f → w'.AW.at c = w1.AW.at c) (h1 : (w'.AW.at f).here = decide (2 ≤ f)) (h2 : (w'.AW.at f).B5 = 0) : Za w w' f := by
 refine ⟨fun c c0 c6 hn => ?_, h1, h2⟩
 rw [he c c0 c6 hn, ho c c0 c6 hn]
 exact W8 f hf.1 _
theorem Tr {w : AH} {f : Int} (h : (FW w f).Fit) : Za w (IQ w f).w f ∧ ∃ x q, (IQ w f).out = x :: q ∧ x.kind = 15 ∧ x.Dn = f ∧ Quiet q := by
 have hf : 0 ≤ f ∧ f < 6 := h.b
 have ho : ∀ c, 0 ≤ c → c < 6 → c ≠ f → (GA w f).w.AW.at c = calm f (w.AW.at c) := fun c c0 c6 hn => Vh hf c0 c6 hn
 obtain ⟨x, e1, k1, k2, _⟩ := HO (FW w f) (GI 15)
 have hout : ((FW w f).kind 15).out = [x] := e1
 have g := (QR h).1.fit
 have gh := g.here
 rw [(Lb w f).1] at gh
 have hme := TA (w := w) hf hf.1 hf.2
 rw [if_pos rfl] at hme
 have hfoe : ((GA w f).w.AW.at f).B5 = 0 := by rw [hme]
 unfold IQ
 split
 ·rename_i c2
  have c2' := of_decide_eq_true c2
  rw [(DR _ _ _).2.1, (DR _ _ _).2.2, (Lb w f).2, hout]
  generalize (GA w f).w = D at *
  refine ⟨Te (w1 := D) hf ho (fun c c0 _ hn => AH.HI hf.1 hf.2 c0 hn _) ?_ ?_, x, [], rfl, k1, k2, fun e he => by cases he⟩
  ·show ((D.Cz f default).AW.at f).here = _
   rw [AH.Eb hf.1 hf.2, decide_eq_false (by omega)]; rfl
  ·show ((D.Cz f default).AW.at f).B5 = _
   rw [AH.Eb hf.1 hf.2]; rfl
 ·rename_i c2
  have c2' : ¬ f < 2 := fun e => c2 (decide_eq_true e)
  have hl := M9 ((Iq w f).kind 17)
  have e2 := Sd w f
  obtain ⟨y, e3, k3, _⟩ := HO (Iq w f) (GI 17)
  obtain ⟨q, e4, k4⟩ := (MR.refl ((Iq w f).kind 17)).look
  have e3' : ((Iq w f).kind 17).out = [x] ++ [y] := by rw [show ((Iq w f).kind 17).out = _ from e3, e2.2.1, hout]
  rw [hl.1, e4, e3', show ((Iq w f).kind 17).w = (Iq w f).w from rfl, e2.2.2]
  generalize (GA w f).w = D at *
  refine ⟨Te (w1 := D) hf ho (fun c c0 _ hn => AH.HI hf.1 hf.2 c0 hn _) ?_ ?_, x, y :: q, rfl, k1, k2, fun e he => ?_⟩
  ·rw [AH.Eb hf.1 hf.2, decide_eq_true (by omega)]; exact gh
  ·rw [AH.Eb hf.1 hf.2]; exact hfoe
  ·rcases List.mem_cons.1 he with he | he
   ·rw [he, k3]; exact ⟨by decide, by decide⟩
   ·rw [k4 e he]; exact ⟨by decide, by decide⟩
/-! #### the count of a round -/
def bq (e : Event) : Prop := (e.kind = 14 → 1 ≤ e.n ∧ e.n ≤ 3 ∧ 0 ≤ e.other ∧ e.other < 6) ∧ (e.kind = 15 → 0 ≤ e.Dn ∧ e.Dn < 6)
structure Su (X : AH) (s : AH × List Event) : Prop where
 ev : ∀ e ∈ s.2, bq e
 un : ∀ c, 0 ≤ c → c < 6 → (FD s.2).at c = false → (s.1.AW.at c).BM = (X.AW.at c).BM - (D1 s.2).at c ∧ (s.1.AW.at c).room = (X.AW.at c).room ∧ (s.1.AW.at c).here = (X.AW.at c).here
 di : ∀ c, 0 ≤ c → c < 6 → (FD s.2).at c = true → (X.AW.at c).BM ≤ (D1 s.2).at c ∧ (s.1.AW.at c).here = decide (2 ≤ c) ∧ (s.1.AW.at c).B5 = 0 ∧ ∀ a, 0 ≤ a → a < 6 → (s.1.AW.at a).B5 ≠ c + 1
theorem Vs {α : Type} [Inhabited α] (c : Int) (c0 : 0 ≤ c) (c6 : c < 6) : (Vector.replicate 6 (default : α)).at c = default := by
 have : c = 0 ∨ c = 1 ∨ c = 2 ∨ c = 3 ∨ c = 4 ∨ c = 5 := by omega
 rcases this with rfl | rfl | rfl | rfl | rfl | rfl <;> rfl
theorem Su.start (X : AH) : Su X (X, []) := by
 have hh : ∀ c, 0 ≤ c → c < 6 → (D1 []).at c = 0 := fun c c0 c6 => Vs c c0 c6
 have hd : ∀ c, 0 ≤ c → c < 6 → (FD []).at c = false := fun c c0 c6 => Vs c c0 c6
 refine ⟨fun _ h => (by cases h), fun c c0 c6 _ => ⟨?_, rfl, rfl⟩, fun c c0 c6 h => ?_⟩
 ·show (X.AW.at c).BM = (X.AW.at c).BM - (D1 []).at c
  rw [hh c c0 c6]; omega
 ·have h' : (FD []).at c = true := h
  rw [hd c c0 c6] at h'; cases h'
theorem Su.next {X : AH} {s : AH × List Event} {draw b : Int} (h : Su X s) (hg : s.1.Bs = true) (hw : s.1.Dz) (h0 : 0 ≤ b) (h6 : b < 6) : Su X (Es draw b s) := by
 have kb := HU hg h0 h6
 have hn := Mk (draw := draw) h0
 unfold Es
 split
 ·exact h
 ·rename_i h1
  simp only [Bool.or_eq_true, Bool.not_eq_true', decide_eq_true_eq, not_or, Bool.not_eq_false] at h1
  have kf := kb.B5
  split
  ·have hb : ∀ c, 0 ≤ c → ((s.1.Cz b { s.1.AW.at b with B5 := 0 }).AW.at c).BM = (s.1.AW.at c).BM ∧ ((s.1.Cz b { s.1.AW.at b with B5 := 0 }).AW.at c).room = (s.1.AW.at c).room ∧ ((s.1.Cz b { s.1.AW.at b with B5 := 0 }).AW.at c).here = (s.1.AW.at c).here ∧ (((s.1.Cz b { s.1.AW.at b with B5 := 0 }).AW.at c).B5 = (s.1.AW.at c).B5 ∨ ((s.1.Cz b { s.1.AW.at b with B5 := 0 }).AW.at c).B5 = 0) := fun c c0 => by
    by_cases e : c = b
    ·subst e; rw [AH.Eb h0 h6]; exact ⟨rfl, rfl, rfl, .inr rfl⟩
    ·rw [AH.HI h0 h6 c0 e]; exact ⟨rfl, rfl, rfl, .inl rfl⟩
   refine ⟨h.ev, fun c c0 c6 hd => ?_, fun c c0 c6 hd => ?_⟩
   ·obtain ⟨q1, q2, q3⟩ := h.un c c0 c6 hd
    obtain ⟨r1, r2, r3, _⟩ := hb c c0
    exact ⟨r1.trans q1, r2.trans q2, r3.trans q3⟩
   ·obtain ⟨q1, q2, q3, q4⟩ := h.di c c0 c6 hd
    obtain ⟨_, _, r3, r4⟩ := hb c c0
    refine ⟨q1, r3.trans q2, ?_, fun a a0 a6 => ?_⟩
    ·rcases r4 with r4 | r4
     ·exact r4.trans q3
     ·exact r4
    ·have := q4 a a0 a6
     rcases (hb a a0).2.2.2 with r | r
     ·rw [r]; exact this
     ·rw [r]; omega
  ·rename_i h2
   simp only [Bool.or_eq_true, Bool.not_eq_true', decide_eq_false_iff_not, not_or, Bool.not_eq_false, Decidable.not_not] at h2
   generalize hfo : (s.1.AW.at b).B5 - 1 = f at *
   generalize Kq draw b = n at *
   have f0 : 0 ≤ f := by omega
   have f6 : f < 6 := by omega
   have hf := J6 (b := b) (n := n) hg hw (B5 := f) f0 f6 h2.1
   have kf2 := (HU hg f0 f6).BM
   obtain ⟨x, ex, k1, k2, k3, k4⟩ := HO ⟨s.1, b, []⟩ { GI 14 with other := f, n := n }
   have hso : (CJ s.1 b f n).out = [x] := ex
   have hsw : (CJ s.1 b f n).w = s.1.Cz f { s.1.AW.at f with BM := max 0 ((s.1.AW.at f).BM - n) } := rfl
   have k1' : x.kind = 14 := k1
   have k3' : x.other = f := k3
   have k4' : x.n = n := k4
   have hH : D1 (s.2 ++ [x]) = (D1 s.2).put f ((D1 s.2).at f + n) := by rw [OE, PB, if_pos (decide_eq_true k1'), k3', k4']
   have hD : FD (s.2 ++ [x]) = FD s.2 := by rw [NH, Ou, if_neg (by rw [k1']; decide)]
   have hnd : (FD s.2).at f = false := by
    cases hh : (FD s.2).at f with
    | false => rfl
    | true => exact absurd (by omega : (s.1.AW.at b).B5 = f + 1) ((h.di f f0 f6 hh).2.2.2 b h0 h6)
   have hfe := h.un f f0 f6 hnd
   have hxe : bq x := ⟨fun _ => by rw [k3', k4']; omega, fun e => by rw [k1'] at e; cases e⟩
   have hev : ∀ e ∈ s.2 ++ [x], bq e := fun e he => by
    rcases List.mem_append.1 he with he | he
    ·exact h.ev e he
    ·have : e = x := by simpa using he
     rw [this]; exact hxe
   have hwc : ∀ c, 0 ≤ c → c ≠ f → (CJ s.1 b f n).w.AW.at c = s.1.AW.at c := fun c c0 hne => by rw [hsw]; exact AH.HI f0 f6 c0 hne _
   have hwf : (CJ s.1 b f n).w.AW.at f = { s.1.AW.at f with BM := max 0 ((s.1.AW.at f).BM - n) } := by rw [hsw]; exact AH.Eb f0 f6 _
   have hwa : ∀ a, 0 ≤ a → ((CJ s.1 b f n).w.AW.at a).B5 = (s.1.AW.at a).B5 := fun a a0 => by
    by_cases e : a = f
    ·rw [e, hwf]
    ·rw [hwc a a0 e]
   have hHc : ∀ c, 0 ≤ c → c ≠ f → ((D1 s.2).put f ((D1 s.2).at f + n)).at c = (D1 s.2).at c := fun c c0 hne => Vector.E1 f0 f6 c0 hne
   have hHf : ((D1 s.2).put f ((D1 s.2).at f + n)).at f = (D1 s.2).at f + n := Vector.CM f0 f6
   split
   ·rename_i h3
    have h3' := of_decide_eq_true h3
    rw [hwf] at h3'
    have h3'' : max 0 ((s.1.AW.at f).BM - n) = 0 := h3'
    obtain ⟨dd, y, q, e2, y1, y2, y3⟩ := Tr hf
    rw [e2, hso]
    generalize (IQ (CJ s.1 b f n).w f).w = W at *
    have hA : D1 (s.2 ++ [x] ++ y :: q) = (D1 s.2).put f ((D1 s.2).at f + n) ∧ FD (s.2 ++ [x] ++ y :: q) = (FD s.2).put f true := by
     have hq := RB (l := s.2 ++ [x] ++ [y]) y3
     rw [show s.2 ++ [x] ++ y :: q = s.2 ++ [x] ++ [y] ++ q by simp, hq.1, hq.2, OE, NH, hH, hD, PB, if_neg (by rw [y1]; decide), Ou, if_pos (decide_eq_true y1), y2]
     exact ⟨rfl, rfl⟩
    refine ⟨fun e he => ?_, fun c c0 c6 hd => ?_, fun c c0 c6 hd => ?_⟩
    ·rcases List.mem_append.1 he with he | he
     ·exact hev e he
     ·rcases List.mem_cons.1 he with he | he
      ·rw [he]; exact ⟨fun e => absurd (y1.symm.trans e) (by decide), fun _ => by rw [y2]; exact ⟨f0, f6⟩⟩
      ·exact ⟨fun e' => absurd e' (y3 e he).1, fun e' => absurd e' (y3 e he).2⟩
    ·have hd' : ((FD s.2).put f true).at c = false := by rw [← hA.2]; exact hd
     have hne : c ≠ f := fun e => by
      rw [e, Vector.CM f0 f6] at hd'; cases hd'
     rw [Vector.E1 f0 f6 c0 hne] at hd'
     obtain ⟨q1, q2, q3⟩ := h.un c c0 c6 hd'
     obtain ⟨r1, r2, r3, _⟩ := dd.ag c c0 c6 hne
     rw [hwc c c0 hne] at r1 r2 r3
     show (W.AW.at c).BM = (X.AW.at c).BM - (D1 (s.2 ++ [x] ++ y :: q)).at c ∧ _
     rw [hA.1, hHc c c0 hne]
     exact ⟨r1.trans q1, r2.trans q2, r3.trans q3⟩
    ·have hd' : ((FD s.2).put f true).at c = true := by rw [← hA.2]; exact hd
     show (X.AW.at c).BM ≤ (D1 (s.2 ++ [x] ++ y :: q)).at c ∧ _
     rw [hA.1]
     by_cases hne : c = f
     ·subst hne
      rw [hHf]
      refine ⟨by omega, dd.here, dd.B5, fun a a0 a6 => ?_⟩
      by_cases ea : a = c
      ·rw [ea, dd.B5]; omega
      ·exact (dd.ag a a0 a6 ea).2.2.2.2
     ·rw [Vector.E1 f0 f6 c0 hne] at hd'
      rw [hHc c c0 hne]
      obtain ⟨q1, q2, q3, q4⟩ := h.di c c0 c6 hd'
      obtain ⟨_, _, r3, r4, _⟩ := dd.ag c c0 c6 hne
      rw [hwc c c0 hne] at r3 r4
      refine ⟨q1, r3.trans q2, ?_, fun a a0 a6 => ?_⟩
      ·rcases r4 with r4 | r4
       ·exact r4.trans q3
       ·exact r4
      ·by_cases ea : a = f
       ·rw [ea, dd.B5]; omega
       ·have := q4 a a0 a6
        have r := (dd.ag a a0 a6 ea).2.2.2.1
        rw [hwc a a0 ea] at r
        rcases r with r | r
        ·rw [r]; exact this
        ·rw [r]; omega
   ·rename_i h3
    have h3' : ¬ ((CJ s.1 b f n).w.AW.at f).BM = 0 := fun e => h3 (decide_eq_true e)
    rw [hwf] at h3'
    have h3'' : ¬ max 0 ((s.1.AW.at f).BM - n) = 0 := h3'
    rw [hso]
    refine ⟨hev, fun c c0 c6 hd => ?_, fun c c0 c6 hd => ?_⟩
    ·have hd' : (FD s.2).at c = false := by rw [← hD]; exact hd
     show ((CJ s.1 b f n).w.AW.at c).BM = (X.AW.at c).BM - (D1 (s.2 ++ [x])).at c ∧ _
     rw [hH]
     by_cases hne : c = f
     ·subst hne
      rw [hHf, hwf]
      refine ⟨?_, hfe.2.1, hfe.2.2⟩
      show max 0 ((s.1.AW.at c).BM - n) = _
      have := hfe.1
      omega
     ·rw [hHc c c0 hne, hwc c c0 hne]
      exact h.un c c0 c6 hd'
    ·have hd' : (FD s.2).at c = true := by rw [← hD]; exact hd
     have hne : c ≠ f := fun e => by rw [e, hnd] at hd'; cases hd'
     show (X.AW.at c).BM ≤ (D1 (s.2 ++ [x])).at c ∧ _
     rw [hH, hHc c c0 hne]
     obtain ⟨q1, q2, q3, q4⟩ := h.di c c0 c6 hd'
     refine ⟨q1, by rw [hwc c c0 hne]; exact q2, by rw [hwc c c0 hne]; exact q3, fun a a0 a6 => by rw [hwa a a0]; exact q4 a a0 a6⟩
theorem Oq {X : AH} {draw : Int} (hg : X.Bs = true) (hw : X.Dz) : ∀ k : Nat, k ≤ 6 → Su X (EG X draw k) ∧ (EG X draw k).1.Bs = true ∧ (EG X draw k).1.Dz ∧ (EG X draw k).2.length ≤ 13 * k
 | 0, _ => ⟨.start X, hg, hw, Nat.le_refl _⟩
 | k + 1, hk => by
  obtain ⟨h1, h2, h3, h4⟩ := Oq hg hw k (by omega)
  obtain ⟨g1, g2, g3⟩ := F6 (draw := draw) (b := (k : Int)) h2 h3 (by omega) (by omega)
  exact ⟨h1.next h2 h3 (by omega) (by omega), g1, g2, by show (Es draw k (EG X draw k)).2.length ≤ _; omega⟩
theorem WL {X : AH} {draw : Int} (hw : X.Dz) (h : (Ch X draw).2.2 = 0) : Su X ((Ch X draw).1, (Ch X draw).2.1) ∧ (Ch X draw).1.Bs = true ∧ (Ch X draw).2.1.length ≤ 78 := by
 unfold Ch at h ⊢
 split at h
 ·cases h
 ·rename_i h1
  rw [if_neg h1]
  obtain ⟨q1, q2, _, q4⟩ := Oq (draw := draw) (by simpa using h1) hw 6 (Nat.le_refl _)
  generalize EG X draw 6 = S at *
  exact ⟨q1, q2, Nat.le_trans q4 (by decide)⟩
end AG
end Go.Ing
/- The document's side of what beings do: plain functions and laws. -/
namespace Go.Ing
open Go
namespace AG
/-! #### names of players -/
def low (c : UInt8) : Bool := decide ((c.toNat : Int) < 97) || decide (122 < (c.toNat : Int))
def HE (s : As) (k : Nat) : Bool := (s.drop k).all fun c => !low c
theorem Uq {s : As} {k : Int} (h0 : 0 ≤ k) (h1 : k < s.length) : HE s k.toNat = (!low (s.getD k.toNat 0) && HE s (k + 1).toNat) := by
 have hk : k.toNat < s.length := by omega
 unfold HE
 rw [List.drop_eq_getElem_cons hk, show (k + 1).toNat = k.toNat + 1 by omega, List.getD_eq_getElem?_getD, List.getElem?_eq_getElem hk]
 rfl
theorem WE (s : As) : HE s (s.length : Int).toNat = true := by
 unfold HE
 rw [show (s.length : Int).toNat = s.length by omega, List.drop_length]; rfl
def Wm : As := [115, 111, 109, 101, 111, 110, 101]
def bE : As := [121, 111, 117]
def Jd (s : As) : Bool := HE s 0 && (decide (1 ≤ (s.length : Int)) && decide ((s.length : Int) ≤ 8) && !decide (s = Wm) && !decide (s = bE))
/-! #### who enters -/
def Kw (X : AH) (s : As) (k : Int) : Bool := (X.AW.at k).here && decide ((X.AW.at k).name = s)
def DM (X : AH) : Nat → Int
 | 0 => -1
 | n + 1 => if (!(X.AW.at ((5 - n : Nat) : Int)).here && decide (2 ≤ ((5 - n : Nat) : Int))) = true then ((5 - n : Nat) : Int) else DM X n
theorem Ny {X : AH} {k : Int} (h0 : 0 ≤ k) (h5 : k ≤ 5) : DM X (5 - (k - 1)).toNat = if (!(X.AW.at k).here && decide (2 ≤ k)) = true then k else DM X (5 - k).toNat := by
 have e : (5 - (k - 1)).toNat = (5 - k).toNat + 1 := by omega
 rw [e, DM, show ((5 - (5 - k).toNat : Nat) : Int) = k by omega]
theorem WM {X : AH} {k : Int} (h2 : 2 ≤ k) (h5 : k ≤ 5) (h : (!(X.AW.at k).here) = false) : DM X (5 - (k - 1)).toNat = DM X (5 - k).toNat := by
 rw [Ny (by omega) h5, h]; rfl
theorem U3 {X : AH} {k : Int} (h2 : 2 ≤ k) (h5 : k ≤ 5) (h : (!(X.AW.at k).here) = true) : DM X (5 - (k - 1)).toNat = k := by
 rw [Ny (by omega) h5, h, decide_eq_true h2]; rfl
theorem Tt (X : AH) : DM X 6 = DM X 4 := by
 have h1 : DM X 6 = DM X 5 := by
  rw [DM, if_neg (by simp)]
 have h2 : DM X 5 = DM X 4 := by
  rw [DM, if_neg (by simp)]
 rw [h1, h2]
theorem Og (X : AH) : ∀ n : Nat, n ≤ 6 → DM X n = -1 ∨ (2 ≤ DM X n ∧ DM X n ≤ 5)
 | 0, _ => .inl rfl
 | n + 1, h => by
  unfold DM
  split
  ·rename_i c
   rw [Bool.and_eq_true] at c
   have := of_decide_eq_true c.2
   exact .inr ⟨this, by omega⟩
  ·exact Og X n (by omega)
def KY (s : As) : Al := { (default : Al) with name := s, here := true, BM := 10 }
def Wi (X : AH) (s : As) (b : Int) : AG := ((⟨X.Cz b (KY s), b, []⟩ : AG).kind 17).look
def Bg (X : AH) (s : As) : AH × Int × List Event × Int :=
 if (!X.Bs) = true then (X, 0, [], 2)
 else if (!Jd s) = true then (X, 0, [], 1)
 else if (!B9 6 (fun k => !Kw X s k) 6) = true then (X, 0, [], 1)
 else if decide (DM X 6 < 0) = true then (X, 0, [], 4)
 else ((Wi X s (DM X 6)).w, DM X 6, (Wi X s (DM X 6)).out, 0)
theorem PF (X : AH) (s : As) : (Bg X s).2.2.1.length ≤ 10 := by
 unfold Bg
 split
 ·exact Nat.zero_le _
 ·split
  ·exact Nat.zero_le _
  ·split
   ·exact Nat.zero_le _
   ·split
    ·exact Nat.zero_le _
    ·exact (M9 _).2.2
theorem Tl {X : AH} {s : As} {b : Int} (hg : X.Bs = true) (hw : X.Dz) (hs : s.length ≤ 140737488351232) (h0 : 0 ≤ b) (h6 : b < 6) : Fit ⟨X.Cz b (KY s), b, []⟩ :=
 ⟨⟨h0, h6⟩, EV hw hs, I6 hg h0 h6 ⟨⟨Int.le_refl _, show (0 : Int) < 6 by decide⟩, ⟨show (0 : Int) ≤ 10 by decide, show (10 : Int) ≤ 10 by decide⟩, ⟨Int.le_refl _, show (0 : Int) ≤ 6 by decide⟩, fun _ => rfl, rfl⟩ fun _ => rfl, by
  show ((X.Cz b (KY s)).AW.at b).here = true
  rw [AH.Eb h0 h6]; rfl⟩
end AG
end Go.Ing
/- A round, as the document says it: plain laws. -/
namespace Go.Ing
open Go
theorem TE {α : Type} [Inhabited α] {n : Nat} {v u : Vector α n} (h : ∀ i : Int, 0 ≤ i → i < n → v.at i = u.at i) : v = u := by
 apply Vector.ext
 intro i hi
 have := h (i : Int) (by omega) (by omega)
 unfold Vector.at at this
 rw [List.getD_eq_getElem?_getD, List.getD_eq_getElem?_getD] at this
 simpa [hi] using this
namespace AG
def pre (o : List Event) (T : AG) : AG := ⟨T.w, T.b, o ++ T.out⟩
theorem PQ (T : AG) {i : Int} (h0 : 0 ≤ i) (h9 : i < 9) (c : decide ((((T.w.AX.put i { T.w.AX.at i with Cq := 0 }).put i { (T.w.AX.put i { T.w.AX.at i with Cq := 0 }).at i with at_ := (T.w.AW.at T.b).room }).at i).kind = 2) = true) : ({ T.w with AX := ((T.w.AX.put i { T.w.AX.at i with Cq := 0 }).put i { (T.w.AX.put i { T.w.AX.at i with Cq := 0 }).at i with at_ := (T.w.AW.at T.b).room }).put i { ((T.w.AX.put i { T.w.AX.at i with Cq := 0 }).put i { (T.w.AX.put i { T.w.AX.at i with Cq := 0 }).at i with at_ := (T.w.AW.at T.b).room }).at i with on := false } } : AH) = (T.Ee i).w := by
 rw [Vector.CM h0 h9, Vector.CM h0 h9] at c
 rw [Vector.CM h0 h9, Vector.ER, Vector.CM h0 h9, Vector.ER]
 unfold Ee
 rw [if_pos (show decide ((T.w.AX.at i).kind = 2) = true from c)]; rfl
theorem TC (T : AG) {i : Int} (h0 : 0 ≤ i) (h9 : i < 9) (c : decide ((((T.w.AX.put i { T.w.AX.at i with Cq := 0 }).put i { (T.w.AX.put i { T.w.AX.at i with Cq := 0 }).at i with at_ := (T.w.AW.at T.b).room }).at i).kind = 2) = false) : ({ T.w with AX := (T.w.AX.put i { T.w.AX.at i with Cq := 0 }).put i { (T.w.AX.put i { T.w.AX.at i with Cq := 0 }).at i with at_ := (T.w.AW.at T.b).room } } : AH) = (T.Ee i).w := by
 rw [Vector.CM h0 h9, Vector.CM h0 h9] at c
 rw [Vector.CM h0 h9, Vector.ER]
 unfold Ee
 rw [if_neg (show ¬ decide ((T.w.AX.at i).kind = 2) = true from by rw [show decide ((T.w.AX.at i).kind = 2) = false from c]; decide)]; rfl
theorem O9 {X : AH} (hw : X.Dz) (draw : Int) : (Ch X draw).2.1.length ≤ 78 := by
 by_cases h : (Ch X draw).2.2 = 0
 ·exact (WL hw h).2.2
 ·unfold Ch at h ⊢
  split
  ·exact Nat.zero_le _
  ·rename_i h1
   rw [if_neg h1] at h
   exact absurd rfl h
end AG
end Go.Ing
/- What beings do, as the document says it: plain laws. -/
namespace Go.Ing
open Go
namespace AG
def skip (w : AH) (u : As) (i : Int) : Bool := !decide (u = []) && !decide (u = (w.AX.at i).name)
/-! #### what is taken -/
/-! #### what is set -/
/-! #### what is let go of -/
theorem S6 (T : AG) (o : Order) : (T.DG o).1.w = T.w ∧ (T.DG o).1.b = T.b := by
 unfold DG
 split
 ·exact T.Ob o.second
 ·split
  ·exact T.N2 o.second
  ·exact ⟨rfl, rfl⟩
theorem Oi (T : AG) (o : Order) : 0 ≤ (T.DG o).2.1 ∧ (T.DG o).2.1 < 9 := by
 unfold DG
 split
 ·exact T.XN o.second
 ·split
  ·have := T.K5 o.second; omega
  ·exact ⟨Int.le_refl 0, show (0 : Int) < 9 by decide⟩
theorem Vb {T : AG} {o : Order} (hv : o.verb = 8 ∨ o.verb = 9 ∨ o.verb = 10) (h : (T.DG o).2.2 = true) : Qa (T.DG o).1 o.verb (T.DG o).2.1 := by
 unfold Qa
 rw [(T.S6 o).1]
 unfold DG at h ⊢
 split at h
 ·rename_i h2
  rw [if_pos h2]
  obtain ⟨a0, a9, hk, _⟩ := Y8 h
  have := of_decide_eq_true h2
  exact .inr (.inr ⟨by omega, by omega, a0, a9, hk⟩)
 ·rename_i h2
  rw [if_neg h2]
  split at h
  ·rename_i h3
   rw [if_pos h3]
   obtain ⟨a0, a6, _, hs⟩ := Ql h
   exact .inr (.inl ⟨of_decide_eq_true h3, a0, a6, (AH.Jl (AH.So hs).2.1).2.2⟩)
  ·rename_i h3
   rw [if_neg h3]
   refine .inl ?_
   rcases hv with e | e | e
   ·exact e
   ·exact absurd (decide_eq_true e) h2
   ·exact absurd (decide_eq_true e) h3
def J5 (T : AG) (o : Order) : List Int := BQ T.w T.own o.nth o.name o.Bl
def P9 (T : AG) (o : Order) : AG := if decide (((T.J5 o).length : Int) = 0) = true then T.tell P2 else T
theorem Ye {T : AG} {o : Order} (h : decide (((T.J5 o).length : Int) = 0) = true) : T.P9 o = T.tell P2 := if_pos h
theorem YS {T : AG} {o : Order} (h : decide (((T.J5 o).length : Int) = 0) = false) : T.P9 o = T := if_neg (by rw [h]; decide)
theorem Y2 (T : AG) (o : Order) : (T.P9 o).w = T.w ∧ (T.P9 o).b = T.b ∧ (T.P9 o).out.length ≤ T.out.length + 1 := by
 unfold P9
 split
 ·exact ⟨rfl, rfl, by rw [CC]; exact Nat.le_refl _⟩
 ·exact ⟨rfl, rfl, Nat.le_succ _⟩
def Pp (T : AG) (to : Int) (o : Order) (k : Nat) : AG := (T.P9 o).Fg o.verb to ((T.J5 o).take k)
theorem MB {v to : Int} : ∀ (l : List Int) (T : AG) (i : Int), T.Fg v to (l ++ [i]) = (T.Fg v to l).DQ v to i
 | [], _, _ => rfl
 | _ :: r, _, i => MB r _ i
theorem Xj {l : List Int} {k : Int} (h0 : 0 ≤ k) (h1 : k < l.length) : l.take (k + 1).toNat = l.take k.toNat ++ [l.getD k.toNat 0] := by
 obtain ⟨m, rfl⟩ := Int.eq_ofNat_of_zero_le h0
 have hm : m < l.length := by omega
 show l.take (m + 1) = l.take m ++ [l.getD m 0]
 rw [List.take_add_one, List.getElem?_eq_getElem hm, List.getD_eq_getElem?_getD, List.getElem?_eq_getElem hm]
 rfl
theorem Hw {T : AG} {to : Int} {o : Order} {k : Int} (h0 : 0 ≤ k) (h1 : k < (T.J5 o).length) : T.Pp to o (k + 1).toNat = (T.Pp to o k.toNat).DQ o.verb to ((T.J5 o).getD k.toNat 0) := by
 unfold Pp
 rw [Xj h0 h1, MB]
theorem WC {T : AG} {to : Int} {o : Order} : T.Pp to o ((T.J5 o).length : Int).toNat = T.Wd to o := by
 unfold Pp
 rw [show ((T.J5 o).length : Int).toNat = (T.J5 o).length by omega, List.take_length]
 rfl
theorem RW {T : AG} {o : Order} : (∀ i ∈ T.J5 o, Sq T.w T.b i) ∧ (T.J5 o).Nodup ∧ (T.J5 o).length ≤ 9 :=
 ⟨fun _ hi => (HY (Ea hi)).W1, List.Nodup.sublist (Ek ..) (AH.Tz ..), Nat.le_trans (Ek ..).length_le (AG.JX T)⟩
theorem Na (v to : Int) : ∀ (l : List Int) (T : AG), (T.Fg v to l).out.length ≤ T.out.length + l.length ∧ (T.Fg v to l).b = T.b
 | [], _ => ⟨Nat.le_refl _, rfl⟩
 | i :: r, T => by
  obtain ⟨h1, h2⟩ := Na v to r (T.DQ v to i)
  have h3 := T.Nt v to i
  rw [Fg, List.length_cons]
  exact ⟨by omega, h2.trans (T.Vg v to i)⟩
theorem Wk (T : AG) (to : Int) (o : Order) (k : Nat) : (T.Pp to o k).out.length ≤ T.out.length + 10 ∧ (T.Pp to o k).b = T.b := by
 have hs := T.Y2 o
 obtain ⟨h1, h2⟩ := Na o.verb to ((T.J5 o).take k) (T.P9 o)
 have h3 := (RW (T := T) (o := o)).2.2
 have h4 : ((T.J5 o).take k).length ≤ (T.J5 o).length := (List.take_sublist ..).length_le
 unfold Pp
 exact ⟨by omega, h2.trans hs.2.1⟩
theorem Qa.ck {T : AG} {v to : Int} (h : Qa T v to) (hv : v = 10) : to < 6 := by
 rcases h with h | ⟨_, _, h, _⟩ | ⟨_, h, _⟩ <;> omega
theorem U0 {T X : AG} {o : Order} {p : Bool} (hX : X = (T.DG o).1) (hp : p = (T.DG o).2.2) (h : (!p) = true) : T.G7 o = X := by
 rw [hp] at h
 rw [hX]
 exact if_pos h
theorem SY {T X : AG} {o : Order} {to : Int} {p : Bool} (hX : X = (T.DG o).1) (ht : to = (T.DG o).2.1) (hp : p = (T.DG o).2.2) (h : (!p) = false) : T.G7 o = X.Wd to o ∧ 0 ≤ to ∧ to < 9 ∧ (o.verb = 8 ∨ o.verb = 9 ∨ o.verb = 10 → Qa X o.verb to) := by
 rw [hp] at h
 have h2 : (T.DG o).2.2 = true := by simpa using h
 rw [hX, ht]
 exact ⟨if_neg (by rw [h]; decide), (T.Oi o).1, (T.Oi o).2, fun hv => Vb hv h2⟩
/-! #### what a being does -/
theorem Fe {T : AG} {o : Order} (h : o.verb < 6) : T.act o = T.walk o.verb := by
 unfold act; rw [if_pos (decide_eq_true h)]
theorem Me (X : AH) (b : Int) (o : Order) : (Ff X b o).2.1.length ≤ 11 := by
 unfold Ff
 split
 ·exact Nat.zero_le _
 ·split
  ·exact Nat.zero_le _
  ·split
   ·exact Nat.zero_le _
   ·have := XW (⟨X, b, []⟩ : AG) o
    exact Nat.le_trans this (Nat.le_refl 11)
end AG
end Go.Ing
/- Engine: the same rules, said shorter. -/
namespace Go.Ing
open Go
section
variable {F : List (Nat × Value)} {v0 v1 v2 v3 v4 v5 v6 v7 v8 v9 v10 v11 : Value}
theorem Sub.t1 (k0 : Nat) (h0 : lk k0 F = some v0 := by rfl) : Sub F [(k0, v0)] := .cons h0 (.nil _)
theorem Sub.t2 (k0 k1 : Nat) (h0 : lk k0 F = some v0 := by rfl) (h1 : lk k1 F = some v1 := by rfl) : Sub F [(k0, v0), (k1, v1)] := .cons h0 (.cons h1 (.nil _))
theorem Sub.t3 (k0 k1 k2 : Nat) (h0 : lk k0 F = some v0 := by rfl) (h1 : lk k1 F = some v1 := by rfl) (h2 : lk k2 F = some v2 := by rfl) : Sub F [(k0, v0), (k1, v1), (k2, v2)] := .cons h0 (.cons h1 (.cons h2 (.nil _)))
theorem Sub.t4 (k0 k1 k2 k3 : Nat) (h0 : lk k0 F = some v0 := by rfl) (h1 : lk k1 F = some v1 := by rfl) (h2 : lk k2 F = some v2 := by rfl) (h3 : lk k3 F = some v3 := by rfl) : Sub F [(k0, v0), (k1, v1), (k2, v2), (k3, v3)] := .cons h0 (.cons h1 (.cons h2 (.cons h3 (.nil _))))
theorem Sub.t5 (k0 k1 k2 k3 k4 : Nat) (h0 : lk k0 F = some v0 := by rfl) (h1 : lk k1 F = some v1 := by rfl) (h2 : lk k2 F = some v2 := by rfl) (h3 : lk k3 F = some v3 := by rfl) (h4 : lk k4 F = some v4 := by rfl) : Sub F [(k0, v0), (k1, v1), (k2, v2), (k3, v3), (k4, v4)] := .cons h0 (.cons h1 (.cons h2 (.cons h3 (.cons h4 (.nil _)))))
theorem Sub.t6 (k0 k1 k2 k3 k4 k5 : Nat) (h0 : lk k0 F = some v0 := by rfl) (h1 : lk k1 F = some v1 := by rfl) (h2 : lk k2 F = some v2 := by rfl) (h3 : lk k3 F = some v3 := by rfl) (h4 : lk k4 F = some v4 := by rfl) (h5 : lk k5 F = some v5 := by rfl) : Sub F [(k0, v0), (k1, v1), (k2, v2), (k3, v3), (k4, v4), (k5, v5)] := .cons h0 (.cons h1 (.cons h2 (.cons h3 (.cons h4 (.cons h5 (.nil _))))))
theorem Sub.t7 (k0 k1 k2 k3 k4 k5 k6 : Nat) (h0 : lk k0 F = some v0 := by rfl) (h1 : lk k1 F = some v1 := by rfl) (h2 : lk k2 F = some v2 := by rfl) (h3 : lk k3 F = some v3 := by rfl) (h4 : lk k4 F = some v4 := by rfl) (h5 : lk k5 F = some v5 := by rfl) (h6 : lk k6 F = some v6 := by rfl) : Sub F [(k0, v0), (k1, v1), (k2, v2), (k3, v3), (k4, v4), (k5, v5), (k6, v6)] := .cons h0 (.cons h1 (.cons h2 (.cons h3 (.cons h4 (.cons h5 (.cons h6 (.nil _)))))))
theorem Sub.t8 (k0 k1 k2 k3 k4 k5 k6 k7 : Nat) (h0 : lk k0 F = some v0 := by rfl) (h1 : lk k1 F = some v1 := by rfl) (h2 : lk k2 F = some v2 := by rfl) (h3 : lk k3 F = some v3 := by rfl) (h4 : lk k4 F = some v4 := by rfl) (h5 : lk k5 F = some v5 := by rfl) (h6 : lk k6 F = some v6 := by rfl) (h7 : lk k7 F = some v7 := by rfl) : Sub F [(k0, v0), (k1, v1), (k2, v2), (k3, v3), (k4, v4), (k5, v5), (k6, v6), (k7, v7)] := .cons h0 (.cons h1 (.cons h2 (.cons h3 (.cons h4 (.cons h5 (.cons h6 (.cons h7 (.nil _))))))))
theorem Sub.t9 (k0 k1 k2 k3 k4 k5 k6 k7 k8 : Nat) (h0 : lk k0 F = some v0 := by rfl) (h1 : lk k1 F = some v1 := by rfl) (h2 : lk k2 F = some v2 := by rfl) (h3 : lk k3 F = some v3 := by rfl) (h4 : lk k4 F = some v4 := by rfl) (h5 : lk k5 F = some v5 := by rfl) (h6 : lk k6 F = some v6 := by rfl) (h7 : lk k7 F = some v7 := by rfl) (h8 : lk k8 F = some v8 := by rfl) : Sub F [(k0, v0), (k1, v1), (k2, v2), (k3, v3), (k4, v4), (k5, v5), (k6, v6), (k7, v7), (k8, v8)] := .cons h0 (.cons h1 (.cons h2 (.cons h3 (.cons h4 (.cons h5 (.cons h6 (.cons h7 (.cons h8 (.nil _)))))))))
theorem Sub.t10 (k0 k1 k2 k3 k4 k5 k6 k7 k8 k9 : Nat) (h0 : lk k0 F = some v0 := by rfl) (h1 : lk k1 F = some v1 := by rfl) (h2 : lk k2 F = some v2 := by rfl) (h3 : lk k3 F = some v3 := by rfl) (h4 : lk k4 F = some v4 := by rfl) (h5 : lk k5 F = some v5 := by rfl) (h6 : lk k6 F = some v6 := by rfl) (h7 : lk k7 F = some v7 := by rfl) (h8 : lk k8 F = some v8 := by rfl) (h9 : lk k9 F = some v9 := by rfl) : Sub F [(k0, v0), (k1, v1), (k2, v2), (k3, v3), (k4, v4), (k5, v5), (k6, v6), (k7, v7), (k8, v8), (k9, v9)] := .cons h0 (.cons h1 (.cons h2 (.cons h3 (.cons h4 (.cons h5 (.cons h6 (.cons h7 (.cons h8 (.cons h9 (.nil _))))))))))
theorem Sub.t11 (k0 k1 k2 k3 k4 k5 k6 k7 k8 k9 k10 : Nat) (h0 : lk k0 F = some v0 := by rfl) (h1 : lk k1 F = some v1 := by rfl) (h2 : lk k2 F = some v2 := by rfl) (h3 : lk k3 F = some v3 := by rfl) (h4 : lk k4 F = some v4 := by rfl) (h5 : lk k5 F = some v5 := by rfl) (h6 : lk k6 F = some v6 := by rfl) (h7 : lk k7 F = some v7 := by rfl) (h8 : lk k8 F = some v8 := by rfl) (h9 : lk k9 F = some v9 := by rfl) (h10 : lk k10 F = some v10 := by rfl) : Sub F [(k0, v0), (k1, v1), (k2, v2), (k3, v3), (k4, v4), (k5, v5), (k6, v6), (k7, v7), (k8, v8), (k9, v9), (k10, v10)] := .cons h0 (.cons h1 (.cons h2 (.cons h3 (.cons h4 (.cons h5 (.cons h6 (.cons h7 (.cons h8 (.cons h9 (.cons h10 (.nil _)))))))))))
end
section
variable {P : Program} {n : Nat} {w0 : World} {M : List Nat} {Q : Exit → Go.Act → World → Prop} {F F' : List (Nat × Value)} {L L' A K : List Ac} {ops : Array Oper} {rest l : List Oper} {d id : Nat} {op : Op} {T : TypeId} {pos : String} {Cg : Array Edge} {v v' : Value} {x y : Code}
theorem Gs (h : GL P n w0 M l.toArray (Exit.then (y.wp P Q) Q) l F L) : G P n w0 M (.seq (.region id l.toArray false) y) Q F L := Ao (AI h)
theorem CA {z : Code} (h : GL P n w0 M l.toArray (Exit.then (y.wp P (Exit.then (z.wp P Q) Q)) (Exit.then (z.wp P Q) Q)) l F L) : G P n w0 M (.seq (.seq (.region id l.toArray false) y) z) Q F L := Ao (Ao (AI h))
theorem Gn (hs : Sub F F') (h : G P n w0 M y Q F' L) : GL P n w0 M ops (Exit.then (y.wp P Q) Q) [] F L := AP (AB hs (AA h))
theorem Gt (h : PS P n w0 M op T F L v L') (k : GL P n w0 M ops Q rest ((d, v) :: F) L') (hd : Nat.blt d n = true := by rfl) : GL P n w0 M ops Q (⟨some d, op, T, pos, Cg, none⟩ :: rest) F L := JZ hd h k
theorem Gm {x : Operand} (h : ev F x = some v) (k : GL P n w0 M ops Q rest ((d, v) :: F) L) (hd : Nat.blt d n = true := by rfl) : GL P n w0 M ops Q (⟨some d, .move x, T, pos, Cg, none⟩ :: rest) F L := JZ hd (AE h) k
theorem Ga {x : Operand} (h : ev F x = some v) (k : GL P n w0 M ops Q rest ((d, v) :: F) L) (hd : Nat.blt d n = true := by rfl) : GL P n w0 M ops Q (⟨some d, .assign x, T, pos, Cg, none⟩ :: rest) F L := JZ hd (Az h) k
theorem BZ {j : Nat} {z : Bool} (t : Nat) (hj : (ops[j]?).bind (·.dst) = some t) (hb : lk t F = some (.bool z)) (h : z = true → PS P n w0 M op T F L v L) (k : GL P n w0 M ops Q rest ((d, cv z v) :: F) L) (hd : Nat.blt d n = true := by rfl) : GL P n w0 M ops Q (⟨some d, op, T, pos, Cg, some (j, true)⟩ :: rest) F L := X1 hj hb hd h k
theorem BW {j : Nat} {z : Bool} (t : Nat) (hj : (ops[j]?).bind (·.dst) = some t) (hb : lk t F = some (.bool z)) (h : z = false → PS P n w0 M op T F L v L) (k : GL P n w0 M ops Q rest ((d, cv (!z) v) :: F) L) (hd : Nat.blt d n = true := by rfl) : GL P n w0 M ops Q (⟨some d, op, T, pos, Cg, some (j, false)⟩ :: rest) F L := YI hj hb hd h k
theorem Gc {c : Operand} {b : Bool} (ht : b = true → G P n w0 M x Q F L) (hf : b = false → G P n w0 M y Q F L) (hc : ev F c = some (.bool b) := by rfl) : G P n w0 M (.cond c x y) Q F L := Nv hc ht hf
end
section
variable {P : Program} {n : Nat} {w0 : World} {M : List Nat} {Q : Exit → Go.Act → World → Prop} {l : List Oper} {Rs : List Nat} {F : List (Nat × Value)}
variable {k i j d : Nat} {V A : List Nat} {D : List (Nat × (Nat × Value))} {L : List Ac} {op : Op} {T : TypeId} {pos : String} {Cg : Array Edge} {v v' : Value}
theorem Pf (i : Nat) (ho : l[i]? = some ⟨some d, op, T, pos, Cg, none⟩) (h : PS P n w0 M op T (Ec D Cg.toList ++ F) L v L) (k' : Ih P n w0 M Q l Rs F k (i :: V) (i :: A) ((i, (d, v)) :: D) L) (hc : WR l V i Cg.toList = true := by kernel_rfl) (hlk : SE F d v := by first | exact .inl rfl | exact .inr rfl) : Ih P n w0 M Q l Rs F (k + 1) V A D L :=
 BX i ho rfl hc (Kx (IE h)) k' hlk
theorem HA {j : Nat} {y : Bool} (i t : Nat) (ho : l[i]? = some ⟨some d, op, T, pos, Cg, some (j, false)⟩) (hj : (l.toArray[j]?).bind (·.dst) = some t) (hb : lk t (Ec D Cg.toList ++ F) = some (.bool y)) (h : y = false → PS P n w0 M op T (Ec D Cg.toList ++ F) L v L) (k' : Ih P n w0 M Q l Rs F k (i :: V) (i :: A) ((i, (d, cv (!y) v)) :: D) L) (hc : WR l V i Cg.toList = true := by kernel_rfl) (hlk : SE F d (cv (!y) v) := by first | exact .inl rfl | exact .inr rfl) : Ih P n w0 M Q l Rs F (k + 1) V A D L :=
 BX i ho rfl hc (GU (t := t) hj hb (fun q => IE (h q))) k' hlk
theorem Lj {j : Nat} {y : Bool} (i t : Nat) (ho : l[i]? = some ⟨some d, op, T, pos, Cg, some (j, true)⟩) (hj : (l.toArray[j]?).bind (·.dst) = some t) (hb : lk t (Ec D Cg.toList ++ F) = some (.bool y)) (h : y = true → PS P n w0 M op T (Ec D Cg.toList ++ F) L v L) (k' : Ih P n w0 M Q l Rs F k (i :: V) (i :: A) ((i, (d, cv y v)) :: D) L) (hc : WR l V i Cg.toList = true := by kernel_rfl) (hlk : SE F d (cv y v) := by first | exact .inl rfl | exact .inr rfl) : Ih P n w0 M Q l Rs F (k + 1) V A D L :=
 BX i ho rfl hc (Q3 (t := t) hj hb (fun q => IE (h q))) k' hlk
theorem Pk (h : It P n w0 M Q l Rs F i D L A) (hr : reaches Rs i j = true := by kernel_rfl) : It P n w0 M Q l Rs F i D L (j :: A) := Tw hr h
theorem Po (ho : l[j]? = some ⟨some d, op, T, pos, Cg, none⟩) (h : PS P n w0 M op T (Ec D Cg.toList ++ F) L v' L) (hl : MN j D = some (d, v)) (e : v' = v) (k' : It P n w0 M Q l Rs F i D L A) : It P n w0 M Q l Rs F i D L (j :: A) := VT ho (Kx (IE h)) hl e k'
end
section
variable {P : Program} {n : Nat} {w0 : World} {M : List Nat} {F : List (Nat × Value)} {L : List Ac}
theorem cF {x : Operand} {c : Bool} {v : Value} (h : ev F x = some (cv (!c) v)) (q : c = false) : ev F x = some v := BV h (by rw [q]; rfl)
theorem Af {T U f off b o : Nat} {x : Operand} (hf : FA P T f off) (hx : ev F x = some (.pointer (some ⟨b, o, none⟩))) : PS P n w0 M (.fieldAddr T x f) U F L (.pointer (some ⟨b, o + off, none⟩)) L := P0 hf hx
theorem BS {T : TypeId} {x : Operand} {p : Addr} (hx : ev F x = some (.pointer (some p))) : PS P n w0 M (.nilCheck x) T F L (.pointer (some p)) L := Qz hx
end
theorem AS.ar {α : Type} {n : Nat} [Inhabited α] {e : α → List Value} {sz : Nat} (fe : Flat e sz) {i : Int} (h : 0 ≤ i ∧ i < (n : Int)) : AS (B7 (n := n) e) e (i.toNat * sz) sz (fun v => v.at i) (fun v y => v.put i y) := AS.arr fe h.1 h.2
class Nz (a : Prop) (b : outParam Prop) : Prop where
 h : a → b
theorem kz {a b : Prop} [i : Nz a b] (h : a) : b := i.h h
section
variable {p : Prop} [Decidable p] {a b : Bool} {x y : Prop} {m n : Int}
instance (priority := low) : Nz p p := ⟨id⟩
instance : Nz (decide p = true) p := ⟨of_decide_eq_true⟩
instance (priority := low) : Nz (decide p = false) (¬ p) := ⟨of_decide_eq_false⟩
instance : Nz (decide (m < n) = false) (n ≤ m) := ⟨fun h => Int.not_lt.1 (of_decide_eq_false h)⟩
instance : Nz (decide (m ≤ n) = false) (n < m) := ⟨fun h => Int.not_le.1 (of_decide_eq_false h)⟩
instance [i : Nz (a = false) x] : Nz ((!a) = true) x := ⟨fun h => i.h (by simpa using h)⟩
instance [i : Nz (a = true) x] : Nz ((!a) = false) x := ⟨fun h => i.h (by simpa using h)⟩
instance [i : Nz (a = true) x] [j : Nz (b = true) y] : Nz ((a && b) = true) (x ∧ y) := ⟨fun h => ⟨i.h (cX ▸ h).1, j.h (cX ▸ h).2⟩⟩
instance [i : Nz (a = false) x] [j : Nz (b = false) y] : Nz ((a || b) = false) (x ∧ y) := ⟨fun h => ⟨i.h (cR ▸ h).1, j.h (cR ▸ h).2⟩⟩
instance [i : Nz (a = true) x] [j : Nz (b = true) y] : Nz ((a || b) = true) (x ∨ y) := ⟨fun h => (cY ▸ h : a = true ∨ b = true).imp i.h j.h⟩
instance [i : Nz (a = false) x] [j : Nz (b = false) y] : Nz ((a && b) = false) (x ∨ y) := ⟨fun h => (cb ▸ h : a = false ∨ b = false).imp i.h j.h⟩
end
section
variable {F : List (Nat × Value)} {P : Program} {L L' K rs : List Ac} {r r' s : Ac} {x : Operand} {v : Value} {xs : List Operand} {vs : List Value}
theorem KV.h : KV (r :: L) r r' (r' :: L) := .head
theorem KV.t (h : KV L r r' L') : KV (s :: L) r r' (s :: L') := .tail h
theorem Ko.h : Ko (r :: L) r L := .head
theorem Ko.t (h : Ko L r L') : Ko (s :: L) r (s :: L') := .tail h
theorem Av.n : Av L [] L := .nil
theorem Av.c (h : Ko L r L') (hs : Av L' rs K) : Av L (r :: rs) K := .cons h hs
theorem Nk.n : Nk F [] [] := .nil
theorem Nk.c (h : ev F x = some v) (hs : Nk F xs vs) : Nk F (x :: xs) (v :: vs) := .cons h hs
theorem Rs.n : Rs P F L [] [] := .nil
end
section
variable {α : Type} {a b c d e f g h i j : α} {l : List α}
theorem _root_.List.Mem.m0 : List.Mem a (a :: l) := .head _
theorem _root_.List.Mem.m1 : List.Mem a (b :: a :: l) := .tail _ .m0
theorem _root_.List.Mem.m2 : List.Mem a (b :: c :: a :: l) := .tail _ .m1
theorem _root_.List.Mem.m3 : List.Mem a (b :: c :: d :: a :: l) := .tail _ .m2
theorem _root_.List.Mem.m4 : List.Mem a (b :: c :: d :: e :: a :: l) := .tail _ .m3
theorem _root_.List.Mem.m5 : List.Mem a (b :: c :: d :: e :: f :: a :: l) := .tail _ .m4
theorem _root_.List.Mem.m6 : List.Mem a (b :: c :: d :: e :: f :: g :: a :: l) := .tail _ .m5
theorem _root_.List.Mem.m7 : List.Mem a (b :: c :: d :: e :: f :: g :: h :: a :: l) := .tail _ .m6
end
end Go.Ing
/- A house's data, in Lean, and their parts. -/
namespace Go.Ing
open Go
structure A0 where
 state : Int
 A7 : Int
 EE : AN
 Dv : BC
 out : Ar
 told : Hd
instance : Inhabited A0 := ⟨⟨0, 0, default, ⟨[], false, false, ⟨none, 0, 0⟩⟩, ⟨⟨none, 0, 0⟩, 0, false, [], false⟩, ⟨none, 0, 0⟩⟩⟩
def A0.enc (x : A0) : List Value := Ax x.state ++ Ax x.A7 ++ AN.enc x.EE ++ BC.enc x.Dv ++ Ar.enc x.out ++ EL x.told
theorem A0.fl : Flat A0.enc 22 := ⟨fun x => by simp [A0.enc, BC.fl.len, Ar.fl.len, AN.fl.len, OL.len, By.len], fun x v hv => by
 simp only [A0.enc, List.mem_append] at hv
 rcases hv with ((((h | h) | h) | h) | h) | h
 ·exact By.one _ v h
 ·exact By.one _ v h
 ·exact AN.fl.one _ v h
 ·exact BC.fl.one _ v h
 ·exact Ar.fl.one _ v h
 ·exact OL.one _ v h⟩
theorem A0.l0 : AS A0.enc (Ax) 0 1 (fun x => x.state) (fun x y => { x with state := y }) :=
 AS.EM By (fun _ => []) (fun x => Ax x.A7 ++ AN.enc x.EE ++ BC.enc x.Dv ++ Ar.enc x.out ++ EL x.told) (fun _ => rfl) (fun x => by simp [A0.enc]) (fun x y => by simp [A0.enc])
theorem A0.l1 : AS A0.enc (Ax) 1 1 (fun x => x.A7) (fun x y => { x with A7 := y }) :=
 AS.EM By (fun x => Ax x.state) (fun x => AN.enc x.EE ++ BC.enc x.Dv ++ Ar.enc x.out ++ EL x.told) (fun x => by simp [By.len]) (fun x => by simp [A0.enc]) (fun x y => by simp [A0.enc])
theorem A0.l2 : AS A0.enc (AN.enc) 2 10 (fun x => x.EE) (fun x y => { x with EE := y }) :=
 AS.EM AN.fl (fun x => Ax x.state ++ Ax x.A7) (fun x => BC.enc x.Dv ++ Ar.enc x.out ++ EL x.told) (fun x => by simp [By.len]) (fun x => by simp [A0.enc]) (fun x y => by simp [A0.enc])
theorem A0.l3 : AS A0.enc (BC.enc) 12 4 (fun x => x.Dv) (fun x y => { x with Dv := y }) :=
 AS.EM BC.fl (fun x => Ax x.state ++ Ax x.A7 ++ AN.enc x.EE) (fun x => Ar.enc x.out ++ EL x.told) (fun x => by simp [AN.fl.len, By.len]) (fun x => by simp [A0.enc]) (fun x y => by simp [A0.enc])
theorem A0.l4 : AS A0.enc (Ar.enc) 16 5 (fun x => x.out) (fun x y => { x with out := y }) :=
 AS.EM Ar.fl (fun x => Ax x.state ++ Ax x.A7 ++ AN.enc x.EE ++ BC.enc x.Dv) (fun x => EL x.told) (fun x => by simp [BC.fl.len, AN.fl.len, By.len]) (fun x => by simp [A0.enc]) (fun x y => by simp [A0.enc])
theorem A0.l5 : AS A0.enc (EL) 21 1 (fun x => x.told) (fun x y => { x with told := y }) :=
 AS.EM OL (fun x => Ax x.state ++ Ax x.A7 ++ AN.enc x.EE ++ BC.enc x.Dv ++ Ar.enc x.out) (fun _ => []) (fun x => by simp [BC.fl.len, Ar.fl.len, AN.fl.len, By.len]) (fun x => by simp [A0.enc]) (fun x y => by simp [A0.enc])
structure AJ where
 w : AH
 Ap : OK A0 4
 Ce : Int
 last : Hd
def AJ.enc (x : AJ) : List Value := AH.enc x.w ++ B7 A0.enc x.Ap ++ Ax x.Ce ++ EL x.last
theorem AJ.fl : Flat AJ.enc 255 := ⟨fun x => by simp [AJ.enc, (JA A0.fl).len, AH.fl.len, OL.len, By.len], fun x v hv => by
 simp only [AJ.enc, List.mem_append] at hv
 rcases hv with ((h | h) | h) | h
 ·exact AH.fl.one _ v h
 ·exact (JA A0.fl).one _ v h
 ·exact By.one _ v h
 ·exact OL.one _ v h⟩
theorem AJ.l0 : AS AJ.enc (AH.enc) 0 165 (fun x => x.w) (fun x y => { x with w := y }) :=
 AS.EM AH.fl (fun _ => []) (fun x => B7 A0.enc x.Ap ++ Ax x.Ce ++ EL x.last) (fun _ => rfl) (fun x => by simp [AJ.enc]) (fun x y => by simp [AJ.enc])
theorem AJ.l1 : AS AJ.enc (B7 A0.enc) 165 88 (fun x => x.Ap) (fun x y => { x with Ap := y }) :=
 AS.EM (JA A0.fl) (fun x => AH.enc x.w) (fun x => Ax x.Ce ++ EL x.last) (fun x => by simp [AH.fl.len]) (fun x => by simp [AJ.enc]) (fun x y => by simp [AJ.enc])
theorem AJ.l2 : AS AJ.enc (Ax) 253 1 (fun x => x.Ce) (fun x y => { x with Ce := y }) :=
 AS.EM By (fun x => AH.enc x.w ++ B7 A0.enc x.Ap) (fun x => EL x.last) (fun x => by simp [(JA A0.fl).len, AH.fl.len]) (fun x => by simp [AJ.enc]) (fun x y => by simp [AJ.enc])
theorem AJ.l3 : AS AJ.enc (EL) 254 1 (fun x => x.last) (fun x y => { x with last := y }) :=
 AS.EM OL (fun x => AH.enc x.w ++ B7 A0.enc x.Ap ++ Ax x.Ce) (fun _ => []) (fun x => by simp [(JA A0.fl).len, AH.fl.len, By.len]) (fun x => by simp [AJ.enc]) (fun x y => by simp [AJ.enc])
end Go.Ing
/- What a house does: plain functions. -/
namespace Go.Ing
open Go
structure BA where
 state : Int
 A7 : Int
 EE : AN
 now : As
 Cc : Bool
 ret : Bool
 queue : List As
 pg : Page.Pg
 wait : List As
 told : List As
instance : Inhabited BA := ⟨⟨0, 0, default, [], false, false, [], ⟨0, false, [], false⟩, [], []⟩⟩
structure AL where
 w : AH
 Ap : Vector BA 4
 Ce : Int
 last : List Event
namespace BA
def NF (s : BA) : Bool := decide ((s.wait.length : Int) ≤ 60) && decide ((s.pg.ring.length : Int) ≤ 700) && decide (0 ≤ s.pg.shown) && decide (s.pg.shown ≤ 200)
def line (s : BA) (u : As) : BA :=
 if (!s.NF) = true then s else if s.pg.cut = true then s
 else if decide (60 ≤ (s.wait.length : Int)) = true then { s with pg := { s.pg with cut := true } } else { s with wait := s.wait ++ [u] }
def note (s : BA) (u : As) : BA := if (!s.pg.cut) = true then { s with told := s.told ++ [u] } else s
def tell (s : BA) (u : As) : BA := (s.line u).note u
def send (s : BA) (u : As) : BA := if (!s.NF) = true then s else if s.pg.cut = true then s else { s with pg := Page.put s.pg u }
def B2 (s : BA) : BA :=
 if (!s.NF || decide (s.EE.CX < 0) || decide (200 < s.EE.CX)) = true then s
 else { s with pg := (Page.B2 s.EE.CX s.wait s.pg).1, wait := (Page.B2 s.EE.CX s.wait s.pg).2 }
def FR (s : BA) : BA := { s with pg := { s.pg with shown := 0, B4 := false } }
def ZJ (s : BA) (n : Int) : Nat := (max 0 (min n (s.pg.ring.length : Int))).toNat
def Lu (s : BA) (n : Int) : BA := { s with pg := { s.pg with ring := s.pg.ring.drop (s.ZJ n) } }
def out (s : BA) (n : Int) : As := s.pg.ring.take (s.ZJ n)
def KZ (s : BA) : Bool :=
 !(decide (60 < (s.now.length : Int)) || decide (6 < (s.queue.length : Int)) || (s.Cc && decide (60 < (s.now.length : Int))) || (s.ret && (!decide (s.now = []) || s.Cc))) && (s.queue ++ [s.now]).all Bc.FZ
def typed (s : BA) (u : As) : BA × Int :=
 if (!s.KZ) = true then (s, 0)
 else
  let x := Bc.feed ⟨s.now, s.Cc, s.ret, s.queue, 0⟩ u
  ({ s with now := x.now, Cc := x.Cc, ret := x.ret, queue := x.queue }, x.lost)
def bytes (s : BA) (u : As) : BA × As := ({ s with EE := (s.EE.DN u).1 }.send (s.EE.DN u).2.2.1, (s.EE.DN u).2.1)
def offer (s : BA) (opt : Int) : BA :=
 if decide ((s.EE.C8 opt).2.1 = []) = true then { s with EE := ((s.EE.C8 opt).1.Ask opt).1 }.send ([] ++ ((s.EE.C8 opt).1.Ask opt).2.1)
 else { s with EE := (s.EE.C8 opt).1 }.send ((s.EE.C8 opt).2.1 ++ [])
end BA
namespace AL
def at_ (H : AL) (k : Int) : BA := H.Ap.at k
def set (H : AL) (k : Int) (s : BA) : AL := { H with Ap := H.Ap.put k s }
def tell (H : AL) (k : Int) (u : As) : AL := H.set k ((H.at_ k).tell u)
def Cl (e : Event) (H : AL) : Nat → AL
 | 0 => H
 | k + 1 => if (!decide (((Cl e H k).at_ k).state = 2)) = true then Cl e H k else if (AH.tell e ((Cl e H k).at_ k).A7).2 = true then (Cl e H k).tell k (AH.tell e ((Cl e H k).at_ k).A7).1 else Cl e H k
def Ik (H : AL) (l : List Event) : AL := l.foldl (fun X e => Cl e X 4) H
def HH (H : AL) (l : List Event) : AL := { H with last := H.last ++ l }.Ik l
def FX : Order := { (default : Order) with verb := 20 }
def Sg (H : AL) (k : Int) : AL := { H with w := (AG.Ff H.w (H.at_ k).A7 FX).1 }
def leave (H : AL) (k : Int) : AL :=
 (if (decide ((H.at_ k).state = 2) && (H.w.AW.at (H.at_ k).A7).here) = true then ((H.Sg k).set k default).HH (AG.Ff H.w (H.at_ k).A7 FX).2.1 else H).set k default
def DT (H : AL) : Nat → AL × Bool
 | 0 => (H, false)
 | k + 1 =>
  if decide (((DT H k).1.at_ k).state = 0) = true then DT H k
  else if (((DT H k).1.at_ k).B2).pg.cut = true then (((DT H k).1.set k (((DT H k).1.at_ k).B2)).leave k, true)
  else ((DT H k).1.set k (((DT H k).1.at_ k).B2), (DT H k).2)
def Io (H : AL) : Nat → AL
 | 0 => H
 | n + 1 => if (!(H.DT 4).2) = true then (H.DT 4).1 else (H.DT 4).1.Io n
def B2 (H : AL) : AL := H.Io 5
def Hh : As := [87, 104, 111, 32, 97, 114, 101, 32, 121, 111, 117, 63]
def QV : As := [78, 111, 116, 32, 115, 111, 32, 102, 97, 115, 116, 46]
def Yl : As := [87, 104, 97, 116, 63]
def QI : As := [84, 104, 97, 116, 32, 105, 115, 32, 110, 111, 32, 110, 97, 109, 101, 46]
def noRoom : As := [84, 104, 101, 114, 101, 32, 105, 115, 32, 110, 111, 32, 114, 111, 111, 109, 46]
def RR (H : AL) (k : Int) : AL := ((H.set k ((({ (default : BA) with state := 1, A7 := -1 }).offer 3).offer 31)).tell k Hh).B2
def named (H : AL) (k : Int) (u : As) : AL :=
 if decide ((AG.Bg H.w u).2.2.2 = 0) = true then ({ H with w := (AG.Bg H.w u).1 }.set k { H.at_ k with state := 2, A7 := (AG.Bg H.w u).2.1 }).HH (AG.Bg H.w u).2.2.1
 else if decide ((AG.Bg H.w u).2.2.2 = 4) = true then H.tell k noRoom
 else H.tell k QI
def order (H : AL) (k : Int) (u : As) : AL :=
 if (!decide ((Words.parse u).2 = 0)) = true then H.tell k Yl
 else if decide ((Words.parse u).1.verb = 20) = true then H.leave k
 else { H with w := (AG.Ff H.w (H.at_ k).A7 (Words.parse u).1).1 }.HH (AG.Ff H.w (H.at_ k).A7 (Words.parse u).1).2.1
def EN (H : AL) (k : Int) : AL :=
 if decide ((H.at_ k).state = 0) = true then H
 else match (H.at_ k).queue with
  | [] => H
  | q :: r =>
   let H1 := H.set k { H.at_ k with queue := r }.FR
   if (H.at_ k).pg.B4 = true then H1
   else if decide ((H.at_ k).state = 1) = true then H1.named k (Words.O6 32 (Words.Q4 32 q))
   else H1.order k q
def turns (H : AL) : Nat → AL
 | 0 => H
 | k + 1 => (turns H k).EN k
def Oj (H : AL) (d : Int) : AL :=
 let X := H.turns 4
 ({ X with w := (AG.Ch X.w d).1 }.HH (AG.Ch X.w d).2.1).B2
def EJ (H : AL) : Nat → AL
 | 0 => H
 | k + 1 => (EJ H k).set k { (EJ H k).at_ k with told := [] }
def begun (H : AL) : AL := { H with Ce := H.Ce + 1, last := [] }.EJ 4
def ok : Be := ⟨0, []⟩
def byte (H : AL) (k : Int) (u : As) : AL :=
 let s1 := (H.at_ k).bytes u
 let s2 := s1.1.typed s1.2
 ((if decide (0 < s2.2) = true then (H.set k s2.1).tell k QV else H.set k s2.1)).B2
def Eh (X : AL) (a : Bq) : AL × Be :=
 if decide (a.kind = 5) = true then (X.Oj a.n, ok)
 else if (decide (a.kind < 1) || decide (5 < a.kind)) = true then (X, ⟨5, []⟩)
 else if (decide (a.BL < 0) || decide (4 ≤ a.BL)) = true then (X, ⟨2, []⟩)
 else if (decide ((X.at_ a.BL).state = 0) != decide (a.kind = 1)) = true then (X, ⟨3, []⟩)
 else if decide (a.kind = 1) = true then (X.RR a.BL, ok)
 else if decide (a.kind = 2) = true then (X.byte a.BL a.bytes, ok)
 else if decide (a.kind = 3) = true then ((X.set a.BL ((X.at_ a.BL).Lu a.n)).B2, ⟨0, (X.at_ a.BL).out a.n⟩)
 else ((X.leave a.BL).B2, ok)
def act (H : AL) (a : Bq) : AL × Be := if decide (400 ≤ H.Ce) = true then (H, ⟨4, []⟩) else H.begun.Eh a
def new : AL := ⟨AH.new, Vector.replicate 4 default, 0, []⟩
def run : AL → List Bq → AL × List Be
 | H, [] => (H, [])
 | H, a :: l => ((run (H.act a).1 l).1, (H.act a).2 :: (run (H.act a).1 l).2)
end AL
end Go.Ing
/- Engine: several slices together; a seat of a house. -/
namespace Go.Ing
open Go
def Ac.DY (l : List Ac) : Ac where
 CN := l.flatMap Ac.CN
 ok w := (∀ r ∈ l, r.ok w) ∧ l.Pairwise fun r s => ∀ b : Nat, b ∈ r.CN → b ∉ s.CN
 loc w w' h hw := ⟨fun r hr => r.loc w w' (fun b hb => h b (List.mem_flatMap.2 ⟨r, hr, hb⟩)) (hw.1 r hr), hw.2⟩
section
variable {w0 w : World} {M : List Nat} {l L : List Ac}
theorem St.X6 (h : St w0 M w (Ac.DY l :: L)) : St w0 M w (l ++ L) := by
 have hm : ∀ r ∈ l, ∀ b ∈ r.CN, b ∈ (Ac.DY l).CN := fun r hr b hb => List.mem_flatMap.2 ⟨r, hr, hb⟩
 have hf := h.ok (Ac.DY l) (List.mem_cons_self ..)
 refine ⟨h.os, h.tape, h.output, h.size, h.Gv, fun r hr => ?_, fun r hr => ?_, List.pairwise_append.2 ⟨hf.2, (List.pairwise_cons.1 h.IL).2, fun r hr s hs b hb => (List.pairwise_cons.1 h.IL).1 s hs b (hm r hr b hb)⟩⟩
 ·rcases List.mem_append.1 hr with hr | hr
  ·exact hf.1 r hr
  ·exact h.ok r (List.mem_cons_of_mem _ hr)
 ·rcases List.mem_append.1 hr with hr | hr
  ·exact fun b hb => h.CN _ (List.mem_cons_self ..) b (hm r hr b hb)
  ·exact h.CN r (List.mem_cons_of_mem _ hr)
theorem St.YD (h : St w0 M w (l ++ L)) : St w0 M w (Ac.DY l :: L) := by
 have hd := List.pairwise_append.1 h.IL
 refine ⟨h.os, h.tape, h.output, h.size, h.Gv, fun r hr => ?_, fun r hr => ?_, List.pairwise_cons.2 ⟨fun s hs b hb => ?_, hd.2.1⟩⟩
 ·rcases List.mem_cons.1 hr with rfl | hr
  ·exact ⟨fun r hr => h.ok r (List.mem_append_left _ hr), hd.1⟩
  ·exact h.ok r (List.mem_append_right _ hr)
 ·rcases List.mem_cons.1 hr with rfl | hr
  ·intro b hb
   obtain ⟨r, hr, hb'⟩ := List.mem_flatMap.1 hb
   exact h.CN r (List.mem_append_left _ hr) b hb'
  ·exact h.CN r (List.mem_append_right _ hr)
 ·obtain ⟨r, hr, hb'⟩ := List.mem_flatMap.1 hb
  exact hd.2.2 r hr s hs b hb'
end
structure BE where
 queue : List As
 wait : List As
 told : List As
 deriving Inhabited
def FH (T : Nat) (v : A0) (l : BE) : List Ac := [Ac.own v.Dv.queue T 1 (l.queue.flatMap A4), Ac.own v.out.wait T 1 (l.wait.flatMap A4), Ac.own v.told T 1 (l.told.flatMap A4)]
def B6 (T : Nat) (vs : Vector A0 4) (ls : Vector BE 4) : List Ac := FH T (vs.at 0) (ls.at 0) ++ (FH T (vs.at 1) (ls.at 1) ++ (FH T (vs.at 2) (ls.at 2) ++ FH T (vs.at 3) (ls.at 3)))
def GF (T : Nat) (k : Int) (vs : Vector A0 4) (ls : Vector BE 4) : List Ac :=
 if k = 0 then FH T (vs.at 1) (ls.at 1) ++ (FH T (vs.at 2) (ls.at 2) ++ FH T (vs.at 3) (ls.at 3))
 else if k = 1 then FH T (vs.at 0) (ls.at 0) ++ (FH T (vs.at 2) (ls.at 2) ++ FH T (vs.at 3) (ls.at 3))
 else if k = 2 then FH T (vs.at 0) (ls.at 0) ++ (FH T (vs.at 1) (ls.at 1) ++ FH T (vs.at 3) (ls.at 3))
 else FH T (vs.at 0) (ls.at 0) ++ (FH T (vs.at 1) (ls.at 1) ++ FH T (vs.at 2) (ls.at 2))
theorem IX {α : Type} (a b c : List α) : (a ++ (b ++ c)).Perm (b ++ (a ++ c)) := by
 rw [← List.append_assoc, ← List.append_assoc]
 exact List.perm_append_comm.append_right c
theorem four {k : Int} (h0 : 0 ≤ k) (h1 : k < 4) : k = 0 ∨ k = 1 ∨ k = 2 ∨ k = 3 := by omega
theorem Ow (T : Nat) {k : Int} (h0 : 0 ≤ k) (h1 : k < 4) (vs : Vector A0 4) (ls : Vector BE 4) : (B6 T vs ls).Perm (FH T (vs.at k) (ls.at k) ++ GF T k vs ls) := by
 unfold B6 GF
 rcases four h0 h1 with e | e | e | e <;> subst e
 ·exact .refl _
 ·exact IX _ _ _
 ·exact ((IX _ _ _).append_left _).trans (IX _ _ _)
 ·exact (((List.perm_append_comm).append_left _).append_left _).trans (((IX _ _ _).append_left _).trans (IX _ _ _))
theorem UJ (T : Nat) {k : Int} (h0 : 0 ≤ k) (h1 : k < 4) (vs : Vector A0 4) (ls : Vector BE 4) (v : A0) (l : BE) : GF T k (vs.put k v) (ls.put k l) = GF T k vs ls := by
 have hv : ∀ i : Int, 0 ≤ i → i ≠ k → (vs.put k v).at i = vs.at i := fun i hi hn => Vector.E1 h0 h1 hi hn
 have hl : ∀ i : Int, 0 ≤ i → i ≠ k → (ls.put k l).at i = ls.at i := fun i hi hn => Vector.E1 h0 h1 hi hn
 unfold GF
 rcases four h0 h1 with e | e | e | e <;> subst e
 ·rw [if_pos rfl, if_pos rfl, hv 1 (by decide) (by decide), hv 2 (by decide) (by decide), hv 3 (by decide) (by decide), hl 1 (by decide) (by decide), hl 2 (by decide) (by decide), hl 3 (by decide) (by decide)]
 ·rw [if_neg (by decide), if_pos rfl, if_neg (by decide), if_pos rfl, hv 0 (by decide) (by decide), hv 2 (by decide) (by decide), hv 3 (by decide) (by decide), hl 0 (by decide) (by decide), hl 2 (by decide) (by decide), hl 3 (by decide) (by decide)]
 ·rw [if_neg (by decide), if_neg (by decide), if_pos rfl, if_neg (by decide), if_neg (by decide), if_pos rfl, hv 0 (by decide) (by decide), hv 1 (by decide) (by decide), hv 3 (by decide) (by decide), hl 0 (by decide) (by decide), hl 1 (by decide) (by decide), hl 3 (by decide) (by decide)]
 ·rw [if_neg (by decide), if_neg (by decide), if_neg (by decide), if_neg (by decide), if_neg (by decide), if_neg (by decide), hv 0 (by decide) (by decide), hv 1 (by decide) (by decide), hv 2 (by decide) (by decide), hl 0 (by decide) (by decide), hl 1 (by decide) (by decide), hl 2 (by decide) (by decide)]
def AJ.BL (V : AJ) (k : Int) (s : A0) : AJ := { V with Ap := V.Ap.put k s }
def I9 (V : AJ) (k : Int) (s : A0) : List Value := (V.BL k s).enc
theorem AS.BL (V : AJ) {k : Int} (h0 : 0 ≤ k) (h1 : k < 4) : AS (I9 V k) A0.enc (165 + k.toNat * 22) 22 (fun s => s) (fun _ y => y) := by
 have hl := AJ.l1.comp (AS.arr (n := 4) A0.fl h0 h1)
 refine ⟨fun x => ?_, hl.len, fun x => hl.Ts _, fun x y => ?_, hl.one⟩
 ·have := hl.get (V.BL k x)
  rw [show ((V.BL k x).Ap.at k) = x from Vector.CM h0 h1] at this
  exact this
 ·have := hl.set (V.BL k x) y
  rw [show ({ V.BL k x with Ap := (V.BL k x).Ap.put k y } : AJ) = V.BL k y from by unfold AJ.BL; rw [Vector.ER]] at this
  exact this
theorem Vector.LP {α : Type} [Inhabited α] {n : Nat} (v : Vector α n) {k : Int} (h0 : 0 ≤ k) (h1 : k < n) : v.put k (v.at k) = v := by
 apply TE
 intro i i0 i1
 by_cases e : i = k
 ·subst e; rw [Vector.CM h0 h1]
 ·rw [Vector.E1 h0 h1 i0 e]
theorem AJ.Jg (V : AJ) {k : Int} (h0 : 0 ≤ k) (h1 : k < 4) : V.BL k (V.Ap.at k) = V := by
 unfold AJ.BL; rw [Vector.LP _ h0 h1]
def Ci (v : A0) (l : BE) : BA := ⟨v.state, v.A7, v.EE, v.Dv.now, v.Dv.Cc, v.Dv.ret, l.queue, Page.of v.out, l.wait, l.told⟩
def A3 (V : AJ) (ls : Vector BE 4) (ev : List Event) : AL := ⟨V.w, Vector.ofFn fun i => Ci (V.Ap.at ((i : Nat) : Int)) (ls.at ((i : Nat) : Int)), V.Ce, ev⟩
theorem Ca (V : AJ) (ls : Vector BE 4) (ev : List Event) {k : Int} (h0 : 0 ≤ k) (h1 : k < 4) : (A3 V ls ev).at_ k = Ci (V.Ap.at k) (ls.at k) := by
 rcases four h0 h1 with e | e | e | e <;> subst e <;> rfl
theorem Ht (V : AJ) (ls : Vector BE 4) (ev : List Event) {k : Int} (h0 : 0 ≤ k) (h1 : k < 4) (v : A0) (l : BE) : A3 (V.BL k v) (ls.put k l) ev = (A3 V ls ev).set k (Ci v l) := by
 unfold A3 AL.set AJ.BL
 congr 1
 apply TE
 intro i i0 i1
 have hof : ∀ (f : Fin 4 → BA), (Vector.ofFn f).at i = f ⟨i.toNat, by omega⟩ := fun f => by
  rcases four i0 i1 with e | e | e | e <;> subst e <;> rfl
 rw [hof]
 have hi : ((i.toNat : Nat) : Int) = i := by omega
 by_cases e : i = k
 ·subst e
  rw [Vector.CM h0 h1]
  show Ci ((V.Ap.put i v).at ((i.toNat : Nat) : Int)) ((ls.put i l).at ((i.toNat : Nat) : Int)) = _
  rw [hi, Vector.CM h0 h1, Vector.CM h0 h1]
 ·rw [Vector.E1 h0 h1 i0 e, hof]
  show Ci ((V.Ap.put k v).at ((i.toNat : Nat) : Int)) ((ls.put k l).at ((i.toNat : Nat) : Int)) = Ci (V.Ap.at ((i.toNat : Nat) : Int)) (ls.at ((i.toNat : Nat) : Int))
  rw [hi, Vector.E1 h0 h1 i0 e, Vector.E1 h0 h1 i0 e]
section
variable {P : Program} {n : Nat} {w0 w : World} {M : List Nat} {Q : Exit → Go.Act → World → Prop} {F : List (Nat × Value)} {L K : List Ac} {cd : Code} {b T TS : Nat} {V : AJ} {ls : Vector BE 4} {k : Int}
theorem St.aW (h0 : 0 ≤ k) (h1 : k < 4) (h : St w0 M w (Ac.box b T V.enc :: Ac.DY (B6 TS V.Ap ls) :: K)) :
  St w0 M w (Ac.own (V.Ap.at k).Dv.queue TS 1 ((ls.at k).queue.flatMap A4) :: Ac.own (V.Ap.at k).out.wait TS 1 ((ls.at k).wait.flatMap A4) :: Ac.own (V.Ap.at k).told TS 1 ((ls.at k).told.flatMap A4) :: Ac.box b T (I9 V k (V.Ap.at k)) :: Ac.DY (GF TS k V.Ap ls) :: K) := by
 have h2 : St w0 M w (B6 TS V.Ap ls ++ (Ac.box b T V.enc :: K)) := (h.perm (List.Perm.swap ..)).X6
 have h3 := h2.perm ((Ow TS h0 h1 V.Ap ls).append_right _)
 have h4 : St w0 M w (GF TS k V.Ap ls ++ (FH TS (V.Ap.at k) (ls.at k) ++ (Ac.box b T V.enc :: K))) := by
  refine h3.perm ?_
  rw [List.append_assoc]
  exact IX _ _ _
 have h5 := h4.YD
 unfold I9
 rw [V.Jg h0 h1]
 refine h5.perm ?_
 exact (IX [Ac.DY (GF TS k V.Ap ls)] (FH TS (V.Ap.at k) (ls.at k) ++ [Ac.box b T V.enc]) K).trans (.of_eq (by simp [FH]))
theorem St.close' (h0 : 0 ≤ k) (h1 : k < 4) {s : A0} {qs ws ts : List As} {q w' t : Hd} (hq : s.Dv.queue = q) (hw : s.out.wait = w') (ht : s.told = t)
  (h : St w0 M w (Ac.own q TS 1 (qs.flatMap A4) :: Ac.own w' TS 1 (ws.flatMap A4) :: Ac.own t TS 1 (ts.flatMap A4) :: Ac.box b T (I9 V k s) :: Ac.DY (GF TS k V.Ap ls) :: K)) :
  St w0 M w (Ac.box b T (V.BL k s).enc :: Ac.DY (B6 TS (V.BL k s).Ap (ls.put k ⟨qs, ws, ts⟩)) :: K) := by
 subst hq hw ht
 have e1 : (V.BL k s).Ap.at k = s := Vector.CM h0 h1
 have e2 : (ls.put k ⟨qs, ws, ts⟩).at k = ⟨qs, ws, ts⟩ := Vector.CM h0 h1
 have hp := Ow TS h0 h1 (V.BL k s).Ap (ls.put k ⟨qs, ws, ts⟩)
 rw [e1, e2, show GF TS k (V.BL k s).Ap (ls.put k ⟨qs, ws, ts⟩) = GF TS k V.Ap ls from UJ TS h0 h1 _ _ _ _] at hp
 have h2 : St w0 M w (Ac.DY (GF TS k V.Ap ls) :: (FH TS s ⟨qs, ws, ts⟩ ++ (Ac.box b T (V.BL k s).enc :: K))) :=
  h.perm ((IX [Ac.DY (GF TS k V.Ap ls)] (FH TS s ⟨qs, ws, ts⟩ ++ [Ac.box b T (V.BL k s).enc]) K).symm.trans (.of_eq (by simp [FH]))|>.symm.symm)
 have h3 := h2.X6
 have h4 : St w0 M w ((FH TS s ⟨qs, ws, ts⟩ ++ GF TS k V.Ap ls) ++ (Ac.box b T (V.BL k s).enc :: K)) := h3.perm (by rw [List.append_assoc]; exact IX _ _ _)
 have h5 := (h4.perm (hp.symm.append_right _)).YD
 exact h5.perm (List.Perm.swap ..)
theorem Er (h0 : 0 ≤ k) (h1 : k < 4) (h : ∀ s l, V.Ap.at k = s → ls.at k = l → (s.Dv.queue.len = l.queue.length ∧ s.out.wait.len = l.wait.length ∧ s.told.len = l.told.length) → G P n w0 M cd Q F (Ac.own s.Dv.queue TS 1 (l.queue.flatMap A4) :: Ac.own s.out.wait TS 1 (l.wait.flatMap A4) :: Ac.own s.told TS 1 (l.told.flatMap A4) :: Ac.box b T (I9 V k s) :: Ac.DY (GF TS k V.Ap ls) :: K)) :
  G P n w0 M cd Q F (Ac.box b T V.enc :: Ac.DY (B6 TS V.Ap ls) :: K) := fun a w hF hS =>
 have hO := hS.aW h0 h1
 h _ _ rfl rfl ⟨(Kn.own (.head _) w hO).J1 DD (by decide), (Kn.own (.tail _ (.head _)) w hO).J1 DD (by decide), (Kn.own (.tail _ (.tail _ (.head _))) w hO).J1 DD (by decide)⟩ a w hF hO
theorem GZ (h0 : 0 ≤ k) (h1 : k < 4) {s : A0} {qs ws ts : List As} {q w' t : Hd} (hq : s.Dv.queue = q) (hw : s.out.wait = w') (ht : s.told = t) (h : G P n w0 M cd Q F (Ac.box b T (V.BL k s).enc :: Ac.DY (B6 TS (V.BL k s).Ap (ls.put k ⟨qs, ws, ts⟩)) :: K)) :
  G P n w0 M cd Q F (Ac.own q TS 1 (qs.flatMap A4) :: Ac.own w' TS 1 (ws.flatMap A4) :: Ac.own t TS 1 (ts.flatMap A4) :: Ac.box b T (I9 V k s) :: Ac.DY (GF TS k V.Ap ls) :: K) := fun a w hF hS => h a w hF (hS.close' h0 h1 hq hw ht)
theorem RK {x : Exit} (h0 : 0 ≤ k) (h1 : k < 4) {s : A0} {qs ws ts : List As} {q w' t : Hd} (hq : s.Dv.queue = q) (hw : s.out.wait = w') (ht : s.told = t) (h : GQ n w0 M Q x F (Ac.box b T (V.BL k s).enc :: Ac.DY (B6 TS (V.BL k s).Ap (ls.put k ⟨qs, ws, ts⟩)) :: K)) :
  GQ n w0 M Q x F (Ac.own q TS 1 (qs.flatMap A4) :: Ac.own w' TS 1 (ws.flatMap A4) :: Ac.own t TS 1 (ts.flatMap A4) :: Ac.box b T (I9 V k s) :: Ac.DY (GF TS k V.Ap ls) :: K) := fun a w hF hS => h a w hF (hS.close' h0 h1 hq hw ht)
end
theorem ET {V : AJ} {ls : Vector BE 4} {ev : List Event} {k : Int} (h0 : 0 ≤ k) (h1 : k < 4) {s v : A0} {l l' : BE} (hs : V.Ap.at k = s) (hl : ls.at k = l) {f : BA → BA} (e : Ci v l' = f (Ci s l)) : A3 (V.BL k v) (ls.put k l') ev = (A3 V ls ev).set k (f ((A3 V ls ev).at_ k)) := by
 rw [Ht V ls ev h0 h1, Ca V ls ev h0 h1, hs, hl, e]
theorem IJ {v : A0} {l : BE} (h : v.out.wait.len = l.wait.length) : (Ci v l).NF = Page.Bs v.out := by
 unfold BA.NF Page.Bs
 rw [h]; rfl
end Go.Ing
/- A house: plain laws for the walks. -/
namespace Go.Ing
open Go
theorem Wq {v : A0} {l : BE} {u : As} (hw : v.out.wait.len = l.wait.length) (h : Page.Bs v.out = false) : (Ci v l).line u = Ci v l := if_pos (by rw [IJ hw, h]; rfl)
theorem VG {v : A0} {l : BE} {u : As} (hw : v.out.wait.len = l.wait.length) (h : Page.Bs v.out = true) (c : v.out.cut = true) : (Ci v l).line u = Ci v l := (if_neg (by rw [IJ hw, h]; decide)).trans (if_pos c)
theorem UC {v : A0} {l : BE} {u : As} (hw : v.out.wait.len = l.wait.length) (h : Page.Bs v.out = true) (c : v.out.cut = false) (n : 60 ≤ l.wait.length) : (Ci v l).line u = Ci { v with out := ⟨v.out.wait, v.out.shown, v.out.B4, v.out.ring, true⟩ } l :=
 (if_neg (by rw [IJ hw, h]; decide)).trans ((if_neg (by show ¬ v.out.cut = true; rw [c]; decide)).trans (if_pos (decide_eq_true (show (60 : Int) ≤ (l.wait.length : Int) by omega))))
theorem UU {v : A0} {l : BE} {u : As} (hw : v.out.wait.len = l.wait.length) (h : Page.Bs v.out = true) (c : v.out.cut = false) (n : l.wait.length < 60) (w : Hd) : (Ci v l).line u = Ci { v with out := ⟨w, v.out.shown, v.out.B4, v.out.ring, v.out.cut⟩ } ⟨l.queue, l.wait ++ [u], l.told⟩ :=
 (if_neg (by rw [IJ hw, h]; decide)).trans ((if_neg (by show ¬ v.out.cut = true; rw [c]; decide)).trans (if_neg (by rw [decide_eq_true_eq]; show ¬ (60 : Int) ≤ (l.wait.length : Int); omega)))
theorem Yy {v : A0} {l : BE} {u : As} (h : (!v.out.cut) = true) (t : Hd) : (Ci v l).note u = Ci { v with told := t } ⟨l.queue, l.wait, l.told ++ [u]⟩ := if_pos h
theorem YL {v : A0} {l : BE} {u : As} (h : (!v.out.cut) = false) : (Ci v l).note u = Ci v l := if_neg (by show ¬ (!v.out.cut) = true; rw [h]; decide)
theorem AL.IU (H : AL) {k j : Int} (h0 : 0 ≤ k) (h1 : k < 4) (j0 : 0 ≤ j) (s : BA) : (H.set k s).at_ j = if j = k then s else H.at_ j := by
 unfold AL.set AL.at_
 by_cases e : j = k
 ·subst e; rw [if_pos rfl]; exact Vector.CM h0 h1
 ·rw [if_neg e]; exact Vector.E1 h0 h1 j0 e
theorem CC (s : BA) (u : As) : (s.tell u).told.length ≤ s.told.length + 1 := by
 have h : (s.line u).told = s.told := by
  unfold BA.line; split
  ·rfl
  ·split
   ·rfl
   ·split <;> rfl
 unfold BA.tell BA.note
 split
 ·show ((s.line u).told ++ [u]).length ≤ _
  rw [h, List.length_append]; exact Nat.le_refl _
 ·rw [h]; exact Nat.le_succ _
theorem J8 {V V' : AJ} {ls ls' : Vector BE 4} {ev ev' : List Event} {k : Int} {u : As} (h0 : 0 ≤ k) (h1 : k < 4) (e : A3 V' ls' ev' = (A3 V ls ev).tell k u) {j : Int} (j0 : 0 ≤ j) (j1 : j < 4) :
  (ls'.at j).told.length ≤ (ls.at j).told.length + 1 ∧ (j ≠ k → (ls'.at j).told = (ls.at j).told) := by
 have h := congrArg (fun H => (AL.at_ H j).told) e
 simp only [AL.tell] at h
 rw [Ca _ _ _ j0 j1, AL.IU _ h0 h1 j0] at h
 have h' : (ls'.at j).told = (if j = k then ((A3 V ls ev).at_ k).tell u else (A3 V ls ev).at_ j).told := h
 by_cases c : j = k
 ·subst c
  rw [if_pos rfl, Ca _ _ _ j0 j1] at h'
  exact ⟨by rw [h']; exact CC _ _, fun hn => absurd rfl hn⟩
 ·rw [if_neg c, Ca _ _ _ j0 j1] at h'
  exact ⟨by rw [h']; exact Nat.le_succ _, fun _ => h'⟩
theorem KL {V : AJ} {ls : Vector BE 4} {ev : List Event} {e : Event} {X : AL} {i : Int} (h0 : 0 ≤ i) (h1 : i < 4) (h : A3 V ls ev = AL.Cl e X i.toNat) : AL.Cl e X (i + 1).toNat = if (!decide ((V.Ap.at i).state = 2)) = true then A3 V ls ev else if (AH.tell e (V.Ap.at i).A7).2 = true then (A3 V ls ev).tell i (AH.tell e (V.Ap.at i).A7).1 else A3 V ls ev := by
 obtain ⟨m, rfl⟩ := Int.eq_ofNat_of_zero_le h0
 have ha := Ca V ls ev h0 h1
 rw [show ((m : Int) + 1).toNat = m + 1 by omega, AL.Cl]
 rw [show ((m : Int)).toNat = m by omega] at h
 rw [← h, ha]
 rfl
theorem Ro {H : AL} {es : List Event} {k : Int} (h0 : 0 ≤ k) (h1 : k < es.length) : H.Ik (es.take (k + 1).toNat) = AL.Cl (es.getD k.toNat default) (H.Ik (es.take k.toNat)) 4 := by
 obtain ⟨m, rfl⟩ := Int.eq_ofNat_of_zero_le h0
 have hm : m < es.length := by omega
 show H.Ik (es.take (m + 1)) = AL.Cl (es.getD m default) (H.Ik (es.take m)) 4
 unfold AL.Ik
 rw [List.take_add_one, List.getElem?_eq_getElem hm, List.foldl_append, List.getD_eq_getElem?_getD, List.getElem?_eq_getElem hm]
 rfl
def V7 (ls : Vector BE 4) (n : Nat) : Prop := ∀ j : Int, 0 ≤ j → j < 4 → (ls.at j).told.length ≤ n
theorem VJ {H : AL} {ev es : List Event} (h : H.last = ev) : AL.HH H es = ({ H with last := ev ++ es } : AL).Ik es := by subst h; rfl
end Go.Ing
/- What is said in a land of short names is short: plain laws. -/
namespace Go.Ing
open Go
namespace AH
structure Lq (w : AH) : Prop where
 th : ∀ i, (w.AX.at i).name.length ≤ 100
 be : ∀ i, (w.AW.at i).name.length ≤ 100
 ro : ∀ i, (w.Bx.at i).name.length ≤ 100
theorem Lq.L4 {w : AH} (h : w.Lq) : w.Dz := ⟨fun i => Nat.le_trans (h.th i) (by decide), fun i => Nat.le_trans (h.be i) (by decide), fun i => Nat.le_trans (h.ro i) (by decide)⟩
theorem VH {X : AH} (h : X.Lq) {i : Int} {t : Ak} (ht : t.name.length ≤ 100) : (X.KS i t).Lq := ⟨fun j => by
 rcases Vector.Qj X.AX i j t with e | e
 ·show ((X.AX.put i t).at j).name.length ≤ _; rw [e]; exact ht
 ·show ((X.AX.put i t).at j).name.length ≤ _; rw [e]; exact h.th j, h.be, h.ro⟩
theorem H5 {X : AH} (h : X.Lq) {i : Int} {t : Al} (ht : t.name.length ≤ 100) : (X.Cz i t).Lq := ⟨h.th, fun j => by
 rcases Vector.Qj X.AW i j t with e | e
 ·show ((X.AW.put i t).at j).name.length ≤ _; rw [e]; exact ht
 ·show ((X.AW.put i t).at j).name.length ≤ _; rw [e]; exact h.be j, h.ro⟩
theorem V9 {X : AH} (h : X.Lq) {r d : Int} {v : Bool} : (X.YW r d v).Lq := ⟨h.th, h.be, fun j => by
 rcases Vector.Qj X.Bx r j { X.Bx.at r with shut := (X.Bx.at r).shut.put d v } with e | e
 ·show ((X.Bx.put r _).at j).name.length ≤ _; rw [e]; exact h.ro r
 ·show ((X.Bx.put r _).at j).name.length ≤ _; rw [e]; exact h.ro j⟩
end AH
namespace AG
structure Cr (T : AG) : Prop where
 G9 : T.w.Lq
 out : ∀ e ∈ T.out, AH.Small e
theorem LS {w : AH} (hw : w.Lq) : ∀ (l : List Int) (s : As), (HR w s l).length ≤ s.length + l.length * 102
 | [], s => by simp [HR]
 | i :: r, s => by
  have hn := hw.th i
  unfold HR
  split
  ·have := LS hw r (s ++ [32] ++ (w.AX.at i).name ++ [42])
   simp only [List.length_append, List.length_cons, List.length_nil] at this ⊢
   omega
  ·have := LS hw r (s ++ [32] ++ (w.AX.at i).name)
   simp only [List.length_append, List.length_cons, List.length_nil] at this ⊢
   omega
theorem MF : (default : Al).name.length ≤ 100 := by decide
section
variable {T : AG}
theorem Cr.Bk (h : Cr T) {e : Event} (h1 : e.B1.length ≤ 1000000) (h2 : e.text.length ≤ 1000000) (h3 : e.D8.length ≤ 1000000) (h4 : -9223372036854775808 ≤ e.n) (h5 : e.n ≤ 9223372036854775807) : Cr (T.Bk e) := by
 refine ⟨h.G9, fun x hx => ?_⟩
 rcases List.mem_append.1 (show x ∈ T.out ++ [T.w.HD (T.D3 e) 6] from hx) with hx | hx
 ·exact h.out x hx
 ·have hx' : x = T.w.HD (T.D3 e) 6 := by simpa using hx
  subst hx'
  obtain ⟨a1, a2, a3, a4, a5, a6, a7, a8, a9⟩ := AH.La T.w (T.D3 e) 6
  have e2 : (T.D3 e).n = e.n ∧ (T.D3 e).Hh = T.me.name ∧ (T.D3 e).D8.length ≤ 1000000 ∧ (T.D3 e).B1 = e.B1 ∧ (T.D3 e).text = e.text := by
   unfold D3
   split
   ·exact ⟨rfl, rfl, Nat.le_trans (h.G9.be _) (by decide), rfl, rfl⟩
   ·exact ⟨rfl, rfl, h3, rfl, rfl⟩
  obtain ⟨b4, b5, b6, b7, b8⟩ := e2
  refine ⟨?_, ?_, ?_, ?_, ?_, ?_⟩
  ·rw [a6, b5]; exact Nat.le_trans (h.G9.be T.b) (by decide)
  ·rw [a7]; exact Nat.le_trans b6 (by decide)
  ·rw [a8, b7]; exact Nat.le_trans h1 (by decide)
  ·rw [a9, b8]; exact Nat.le_trans h2 (by decide)
  ·rw [a5, b4]; exact h4
  ·rw [a5, b4]; exact h5
theorem Cr.tell (h : Cr T) {s : As} (hs : s.length ≤ 1000000) : Cr (T.tell s) := h.Bk (Nat.zero_le _) hs (Nat.zero_le _) (show (-9223372036854775808 : Int) ≤ 0 by decide) (show (0 : Int) ≤ 9223372036854775807 by decide)
theorem Cr.kind (h : Cr T) (k : Int) : Cr (T.kind k) := h.Bk (Nat.zero_le _) (Nat.zero_le _) (Nat.zero_le _) (show (-9223372036854775808 : Int) ≤ 0 by decide) (show (0 : Int) ≤ 9223372036854775807 by decide)
theorem Cr.B1 (h : Cr T) (k i : Int) : Cr (T.B1 k i) := h.Bk (Nat.le_trans (h.G9.th i) (by decide)) (Nat.zero_le _) (Nat.zero_le _) (show (-9223372036854775808 : Int) ≤ 0 by decide) (show (0 : Int) ≤ 9223372036854775807 by decide)
theorem Cr.land (h : Cr T) {w' : AH} (ht : w'.Lq) : Cr { T with w := w' } := ⟨ht, h.out⟩
theorem Cr.EB (h : Cr T) {i : Int} {t : Ak} (ht : t.name = (T.w.AX.at i).name) : Cr (T.EB i t) := h.land (w' := T.w.KS i t) (AH.VH h.G9 (by rw [ht]; exact h.G9.th i))
theorem Cr.place (h : Cr T) (i Cq at_ : Int) : Cr (T.place i Cq at_) := h.EB rfl
theorem Cr.DV (h : Cr T) (k f : Int) : Cr (T.DV k f) := h.land (w' := T.w.Cz k { T.w.AW.at k with B5 := f }) (AH.H5 h.G9 (h.G9.be k))
theorem Cr.DF (h : Cr T) (k : Int) {x : Al} (hx : x.name.length ≤ 100) : Cr (T.DF k x) := h.land (w' := T.w.Cz k x) (AH.H5 h.G9 hx)
theorem Cr.Fv (h : Cr T) (r d : Int) (v : Bool) : Cr (T.Fv r d v) := h.land (w' := T.w.YW r d v) (AH.V9 h.G9)
theorem Cr.JP (h : Cr T) (r : Int) : Cr (T.JP r) := h.land (w' := T.w.Cz T.b { T.me with room := r, B5 := 0 }) (AH.H5 h.G9 (h.G9.be T.b))
theorem Cr.list (h : Cr T) {s : As} (hs : s.length ≤ 100) {l : List Int} (hl : l.length ≤ 9) : Cr (T.list s l) := by
 refine h.tell ?_
 have := LS h.G9 l s
 unfold Qy
 split <;> simp only [List.length_append, List.length_cons, List.length_nil] <;> omega
theorem Cr.look (h : Cr T) : Cr T.look := by
 have hk : ∀ {T' : AG}, Cr T' → ∀ k : Nat, Cr (T'.Fa k) := fun {T'} h' k => by
  induction k with
  | zero => exact h'
  | succ k ih =>
   unfold Fa
   split
   ·exact ih.tell (by
     have := ih.G9.be k
     have e : (T'.Fa k).w = T'.w := (Kd T' k).1
     rw [e] at this
     simp only [List.length_append, List.length_cons, List.length_nil]; omega)
   ·exact ih
 unfold AG.look
 split
 ·exact h.tell (by show ([73, 116, 32, 105, 115, 32, 100, 97, 114, 107, 46] : As).length ≤ _; decide)
 ·refine hk ?_ 6
  have ha : Cr T.Jx := (h.tell (by
   have := h.G9.ro T.me.room
   simp only [List.length_append, List.length_cons, List.length_nil]; omega)).tell (by
   have := Lp (T.w.Bx.at T.me.room) 6
   omega)
  unfold Dy
  split
  ·exact ha.list (by decide) (AH.Ho ..)
  ·exact ha
theorem Cr.walk (h : Cr T) (d : Int) : Cr (T.walk d) := by
 unfold AG.walk
 split
 ·exact h.tell (by decide)
 ·split
  ·exact h.tell (by decide)
  ·have i1 : Cr (T.Bk { GI 1 with dir := d }) := h.Bk (Nat.zero_le _) (Nat.zero_le _) (Nat.zero_le _) (show (-9223372036854775808 : Int) ≤ 0 by decide) (show (0 : Int) ≤ 9223372036854775807 by decide)
   exact ((i1.JP _).Bk (e := { GI 2 with dir := AH.opposite d }) (Nat.zero_le _) (Nat.zero_le _) (Nat.zero_le _) (show (-9223372036854775808 : Int) ≤ 0 by decide) (show (0 : Int) ≤ 9223372036854775807 by decide)).look
theorem Cr.box (h : Cr T) (u : As) : Cr (T.box u).1 := by
 unfold AG.box
 split
 ·exact h.tell (by decide)
 ·split
  ·exact h.tell (by decide)
  ·exact h
theorem Cr.BN (h : Cr T) (u : As) : Cr (T.BN u).1 := by
 unfold AG.BN
 split
 ·split
  ·exact h
  ·exact h.tell (by decide)
 ·exact h.tell (by decide)
theorem Cr.Df (l : List Int) : ∀ {T' : AG}, Cr T' → Cr (T'.Df l) := by
 induction l with
 | nil => exact fun h => h
 | cons i r ih => exact fun {T'} h => ih ((h.place i 1 T'.b).B1 3 i)
theorem Cr.QG (h : Cr T) (l : List Int) (o : Order) : Cr (T.QG l o) := by
 unfold AG.QG
 refine Cr.Df _ ?_
 split
 ·exact h.tell (by decide)
 ·exact h
theorem Cr.get (h : Cr T) (o : Order) : Cr (T.get o) := by
 unfold AG.get
 split
 ·split
  ·exact h.box _
  ·exact (h.box _).QG _ _
 ·exact h.QG _ _
theorem Cr.DQ (h : Cr T) (v to i : Int) : Cr (T.DQ v to i) := by
 unfold AG.DQ
 split
 ·exact h.tell (by decide)
 ·split
  ·exact (h.place _ _ _).B1 _ _
  ·split
   ·exact (h.place i 1 to).Bk (e := { GI 6 with other := to, B1 := (T.w.AX.at i).name }) (Nat.le_trans (h.G9.th i) (by decide)) (Nat.zero_le _) (Nat.zero_le _) (show (-9223372036854775808 : Int) ≤ 0 by decide) (show (0 : Int) ≤ 9223372036854775807 by decide)
   ·split
    ·exact h.tell (by decide)
    ·exact (h.place i 2 to).Bk (e := { GI 5 with B1 := (T.w.AX.at i).name, text := (T.w.AX.at to).name }) (Nat.le_trans (h.G9.th i) (by decide)) (Nat.le_trans (h.G9.th to) (by decide)) (Nat.zero_le _) (show (-9223372036854775808 : Int) ≤ 0 by decide) (show (0 : Int) ≤ 9223372036854775807 by decide)
theorem Cr.Fg {v to : Int} (l : List Int) : ∀ {T' : AG}, Cr T' → Cr (T'.Fg v to l) := by
 induction l with
 | nil => exact fun h => h
 | cons i r ih => exact fun h => ih (h.DQ v to i)
theorem Cr.G7 (h : Cr T) (o : Order) : Cr (T.G7 o) := by
 have ht : Cr (T.DG o).1 := by
  unfold DG
  split
  ·exact h.box _
  ·split
   ·exact h.BN _
   ·exact h
 unfold AG.G7
 split
 ·exact ht
 ·unfold Wd
  refine Cr.Fg _ ?_
  split
  ·exact ht.tell (by decide)
  ·exact ht
theorem Cr.GS (h : Cr T) (o : Order) : Cr (T.GS o) := by
 unfold AG.GS
 generalize (if (!decide (o.nth = 1) || o.Bl) = true then [] else o.name) = nm
 have hs := h.BN nm
 split
 ·exact hs
 ·refine Cr.tell ?_ (by decide)
  split
  ·exact (hs.DV _ _).DV _ _
  ·exact hs.DV _ _
theorem Cr.before (h : Cr T) (first : Bool) (i : Int) (v : Bool) (k : Int) : Cr (T.before first i v k) := by
 unfold AG.before
 split
 ·exact (Cr.EB h (i := i) (t := { T.w.AX.at i with on := v }) rfl).B1 _ _
 ·exact (h.B1 k i).EB rfl
theorem Cr.I1 (h : Cr T) (d : Int) (on : Bool) (k : Int) : Cr (T.I1 d on k) := by
 unfold AG.I1
 split
 ·exact h.tell (by decide)
 ·split
  ·exact h.tell (by decide)
  ·refine Cr.Bk ?_ (by show ([100, 111, 111, 114] : As).length ≤ 1000000; decide) (Nat.zero_le _) (Nat.zero_le _) (show (-9223372036854775808 : Int) ≤ 0 by decide) (show (0 : Int) ≤ 9223372036854775807 by decide)
   split
   ·exact (h.Fv _ _ _).Fv _ _ _
   ·exact h.Fv _ _ _
theorem Cr.set (h : Cr T) (o : Order) : Cr (T.set o) := by
 unfold AG.set
 split
 ·exact h.I1 _ _ _
 ·split
  ·exact h.tell (by decide)
  ·split
   ·exact h.tell (by decide)
   ·split
    ·exact h.before _ _ _ _
    ·exact h.before _ _ _ _
theorem Cr.Ck (l : List Int) : ∀ {T' : AG}, Cr T' → Cr (T'.Ck l) := by
 induction l with
 | nil => exact fun h => h
 | cons i r ih => exact fun {T'} h => ih (Cr.EB h (i := i) rfl)
theorem Cr.Dw (h : Cr T) : ∀ k : Nat, Cr (T.Dw k)
 | 0 => h
 | k + 1 => by
  unfold AG.Dw
  split
  ·exact (Cr.Dw h k).DV _ _
  ·exact Cr.Dw h k
theorem Cr.GC (h : Cr T) : Cr T.GC := by
 rw [Mc]
 exact ((Cr.Ck _ h).Dw 6).DV _ _
theorem Cr.LB (h : Cr T) : Cr T.LB := by
 have hf := Cr.GC (h.kind 18)
 unfold AG.LB
 generalize (T.kind 18).GC = F at *
 exact hf.DF T.b (x := default) MF
theorem Cr.act (h : Cr T) {o : Order} (hx : o.text.length ≤ 1000000) : Cr (T.act o) := by
 unfold AG.act
 split
 ·exact h.walk _
 ·split
  ·exact h.look
  ·split
   ·exact h.list (by decide) (AH.Ho ..)
   ·split
    ·exact h.Bk (e := { GI 7 with text := o.text }) (Nat.zero_le _) hx (Nat.zero_le _) (show (-9223372036854775808 : Int) ≤ 0 by decide) (show (0 : Int) ≤ 9223372036854775807 by decide)
    ·split
     ·exact h.LB
     ·split
      ·exact h.GS _
      ·split
       ·exact h.get _
       ·split
        ·exact h.G7 _
        ·exact h.set _
end
theorem Mi {X : AH} {b : Int} {o : Order} (hw : X.Lq) (hx : o.text.length ≤ 1000000) : (Ff X b o).1.Lq ∧ ∀ e ∈ (Ff X b o).2.1, AH.Small e := by
 unfold Ff
 split
 ·exact ⟨hw, fun e h => by cases h⟩
 ·split
  ·exact ⟨hw, fun e h => by cases h⟩
  ·split
   ·exact ⟨hw, fun e h => by cases h⟩
   ·have := Cr.act (T := ⟨X, b, []⟩) ⟨hw, fun e h => by cases h⟩ hx
    exact ⟨this.G9, this.out⟩
theorem KC {X : AH} {s : As} (hw : X.Lq) : (Bg X s).1.Lq ∧ ∀ e ∈ (Bg X s).2.2.1, AH.Small e := by
 unfold Bg
 split
 ·exact ⟨hw, fun e h => by cases h⟩
 ·split
  ·exact ⟨hw, fun e h => by cases h⟩
  ·rename_i h1
   split
   ·exact ⟨hw, fun e h => by cases h⟩
   ·split
    ·exact ⟨hw, fun e h => by cases h⟩
    ·have hn : s.length ≤ 8 := by
      have h2 : Jd s = true := by simpa using h1
      simp only [Jd, Bool.and_eq_true, decide_eq_true_eq] at h2
      omega
     have h0 : Cr ⟨X.Cz (DM X 6) (KY s), DM X 6, []⟩ := ⟨AH.H5 hw (by show s.length ≤ 100; omega), fun e h => by cases h⟩
     have := (h0.kind 17).look
     exact ⟨this.G9, this.out⟩
theorem Rx {w : AH} {b B5 n : Int} (hw : w.Lq) (h0 : 1 ≤ n) (h1 : n ≤ 3) : Cr (CJ w b B5 n) := by
 have hs : Cr ⟨w, b, []⟩ := ⟨hw, fun e h => by cases h⟩
 unfold CJ
 exact (hs.Bk (e := { GI 14 with other := B5, n := n }) (Nat.zero_le _) (Nat.zero_le _) (Nat.zero_le _) (show -9223372036854775808 ≤ n by omega) (show n ≤ 9223372036854775807 by omega)).DF _ (hw.be B5)
theorem Cr.bd {T : AG} (h : Cr T) (b : Int) : Cr (T.DF b { T.w.AW.at b with room := 0, BM := 10 }) := h.DF b (h.G9.be b)
theorem V8 {w : AH} {b : Int} (hw : w.Lq) : Cr (IQ w b) := by
 have h0 : Cr (FW w b) := ⟨AH.H5 hw (hw.be b), fun e h => by cases h⟩
 have h1 : Cr (GA w b) := by unfold GA; exact (h0.kind 15).GC
 unfold IQ
 split
 ·generalize GA w b = F at *
  exact h1.DF b (x := default) MF
 ·have h2 : Cr (Iq w b) := by unfold Iq; exact h1.bd b
  exact (h2.kind 17).look
theorem Sb {draw b : Int} (hb : 0 ≤ b) {s : AH × List Event} (h : s.1.Lq ∧ ∀ e ∈ s.2, AH.Small e) : (Es draw b s).1.Lq ∧ ∀ e ∈ (Es draw b s).2, AH.Small e := by
 have hh := Mk (draw := draw) hb
 unfold Es
 split
 ·exact h
 ·split
  ·exact ⟨AH.H5 h.1 (h.1.be b), h.2⟩
  ·have hk := Rx (b := b) (B5 := (s.1.AW.at b).B5 - 1) h.1 hh.1 hh.2
   split
   ·have hd := V8 (b := (s.1.AW.at b).B5 - 1) hk.G9
    refine ⟨hd.G9, fun e he => ?_⟩
    rcases List.mem_append.1 he with he | he
    ·rcases List.mem_append.1 he with he | he
     ·exact h.2 e he
     ·exact hk.out e he
    ·exact hd.out e he
   ·refine ⟨hk.G9, fun e he => ?_⟩
    rcases List.mem_append.1 he with he | he
    ·exact h.2 e he
    ·exact hk.out e he
theorem NN {X : AH} {draw : Int} (hw : X.Lq) : ∀ k : Nat, (EG X draw k).1.Lq ∧ ∀ e ∈ (EG X draw k).2, AH.Small e
 | 0 => ⟨hw, fun e h => by cases h⟩
 | k + 1 => Sb (by omega) (NN hw k)
theorem Mv {X : AH} {draw : Int} (hw : X.Lq) : (Ch X draw).1.Lq ∧ ∀ e ∈ (Ch X draw).2.1, AH.Small e := by
 unfold Ch
 split
 ·exact ⟨hw, fun e h => by cases h⟩
 ·have h := NN (draw := draw) hw 6
  generalize EG X draw 6 = r at *
  exact h
end AG
end Go.Ing
/- What a house keeps: plain laws. -/
namespace Go.Ing
open Go
namespace AL
def Yb (q : List As) : Prop := q.length ≤ 6 ∧ ∀ s ∈ q, s.length ≤ 60
structure Fit (H : AL) (n m : Nat) : Prop where
 G9 : H.w.Lq
 told : ∀ k : Int, 0 ≤ k → k < 4 → (H.at_ k).told.length ≤ n
 last : H.last.length ≤ m
 A7 : ∀ k : Int, 0 ≤ k → k < 4 → (H.at_ k).state = 2 → 0 ≤ (H.at_ k).A7 ∧ (H.at_ k).A7 < 6
 wait : ∀ k : Int, 0 ≤ k → k < 4 → ∀ s ∈ (H.at_ k).wait, s.length ≤ 70368744000000
 queue : ∀ k : Int, 0 ≤ k → k < 4 → Yb (H.at_ k).queue
variable {H : AL} {n m : Nat}
theorem Fit.mono (h : H.Fit n m) {n' m' : Nat} (hn : n ≤ n') (hm : m ≤ m') : H.Fit n' m' := ⟨h.G9, fun k a b => Nat.le_trans (h.told k a b) hn, Nat.le_trans h.last hm, h.A7, h.wait, h.queue⟩
theorem Fit.set (h : H.Fit n m) {k : Int} (h0 : 0 ≤ k) (h1 : k < 4) {s : BA} (ht : s.told.length ≤ n) (hb : s.state = 2 → 0 ≤ s.A7 ∧ s.A7 < 6) (hw : ∀ u ∈ s.wait, u.length ≤ 70368744000000) (hq : Yb s.queue) : (H.set k s).Fit n m := by
 have e : ∀ j : Int, 0 ≤ j → (H.set k s).at_ j = if j = k then s else H.at_ j := fun j j0 => AL.IU H h0 h1 j0 s
 refine ⟨h.G9, fun j a b => ?_, h.last, fun j a b => ?_, fun j a b => ?_, fun j a b => ?_⟩ <;> rw [e j a] <;> split
 ·exact ht
 ·exact h.told j a b
 ·exact hb
 ·exact h.A7 j a b
 ·exact hw
 ·exact h.wait j a b
 ·exact hq
 ·exact h.queue j a b
theorem Fit.land (h : H.Fit n m) {w : AH} (hw : w.Lq) : ({ H with w := w } : AL).Fit n m := ⟨hw, h.told, h.last, h.A7, h.wait, h.queue⟩
theorem O4 (s : BA) (u : As) : (s.line u).wait = s.wait ∨ (s.line u).wait = s.wait ++ [u] := by
 unfold BA.line
 split
 ·exact .inl rfl
 ·split
  ·exact .inl rfl
  ·split
   ·exact .inl rfl
   ·exact .inr rfl
theorem Ud (s : BA) (u : As) : (s.line u).state = s.state ∧ (s.line u).A7 = s.A7 ∧ (s.line u).queue = s.queue ∧ (s.line u).told = s.told := by
 unfold BA.line
 split
 ·exact ⟨rfl, rfl, rfl, rfl⟩
 ·split
  ·exact ⟨rfl, rfl, rfl, rfl⟩
  ·split <;> exact ⟨rfl, rfl, rfl, rfl⟩
theorem JU (s : BA) (u : As) : (s.tell u).state = s.state ∧ (s.tell u).A7 = s.A7 ∧ (s.tell u).queue = s.queue ∧ (s.tell u).wait = (s.line u).wait := by
 obtain ⟨a, b, c, _⟩ := Ud s u
 unfold BA.tell BA.note
 split
 ·exact ⟨a, b, c, rfl⟩
 ·exact ⟨a, b, c, rfl⟩
theorem Fit.tell (h : H.Fit n m) {k : Int} (h0 : 0 ≤ k) (h1 : k < 4) {u : As} (hu : u.length ≤ 70368744000000) : (H.tell k u).Fit (n + 1) m := by
 obtain ⟨a, b, c, d⟩ := JU (H.at_ k) u
 refine (h.mono (Nat.le_succ n) (Nat.le_refl m)).set h0 h1 (Nat.le_trans (CC _ _) (Nat.succ_le_succ (h.told k h0 h1))) (by rw [a, b]; exact h.A7 k h0 h1) (fun s hs => ?_) (by rw [c]; exact h.queue k h0 h1)
 rw [d] at hs
 rcases O4 (H.at_ k) u with e | e <;> rw [e] at hs
 ·exact h.wait k h0 h1 s hs
 ·rcases List.mem_append.1 hs with hs | hs
  ·exact h.wait k h0 h1 s hs
  ·rw [List.mem_singleton.1 hs]; exact hu
theorem XG {e : Event} (he : AH.Small e) (b : Int) : (AH.tell e b).1.length ≤ 70368744000000 := by
 unfold AH.tell
 split
 ·exact Nat.zero_le _
 ·split
  ·exact Nat.zero_le _
  ·refine Nat.le_trans (AH.NU he (AH.Ol he b) (AH.Nn he b) _ _) ?_
   have := AH.Nq e b
   omega
theorem Tf {k j : Int} (h0 : 0 ≤ k) (h1 : k < 4) (j0 : 0 ≤ j) (hn : j ≠ k) (u : As) : (H.tell k u).at_ j = H.at_ j := by
 unfold AL.tell
 rw [AL.IU H h0 h1 j0, if_neg hn]
theorem KB (e : Event) (H : AL) : ∀ k : Nat, k ≤ 4 → ∀ j : Int, (k : Int) ≤ j → j < 4 → (Cl e H k).at_ j = H.at_ j
 | 0, _, _, _, _ => rfl
 | k + 1, hk, j, h0, h1 => by
  have ih := KB e H k (by omega) j (by omega) h1
  unfold Cl
  split
  ·exact ih
  ·split
   ·rw [Tf (by omega) (by omega) (by omega) (by omega)]; exact ih
   ·exact ih
theorem Nw {e : Event} (he : AH.Small e) (h : H.Fit n m) : ∀ k : Nat, k ≤ 4 → (Cl e H k).Fit (n + 1) m
 | 0, _ => h.mono (Nat.le_succ n) (Nat.le_refl m)
 | k + 1, hk => by
  have ih := Nw he h k (by omega)
  unfold Cl
  split
  ·exact ih
  ·split
   ·have hr := KB e H k (by omega) k (Int.le_refl _) (by omega)
    obtain ⟨a, b, c, d⟩ := JU ((Cl e H k).at_ k) (AH.tell e ((Cl e H k).at_ k).A7).1
    unfold AL.tell
    refine ih.set (by omega) (by omega) ?_ (by rw [a, b]; exact ih.A7 k (by omega) (by omega)) (fun s hs => ?_) (by rw [c]; exact ih.queue k (by omega) (by omega))
    ·refine Nat.le_trans (CC _ _) ?_
     rw [hr]; exact Nat.succ_le_succ (h.told k (by omega) (by omega))
    ·rw [d] at hs
     rcases O4 ((Cl e H k).at_ k) (AH.tell e ((Cl e H k).at_ k).A7).1 with q | q <;> rw [q] at hs
     ·exact ih.wait k (by omega) (by omega) s hs
     ·rcases List.mem_append.1 hs with hs | hs
      ·exact ih.wait k (by omega) (by omega) s hs
      ·rw [List.mem_singleton.1 hs]; exact XG he _
   ·exact ih
theorem O1 : ∀ (es : List Event) {H : AL} {n : Nat}, (∀ e ∈ es, AH.Small e) → H.Fit n m → (H.Ik es).Fit (n + es.length) m
 | [], _, _, _, h => h
 | e :: r, H, n, he, h => by
  have h1 := Nw (he e (List.mem_cons_self ..)) h 4 (Nat.le_refl 4)
  have h2 := O1 r (fun x hx => he x (List.mem_cons_of_mem _ hx)) h1
  rw [List.length_cons, show n + (r.length + 1) = n + 1 + r.length by omega]
  exact h2
theorem Fit.HH (h : H.Fit n m) {es : List Event} (he : ∀ e ∈ es, AH.Small e) : (H.HH es).Fit (n + es.length) (m + es.length) := by
 refine O1 (m := m + es.length) es he ?_
 exact ⟨h.G9, h.told, by show (H.last ++ es).length ≤ _; rw [List.length_append]; exact Nat.add_le_add_right h.last _, h.A7, h.wait, h.queue⟩
theorem Fit.free (h : H.Fit n m) {k : Int} (h0 : 0 ≤ k) (h1 : k < 4) : (H.set k default).Fit n m :=
 h.set h0 h1 (Nat.zero_le _) (fun e => absurd (show (0 : Int) = 2 from e) (by decide)) (fun u hu => by cases hu) ⟨Nat.zero_le _, fun u hu => by cases hu⟩
theorem Oc : FX.text.length ≤ 1000000 := Nat.zero_le _
theorem Fit.leave (h : H.Fit n m) {k : Int} (h0 : 0 ≤ k) (h1 : k < 4) : (H.leave k).Fit (n + 11) (m + 11) := by
 unfold AL.leave
 refine Fit.free ?_ h0 h1
 split
 ·have hd := AG.Mi (b := (H.at_ k).A7) (o := FX) h.G9 Oc
  have hl := AG.Me H.w (H.at_ k).A7 FX
  exact (((h.land hd.1).free h0 h1).HH hd.2).mono (Nat.add_le_add_left hl n) (Nat.add_le_add_left hl m)
 ·exact h.mono (Nat.le_add_right ..) (Nat.le_add_right ..)
theorem Qi (ht : Int) : ∀ (l : List As) (x : Page.Pg), ∀ s ∈ (Page.B2 ht l x).2, s ∈ l
 | [], _, s, h => h
 | q :: r, x, s, h => by
  unfold Page.B2 at h
  split at h
  ·exact h
  ·split at h
   ·exact h
   ·exact List.mem_cons_of_mem _ (Qi ht r _ s h)
theorem Th (s : BA) : s.B2.told = s.told ∧ s.B2.state = s.state ∧ s.B2.A7 = s.A7 ∧ s.B2.queue = s.queue ∧ ∀ u ∈ s.B2.wait, u ∈ s.wait := by
 unfold BA.B2
 split
 ·exact ⟨rfl, rfl, rfl, rfl, fun _ h => h⟩
 ·exact ⟨rfl, rfl, rfl, rfl, Qi _ _ _⟩
theorem Fit.Wo (h : H.Fit n m) {k : Int} (h0 : 0 ≤ k) (h1 : k < 4) : (H.set k (H.at_ k).B2).Fit n m := by
 obtain ⟨a, b, c, d, e⟩ := Th (H.at_ k)
 exact h.set h0 h1 (by rw [a]; exact h.told k h0 h1) (by rw [b, c]; exact h.A7 k h0 h1) (fun u hu => h.wait k h0 h1 u (e u hu)) (by rw [d]; exact h.queue k h0 h1)
theorem Lz (h : H.Fit n m) : ∀ k : Nat, k ≤ 4 → (H.DT k).1.Fit (n + 11 * k) (m + 11 * k)
 | 0, _ => h
 | k + 1, hk => by
  have ih := Lz h k (by omega)
  unfold DT
  split
  ·exact ih.mono (by omega) (by omega)
  ·split
   ·exact ((ih.Wo (by omega) (by omega)).leave (by omega) (by omega)).mono (by omega) (by omega)
   ·exact (ih.Wo (by omega) (by omega)).mono (by omega) (by omega)
theorem O8 : ∀ (r : Nat) {H : AL} {n m : Nat}, H.Fit n m → (H.Io r).Fit (n + 44 * r) (m + 44 * r)
 | 0, _, _, _, h => h
 | r + 1, H, n, m, h => by
  have h1 := Lz h 4 (Nat.le_refl 4)
  unfold Io
  split
  ·exact h1.mono (by omega) (by omega)
  ·exact (O8 r h1).mono (by omega) (by omega)
theorem Fit.B2 (h : H.Fit n m) : H.B2.Fit (n + 220) (m + 220) := O8 5 h
end AL
end Go.Ing
/- A house: plain laws for the walks, on. -/
namespace Go.Ing
open Go
theorem Hu {V : AJ} {ls : Vector BE 4} {ev : List Event} {k : Int} (h0 : 0 ≤ k) (h1 : k < 4) : A3 (V.BL k default) (ls.put k ⟨[], [], []⟩) ev = (A3 V ls ev).set k default := Ht V ls ev h0 h1 _ _
theorem NT {V : AJ} {ls : Vector BE 4} {ev : List Event} {w : AH} : A3 { V with w := w } ls ev = { A3 V ls ev with w := w } := rfl
theorem PQ {V V4 : AJ} {ls ls4 : Vector BE 4} {ev ev4 : List Event} {k : Int} (h0 : 0 ≤ k) (h1 : k < 4) (c : (decide ((V.Ap.at k).state = 2) && (V.w.AW.at (V.Ap.at k).A7).here) = true)
  (e : A3 V4 ls4 ev4 = (A3 (AJ.BL { V with w := (AG.Ff V.w (V.Ap.at k).A7 AL.FX).1 } k default) (ls.put k ⟨[], [], []⟩) ev).HH (AG.Ff V.w (V.Ap.at k).A7 AL.FX).2.1) :
  A3 (V4.BL k default) (ls4.put k ⟨[], [], []⟩) ev4 = (A3 V ls ev).leave k := by
 rw [Hu h0 h1, e, Hu h0 h1, NT]
 have ha := Ca V ls ev h0 h1
 unfold AL.leave AL.Sg
 rw [ha]
 rw [if_pos (show (decide ((Ci (V.Ap.at k) (ls.at k)).state = 2) && ((A3 V ls ev).w.AW.at (Ci (V.Ap.at k) (ls.at k)).A7).here) = true from c)]
 rfl
theorem TC {V : AJ} {ls : Vector BE 4} {ev : List Event} {k : Int} (h0 : 0 ≤ k) (h1 : k < 4) (c : (decide ((V.Ap.at k).state = 2) && (V.w.AW.at (V.Ap.at k).A7).here) = false) :
  A3 (V.BL k default) (ls.put k ⟨[], [], []⟩) ev = (A3 V ls ev).leave k := by
 rw [Hu h0 h1]
 have ha := Ca V ls ev h0 h1
 unfold AL.leave
 rw [ha]
 rw [if_neg (show ¬ (decide ((Ci (V.Ap.at k) (ls.at k)).state = 2) && ((A3 V ls ev).w.AW.at (Ci (V.Ap.at k) (ls.at k)).A7).here) = true by rw [show (decide ((Ci (V.Ap.at k) (ls.at k)).state = 2) && ((A3 V ls ev).w.AW.at (Ci (V.Ap.at k) (ls.at k)).A7).here) = false from c]; decide)]
theorem F9 {V : AJ} {ls : Vector BE 4} {ev : List Event} {n m : Nat} (h : (A3 V ls ev).Fit n m) : V7 ls n := fun j j0 j1 => by
 have := h.told j j0 j1
 rw [Ca V ls ev j0 j1] at this
 exact this
theorem Tx {V : AJ} {ls : Vector BE 4} {ev : List Event} {n m : Nat} (h : (A3 V ls ev).Fit n m) {k : Int} (h0 : 0 ≤ k) (h1 : k < 4) : (V.Ap.at k).state ≠ 2 ∨ (0 ≤ (V.Ap.at k).A7 ∧ (V.Ap.at k).A7 < 6) := by
 have := h.A7 k h0 h1
 rw [Ca V ls ev h0 h1] at this
 by_cases c : (V.Ap.at k).state = 2
 ·exact .inr (this c)
 ·exact .inl c
theorem St.or {w0 w : World} {M : List Nat} {L : List Ac} {T TS : Nat} {h f g : Hd} {xs qs zs : List As} (ho : ZE T h xs TS f qs TS g zs) (hS : St w0 M w (Ac.own g TS 1 (zs.flatMap A4) :: Ac.own f TS 1 (qs.flatMap A4) :: L)) : St w0 M w (Ac.own h TS 1 (xs.flatMap A4) :: L) := by
 rcases ho with ⟨_, rfl, rfl, _, _⟩ | ⟨_, rfl, rfl⟩
 ·exact hS.sub (List.sublist_cons_self ..)
 ·exact hS.sub (List.Sublist.cons_cons _ (List.sublist_cons_self ..))
theorem Z4 {n : Nat} {w0 : World} {M : List Nat} {Q : Exit → Go.Act → World → Prop} {F : List (Nat × Value)} {L : List Ac} {x : Exit} {T TS : Nat} {h f g : Hd} {xs qs zs : List As} (ho : ZE T h xs TS f qs TS g zs) (k : GQ n w0 M Q x F (Ac.own h TS 1 (xs.flatMap A4) :: L)) : GQ n w0 M Q x F (Ac.own g TS 1 (zs.flatMap A4) :: Ac.own f TS 1 (qs.flatMap A4) :: L) := fun a w hF hS => k a w hF (St.or ho hS)
theorem Rc {v : A0} {l : BE} (hw : v.out.wait.len = l.wait.length) (h : (!Page.Bs v.out || decide (v.EE.CX < 0) || decide (200 < v.EE.CX)) = true) : Ci v l = (Ci v l).B2 :=
 (if_pos (show (!(Ci v l).NF || decide (v.EE.CX < 0) || decide (200 < v.EE.CX)) = true by rw [IJ hw]; exact h)).symm
theorem XP {v : A0} {l : BE} (hw : v.out.wait.len = l.wait.length) (h : (!Page.Bs v.out || decide (v.EE.CX < 0) || decide (200 < v.EE.CX)) = false) (w : Hd) :
  Ci { v with out := ⟨w, (Page.B2 v.EE.CX l.wait (Page.of v.out)).1.shown, (Page.B2 v.EE.CX l.wait (Page.of v.out)).1.B4, (Page.B2 v.EE.CX l.wait (Page.of v.out)).1.ring, (Page.B2 v.EE.CX l.wait (Page.of v.out)).1.cut⟩ } ⟨l.queue, (Page.B2 v.EE.CX l.wait (Page.of v.out)).2, l.told⟩ = (Ci v l).B2 :=
 ((if_neg (show ¬ (!(Ci v l).NF || decide (v.EE.CX < 0) || decide (200 < v.EE.CX)) = true by rw [IJ hw, h]; decide)).trans rfl).symm
theorem KQ {V : AJ} {ls : Vector BE 4} {ev : List Event} {c : Bool} {H : AL} {i : Int} (h0 : 0 ≤ i) (h1 : i < 4) (h : (A3 V ls ev, c) = H.DT i.toNat) :
  H.DT (i + 1).toNat = if decide ((V.Ap.at i).state = 0) = true then (A3 V ls ev, c) else if (((A3 V ls ev).at_ i).B2).pg.cut = true then (((A3 V ls ev).set i ((A3 V ls ev).at_ i).B2).leave i, true) else ((A3 V ls ev).set i ((A3 V ls ev).at_ i).B2, c) := by
 obtain ⟨m, rfl⟩ := Int.eq_ofNat_of_zero_le h0
 have ha := Ca V ls ev h0 h1
 rw [show ((m : Int) + 1).toNat = m + 1 by omega, AL.DT]
 rw [show ((m : Int)).toNat = m by omega] at h
 rw [← h]
 rw [show decide (((A3 V ls ev).at_ (m : Int)).state = 0) = decide ((V.Ap.at (m : Int)).state = 0) by rw [ha]; rfl]
theorem S4 {V V' : AJ} {ls ls' : Vector BE 4} {ev ev' : List Event} {i : Int} (h0 : 0 ≤ i) (h1 : i < 4) {s : BA} (e : A3 V' ls' ev' = (A3 V ls ev).set i s) : (V'.Ap.at i).out.cut = s.pg.cut := by
 have h := congrArg (fun H => (AL.at_ H i).pg.cut) e
 rw [Ca V' ls' ev' h0 h1, AL.IU _ h0 h1 h0, if_pos rfl] at h
 exact h
theorem My {X : AL} {k : Int} (h0 : 0 ≤ k) (h1 : k < 5) : X.Io (5 - k).toNat = if (!(X.DT 4).2) = true then (X.DT 4).1 else (X.DT 4).1.Io (5 - (k + 1)).toNat := by
 rw [show (5 - k).toNat = (5 - (k + 1)).toNat + 1 by omega, AL.Io]
theorem Ov {H : AL} {n m : Nat} (h : H.Fit n m) {V : AJ} {ls : Vector BE 4} {ev : List Event} {c : Bool} {i : Int} (h0 : 0 ≤ i) (h1 : i ≤ 4) (e : (A3 V ls ev, c) = H.DT i.toNat) : (A3 V ls ev).Fit (n + 44) (m + 44) := by
 have := AL.Lz h i.toNat (by omega)
 rw [← e] at this
 exact this.mono (by omega) (by omega)
theorem VM {V : AJ} {ls : Vector BE 4} {ev : List Event} {n m : Nat} (h : (A3 V ls ev).Fit n m) {k : Int} (h0 : 0 ≤ k) (h1 : k < 4) : ∀ s ∈ (ls.at k).wait, s.length ≤ 70368744000000 := by
 have := h.wait k h0 h1
 rw [Ca V ls ev h0 h1] at this
 exact this
end Go.Ing
/- A house: who comes, and what is typed: plain laws for the walks. -/
namespace Go.Ing
open Go
namespace Words
def Mn (N : Nat) (o : Order) : Prop := o.name.length ≤ N ∧ o.second.length ≤ N ∧ o.text.length ≤ N
theorem FG (N : Nat) : Mn N default := ⟨Nat.zero_le _, Nat.zero_le _, Nat.zero_le _⟩
theorem Vk (u p : As) : (MQ u p).1.length ≤ u.length := by
 unfold MQ
 split
 ·exact Nat.le_refl _
 ·show (List.drop _ u).length ≤ _
  rw [List.length_drop]; omega
theorem Vw (u : As) : (D5 u).2.1.length ≤ u.length := by
 unfold D5
 split
 ·exact Nat.zero_le _
 ·split
  ·exact Vk u _
  ·split
   ·split
    ·exact Nat.zero_le _
    ·exact Nat.le_refl _
   ·unfold OZ
    have := (Mf 46 u).2
    split
    ·split
     ·exact Nat.zero_le _
     ·exact this
    ·exact Nat.zero_le _
theorem Vy {N : Nat} {o : Order} {j : As × Bool} {W : List As} {m : Nat} (h : Mn N o) (hw : (W.getD 0 []).length ≤ N) : Mn N (PO o j W m).1 := by
 unfold PO
 split
 ·exact h
 ·split
  ·exact FG N
  ·exact ⟨h.1, hw, h.2.2⟩
theorem Yr {N : Nat} {o : Order} {j : As × Bool} {W : List As} {m : Nat} (h : Mn N o) (hw : ∀ i, (W.getD i []).length ≤ N) : Mn N (SL o j W m).1 := by
 unfold SL
 split
 ·split
  ·exact FG N
  ·refine Vy h ?_
   have := hw 1
   rw [List.getD_eq_getElem?_getD, List.getElem?_drop, ← List.getD_eq_getElem?_getD]
   exact this
 ·exact Vy h (hw 0)
theorem We {N : Nat} {v : Int} {W : List As} {m : Nat} (hw : ∀ i, (W.getD i []).length ≤ N) : Mn N (Px v W m).1 := by
 unfold Px
 split
 ·exact FG N
 ·refine Yr ⟨Nat.le_trans (Vw _) (hw 0), Nat.zero_le _, Nat.zero_le _⟩ (fun i => ?_)
  rw [List.getD_eq_getElem?_getD, List.getElem?_drop, ← List.getD_eq_getElem?_getD]
  exact hw (1 + i)
theorem Q8 (i : Nat) : (AH.GB.getD i []).length ≤ 20 := by
 rw [List.getD_eq_getElem?_getD]
 cases h : AH.GB[i]? with
 | none => exact Nat.zero_le _
 | some w =>
  have hm : w ∈ AH.GB := List.mem_of_getElem? h
  have : ∀ w ∈ AH.GB, w.length ≤ 20 := by decide
  exact this w hm
theorem MD (s : As) : Mn (s.length + 20) (parse s).1 := by
 have hw : ∀ i, (((words s).drop 1).getD i []).length ≤ s.length + 20 := fun i => Nat.le_trans (Ll s i 1) (by omega)
 unfold parse
 split
 ·exact FG _
 ·split
  ·exact FG _
  ·unfold VF
   split
   ·split
    ·exact FG _
    ·refine ⟨Nat.zero_le _, Nat.zero_le _, ?_⟩
     show (said s).length ≤ _
     unfold said
     have h1 := Kl 32 (Q4 32 (cut 32 (O6 32 s)).2.1)
     have h2 := QU 32 (cut 32 (O6 32 s)).2.1
     have h3 := (Mf 32 (O6 32 s)).2
     have h4 := Kl 32 s
     omega
   ·split
    ·split
     ·exact FG _
     ·exact ⟨Nat.zero_le _, Nat.zero_le _, Nat.zero_le _⟩
    ·split
     ·exact FG _
     ·split
      ·split
       ·exact ⟨Nat.le_trans (Q8 _) (by omega), Nat.zero_le _, Nat.zero_le _⟩
       ·exact We hw
      ·exact We hw
end Words
theorem Uz {V : AJ} {ls : Vector BE 4} {ev : List Event} {n m : Nat} (h : (A3 V ls ev).Fit n m) {k : Int} (h0 : 0 ≤ k) (h1 : k < 4) : AL.Yb (ls.at k).queue := by
 have := h.queue k h0 h1
 rw [Ca V ls ev h0 h1] at this
 exact this
theorem AL.K3 (H : AL) {k : Int} (h0 : 0 ≤ k) (h1 : k < 4) : H.set k (H.at_ k) = H := by
 unfold AL.set AL.at_
 rw [Vector.LP _ h0 h1]
theorem Qk {X : AH} {s : As} (h : (AG.Bg X s).2.2.2 = 0) : 0 ≤ (AG.Bg X s).2.1 ∧ (AG.Bg X s).2.1 < 6 := by
 have hf := AG.Og X 6 (Nat.le_refl 6)
 unfold AG.Bg at h ⊢
 split
 ·exact ⟨Int.le_refl 0, show (0 : Int) < 6 by decide⟩
 ·split
  ·exact ⟨Int.le_refl 0, show (0 : Int) < 6 by decide⟩
  ·split
   ·exact ⟨Int.le_refl 0, show (0 : Int) < 6 by decide⟩
   ·split
    ·rename_i h1 h2 h3 h4
     rw [if_neg h1, if_neg h2, if_neg h3, if_pos h4] at h
     exact absurd h (show ¬ (4 : Int) = 0 by decide)
    ·rename_i h4
     show 0 ≤ AG.DM X 6 ∧ AG.DM X 6 < 6
     rw [decide_eq_true_eq] at h4
     omega
namespace AL
variable {H : AL} {n m : Nat}
theorem Fit.enters (h : H.Fit n m) {k : Int} (h0 : 0 ≤ k) (h1 : k < 4) {u : As} (c : (AG.Bg H.w u).2.2.2 = 0) : (({ H with w := (AG.Bg H.w u).1 } : AL).set k { H.at_ k with state := 2, A7 := (AG.Bg H.w u).2.1 }).Fit n m := by
 have hs := AG.KC (s := u) h.G9
 exact (h.land hs.1).set h0 h1 (h.told k h0 h1) (fun _ => Qk c) (h.wait k h0 h1) (h.queue k h0 h1)
theorem Fit.named (h : H.Fit n m) {k : Int} (h0 : 0 ≤ k) (h1 : k < 4) (u : As) : (H.named k u).Fit (n + 11) (m + 11) := by
 unfold AL.named
 split
 ·rename_i c
  have hs := AG.KC (s := u) h.G9
  have hl := AG.PF H.w u
  exact ((h.enters h0 h1 (of_decide_eq_true c)).HH hs.2).mono (by omega) (by omega)
 ·split
  ·exact (h.tell h0 h1 (show noRoom.length ≤ _ by decide)).mono (by omega) (by omega)
  ·exact (h.tell h0 h1 (show QI.length ≤ _ by decide)).mono (by omega) (by omega)
theorem Fit.order (h : H.Fit n m) {k : Int} (h0 : 0 ≤ k) (h1 : k < 4) {u : As} (hu : u.length ≤ 1000) : (H.order k u).Fit (n + 11) (m + 11) := by
 unfold AL.order
 split
 ·exact (h.tell h0 h1 (show Yl.length ≤ _ by decide)).mono (by omega) (by omega)
 ·split
  ·exact h.leave h0 h1
  ·have hp := Words.MD u
   have hd := AG.Mi (b := (H.at_ k).A7) (o := (Words.parse u).1) h.G9 (by have := hp.2.2; omega)
   have hl := AG.Me H.w (H.at_ k).A7 (Words.parse u).1
   exact ((h.land hd.1).HH hd.2).mono (by omega) (by omega)
theorem Fit.FR (h : H.Fit n m) {k : Int} (h0 : 0 ≤ k) (h1 : k < 4) {q : As} {r : List As} (e : (H.at_ k).queue = q :: r) : (H.set k { H.at_ k with queue := r }.FR).Fit n m :=
 h.set h0 h1 (h.told k h0 h1) (h.A7 k h0 h1) (h.wait k h0 h1) (by
  have hq := h.queue k h0 h1
  rw [e] at hq
  exact ⟨Nat.le_of_succ_le hq.1, fun u hu => hq.2 u (List.mem_cons_of_mem _ hu)⟩)
theorem Fit.EN (h : H.Fit n m) {k : Int} (h0 : 0 ≤ k) (h1 : k < 4) : (H.EN k).Fit (n + 11) (m + 11) := by
 unfold AL.EN
 split
 ·exact h.mono (by omega) (by omega)
 ·split
  ·exact h.mono (by omega) (by omega)
  ·rename_i q r e
   have ht := h.FR h0 h1 e
   have hq := (h.queue k h0 h1).2 q (by rw [e]; exact List.mem_cons_self ..)
   simp only []
   split
   ·exact ht.mono (by omega) (by omega)
   ·split
    ·exact ht.named h0 h1 _
    ·exact ht.order h0 h1 (by omega)
theorem Ja (h : H.Fit n m) : ∀ k : Nat, k ≤ 4 → (H.turns k).Fit (n + 11 * k) (m + 11 * k)
 | 0, _ => h
 | k + 1, hk => by
  have ih := Ja h k (by omega)
  unfold AL.turns
  exact (ih.EN (by omega) (by omega)).mono (by omega) (by omega)
end AL
theorem XM {V V3 V4 : AJ} {ls ls3 ls4 : Vector BE 4} {ev ev4 : List Event} {k : Int} {u : As} (c : decide ((AG.Bg V.w u).2.2.2 = 0) = true)
  (e3 : A3 V3 ls3 ev = ({ A3 V ls ev with w := (AG.Bg V.w u).1 } : AL).set k { (A3 V ls ev).at_ k with state := 2, A7 := (AG.Bg V.w u).2.1 })
  (e : A3 V4 ls4 ev4 = (A3 V3 ls3 ev).HH (AG.Bg V.w u).2.2.1) : A3 V4 ls4 ev4 = (A3 V ls ev).named k u := by
 rw [e, e3]
 exact (if_pos c).symm
theorem Ww {V V4 : AJ} {ls ls4 : Vector BE 4} {ev ev4 : List Event} {k : Int} {u : As} (c : decide ((AG.Bg V.w u).2.2.2 = 0) = false) (c2 : decide ((AG.Bg V.w u).2.2.2 = 4) = true)
  (e : A3 V4 ls4 ev4 = (A3 V ls ev).tell k AL.noRoom) : A3 V4 ls4 ev4 = (A3 V ls ev).named k u := e.trans ((if_neg (by show ¬ decide ((AG.Bg V.w u).2.2.2 = 0) = true; rw [c]; decide)).trans (if_pos c2)).symm
theorem Xb {V V4 : AJ} {ls ls4 : Vector BE 4} {ev ev4 : List Event} {k : Int} {u : As} (c : decide ((AG.Bg V.w u).2.2.2 = 0) = false) (c2 : decide ((AG.Bg V.w u).2.2.2 = 4) = false)
  (e : A3 V4 ls4 ev4 = (A3 V ls ev).tell k AL.QI) : A3 V4 ls4 ev4 = (A3 V ls ev).named k u := e.trans ((if_neg (by show ¬ decide ((AG.Bg V.w u).2.2.2 = 0) = true; rw [c]; decide)).trans (if_neg (by show ¬ decide ((AG.Bg V.w u).2.2.2 = 4) = true; rw [c2]; decide))).symm
theorem TR {V V4 : AJ} {ls ls4 : Vector BE 4} {ev ev4 : List Event} {k : Int} {u : As} (h0 : 0 ≤ k) (h1 : k < 4) (c : (!decide ((Words.parse u).2 = 0)) = false) (c2 : decide ((Words.parse u).1.verb = 20) = false)
  (e : A3 V4 ls4 ev4 = (A3 { V with w := (AG.Ff V.w (V.Ap.at k).A7 (Words.parse u).1).1 } ls ev).HH (AG.Ff V.w (V.Ap.at k).A7 (Words.parse u).1).2.1) : A3 V4 ls4 ev4 = (A3 V ls ev).order k u := by
 rw [e, NT]
 have ha := Ca V ls ev h0 h1
 unfold AL.order
 rw [if_neg (by rw [c]; decide), if_neg (by rw [c2]; decide), ha]
 rfl
theorem UY {V : AJ} {ls : Vector BE 4} {ev : List Event} {k : Int} (h0 : 0 ≤ k) (h1 : k < 4) (c : decide ((V.Ap.at k).state = 0) = true) : A3 V ls ev = (A3 V ls ev).EN k := by
 have ha := Ca V ls ev h0 h1
 exact (if_pos (show decide (((A3 V ls ev).at_ k).state = 0) = true by rw [ha]; exact c)).symm
theorem Ub {V : AJ} {ls : Vector BE 4} {ev : List Event} {k : Int} (h0 : 0 ≤ k) (h1 : k < 4) {sv : A0} {sl : BE} (hs : V.Ap.at k = sv) (hl : ls.at k = sl) (hq : sl.queue = []) (c : decide ((V.Ap.at k).state = 0) = false) :
  A3 (V.BL k sv) (ls.put k ⟨sl.queue, sl.wait, sl.told⟩) ev = (A3 V ls ev).EN k := by
 have ha := Ca V ls ev h0 h1
 rw [ET h0 h1 hs hl (f := fun x => x) rfl, AL.K3 _ h0 h1]
 unfold AL.EN
 rw [if_neg (show ¬ decide (((A3 V ls ev).at_ k).state = 0) = true by rw [ha]; show ¬ decide ((V.Ap.at k).state = 0) = true; rw [c]; decide)]
 have e : ((A3 V ls ev).at_ k).queue = [] := by rw [ha, hl]; exact hq
 split
 ·rfl
 ·rename_i q r e2; rw [e] at e2; cases e2
theorem DO {V : AJ} {ls : Vector BE 4} {ev : List Event} {k : Int} (h0 : 0 ≤ k) (h1 : k < 4) {sv : A0} {sl : BE} (hs : V.Ap.at k = sv) (hl : ls.at k = sl) {q : As} {r : List As} (hq : sl.queue = q :: r) (c : decide ((V.Ap.at k).state = 0) = false) (h' : Hd) :
  A3 (V.BL k { sv with Dv := ⟨sv.Dv.now, sv.Dv.Cc, sv.Dv.ret, h'⟩, out := ⟨sv.out.wait, 0, false, sv.out.ring, sv.out.cut⟩ }) (ls.put k ⟨r, sl.wait, sl.told⟩) ev = (A3 V ls ev).set k { (A3 V ls ev).at_ k with queue := r }.FR ∧ ((A3 V ls ev).at_ k).queue = q :: r ∧
  (A3 V ls ev).EN k = if sv.out.B4 = true then (A3 V ls ev).set k { (A3 V ls ev).at_ k with queue := r }.FR else if decide (sv.state = 1) = true then ((A3 V ls ev).set k { (A3 V ls ev).at_ k with queue := r }.FR).named k (Words.O6 32 (Words.Q4 32 q)) else ((A3 V ls ev).set k { (A3 V ls ev).at_ k with queue := r }.FR).order k q := by
 have ha := Ca V ls ev h0 h1
 have e : ((A3 V ls ev).at_ k).queue = q :: r := by rw [ha, hl]; exact hq
 refine ⟨ET h0 h1 hs hl (f := fun x => { x with queue := r }.FR) rfl, e, ?_⟩
 unfold AL.EN
 rw [if_neg (show ¬ decide (((A3 V ls ev).at_ k).state = 0) = true by rw [ha]; show ¬ decide ((V.Ap.at k).state = 0) = true; rw [c]; decide)]
 split
 ·rename_i e2; rw [e] at e2; cases e2
 ·rename_i q' r' e2
  rw [e] at e2
  obtain ⟨rfl, rfl⟩ := List.cons.inj e2
  have e3 : ((A3 V ls ev).at_ k).pg.B4 = sv.out.B4 := by rw [ha, hs]; rfl
  have e4 : ((A3 V ls ev).at_ k).state = sv.state := by rw [ha, hs]; rfl
  simp only [e3, e4]
theorem Sn {H : AL} {i : Int} (h0 : 0 ≤ i) : H.turns (i + 1).toNat = (H.turns i.toNat).EN i := by
 obtain ⟨m, rfl⟩ := Int.eq_ofNat_of_zero_le h0
 rfl
end Go.Ing
/- A house: who comes, bytes that come: plain laws for the walks. -/
namespace Go.Ing
open Go
def Xg : Hd := ⟨none, 0, 0⟩
def EA (t : AN) (g : Page.Pg) : A0 := ⟨1, -1, t, ⟨[], false, false, Xg⟩, ⟨Xg, g.shown, g.B4, g.ring, g.cut⟩, Xg⟩
def XR : BE := ⟨[], [], []⟩
theorem Rf {v : A0} {l : BE} {u : As} (hw : v.out.wait.len = l.wait.length) : (Ci v l).send u = Ci { v with out := ⟨v.out.wait, (Page.send v.out u).1.shown, (Page.send v.out u).1.B4, (Page.send v.out u).1.ring, (Page.send v.out u).1.cut⟩ } l := by
 unfold BA.send Page.send
 rw [IJ hw]
 cases h : Page.Bs v.out with
 | false => rfl
 | true =>
  have e : (Ci v l).pg.cut = v.out.cut := rfl
  cases hc : v.out.cut with
  | true => rw [e, hc]; show Ci v l = Ci { v with out := ⟨v.out.wait, v.out.shown, v.out.B4, v.out.ring, v.out.cut⟩ } l; rfl
  | false => rw [e, hc]; rfl
def HZ (t : AN) (opt : Int) : AN := if decide ((t.C8 opt).2.1 = []) = true then ((t.C8 opt).1.Ask opt).1 else (t.C8 opt).1
def Lv (t : AN) (opt : Int) : As := if decide ((t.C8 opt).2.1 = []) = true then (t.C8 opt).2.1 ++ ((t.C8 opt).1.Ask opt).2.1 else (t.C8 opt).2.1 ++ []
def KN (t : AN) (g : Page.Pg) (opt : Int) : Page.Pg := (Page.send ⟨Xg, g.shown, g.B4, g.ring, g.cut⟩ (Lv t opt)).1
theorem L6 (t : AN) (g : Page.Pg) (opt : Int) : (Ci (EA t g) XR).offer opt = Ci (EA (HZ t opt) (KN t g opt)) XR := by
 have h := Rf (v := EA (HZ t opt) g) (l := XR) (u := Lv t opt) rfl
 unfold BA.offer
 have e : (Ci (EA t g) XR).EE = t := rfl
 rw [e]
 by_cases c : decide ((t.C8 opt).2.1 = []) = true
 ·rw [if_pos c]
  have e1 : HZ t opt = ((t.C8 opt).1.Ask opt).1 := if_pos c
  have e2 : Lv t opt = [] ++ ((t.C8 opt).1.Ask opt).2.1 := (if_pos c).trans (by rw [of_decide_eq_true c])
  rw [← e1, ← e2]
  exact h
 ·rw [if_neg c]
  have e1 : HZ t opt = (t.C8 opt).1 := if_neg c
  have e2 : Lv t opt = (t.C8 opt).2.1 ++ [] := if_neg c
  rw [← e1, ← e2]
  exact h
def Dg (j : Int) : Int := (((Vector.replicate 2 (default : Int)).put 0 3).put 1 31).at j
def Ef : Nat → AN × Page.Pg
 | 0 => (default, ⟨0, false, [], false⟩)
 | j + 1 => (HZ (Ef j).1 (Dg j), KN (Ef j).1 (Ef j).2 (Dg j))
theorem Gg {j : Int} (h0 : 0 ≤ j) : Ef (j + 1).toNat = (HZ (Ef j.toNat).1 (Dg j), KN (Ef j.toNat).1 (Ef j.toNat).2 (Dg j)) := by
 obtain ⟨m, rfl⟩ := Int.eq_ofNat_of_zero_le h0
 rfl
theorem OI : Ci (EA (Ef 2).1 (Ef 2).2) XR = (({ (default : BA) with state := 1, A7 := -1 }).offer 3).offer 31 := by
 have h0 : ({ (default : BA) with state := 1, A7 := -1 } : BA) = Ci (EA (Ef 0).1 (Ef 0).2) XR := rfl
 rw [h0, L6, L6]
 rfl
theorem FC (t : AN) (opt : Int) : (t.C8 opt).2.1.length ≤ 3 := by
 unfold AN.C8
 split
 ·exact Nat.zero_le _
 ·split
  ·exact Nat.zero_le _
  ·split
   ·exact Nat.zero_le _
   ·exact Nat.le_refl 3
theorem HJ (t : AN) (opt : Int) : (t.Ask opt).2.1.length ≤ 3 := by
 unfold AN.Ask
 split
 ·exact Nat.zero_le _
 ·split
  ·exact Nat.zero_le _
  ·split
   ·exact Nat.zero_le _
   ·exact Nat.le_refl 3
theorem AL.Fit.comes {H : AL} {n m : Nat} (h : H.Fit n m) {k : Int} (h0 : 0 ≤ k) (h1 : k < 4) (t : AN) (g : Page.Pg) : (H.set k (Ci (EA t g) XR)).Fit n m :=
 h.set h0 h1 (Nat.zero_le _) (fun e => absurd (show (1 : Int) = 2 from e) (by decide)) (fun u hu => by cases hu) ⟨Nat.zero_le _, fun u hu => by cases hu⟩
theorem AL.Fit.RR {H : AL} {n m : Nat} (h : H.Fit n m) {k : Int} (h0 : 0 ≤ k) (h1 : k < 4) : (H.RR k).Fit (n + 221) (m + 220) := by
 unfold AL.RR
 rw [← OI]
 exact ((h.comes h0 h1 _ _).tell h0 h1 (show AL.Hh.length ≤ _ by decide)).B2.mono (by omega) (by omega)
end Go.Ing
/- A house: an act: plain laws for the walks. -/
namespace Go.Ing
open Go
theorem PL {v : A0} {l : BE} (h : v.Dv.queue.len = l.queue.length) : (Ci v l).KZ = Bc.Bs v.Dv l.queue := by
 unfold BA.KZ Bc.Bs Bc.Ii
 rw [h]; rfl
theorem UB {v : A0} {l : BE} {u : As} (h : v.Dv.queue.len = l.queue.length) (c : Bc.Bs v.Dv l.queue = false) : (Ci v l).typed u = (Ci v l, 0) := if_pos (by rw [PL h, c]; rfl)
theorem VU {v : A0} {l : BE} {u : As} (h : v.Dv.queue.len = l.queue.length) (c : Bc.Bs v.Dv l.queue = true) (q : Hd) :
  (Ci v l).typed u = (Ci { v with Dv := ⟨(Bc.feed (Bc.start v.Dv l.queue) u).now, (Bc.feed (Bc.start v.Dv l.queue) u).Cc, (Bc.feed (Bc.start v.Dv l.queue) u).ret, q⟩ } ⟨(Bc.feed (Bc.start v.Dv l.queue) u).queue, l.wait, l.told⟩, (Bc.feed (Bc.start v.Dv l.queue) u).lost) :=
 (if_neg (by rw [PL h, c]; decide)).trans rfl
theorem Qr (s : BA) (u : As) : (s.typed u).1.told = s.told ∧ (s.typed u).1.state = s.state ∧ (s.typed u).1.A7 = s.A7 ∧ (s.typed u).1.wait = s.wait ∧ (AL.Yb s.queue → AL.Yb (s.typed u).1.queue) := by
 unfold BA.typed
 split
 ·exact ⟨rfl, rfl, rfl, rfl, fun h => h⟩
 ·rename_i c
  refine ⟨rfl, rfl, rfl, rfl, fun _ => ?_⟩
  have hg : Bc.Bs ⟨s.now, s.Cc, s.ret, ⟨none, s.queue.length, 0⟩⟩ s.queue = true := by
   have : s.KZ = true := by simpa using c
   exact this
  have ho := Bc.S5 u ((Bc.G0 (l := ⟨s.now, s.Cc, s.ret, ⟨none, s.queue.length, 0⟩⟩) rfl).1 hg)
  exact ⟨ho.len, fun q hq => ((Bc.Gi q).1 (ho.queue q hq)).1⟩
theorem SJ (s : BA) (u : As) : (s.send u).told = s.told ∧ (s.send u).state = s.state ∧ (s.send u).A7 = s.A7 ∧ (s.send u).wait = s.wait ∧ (s.send u).queue = s.queue := by
 unfold BA.send
 split
 ·exact ⟨rfl, rfl, rfl, rfl, rfl⟩
 ·split <;> exact ⟨rfl, rfl, rfl, rfl, rfl⟩
def DU (s : BA) (u : As) : BA × Int := (s.bytes u).1.typed (s.bytes u).2
theorem Pc (s : BA) (u : As) : (DU s u).1.told = s.told ∧ (DU s u).1.state = s.state ∧ (DU s u).1.A7 = s.A7 ∧ (DU s u).1.wait = s.wait ∧ (AL.Yb s.queue → AL.Yb (DU s u).1.queue) := by
 have h1 := Qr (s.bytes u).1 (s.bytes u).2
 have h2 := SJ { s with EE := (s.EE.DN u).1 } (s.EE.DN u).2.2.1
 obtain ⟨a, b, c, d, e⟩ := h1
 obtain ⟨a', b', c', d', e'⟩ := h2
 exact ⟨a.trans a', b.trans b', c.trans c', d.trans d', fun hq => e (by rw [show (s.bytes u).1.queue = s.queue from e']; exact hq)⟩
theorem LL (H : AL) (k : Int) (u : As) : H.byte k u = (if decide (0 < (DU (H.at_ k) u).2) = true then (H.set k (DU (H.at_ k) u).1).tell k AL.QV else H.set k (DU (H.at_ k) u).1).B2 := rfl
def heard (v : A0) (u : As) : A0 := { v with EE := (v.EE.DN u).1, out := ⟨v.out.wait, (Page.send v.out (v.EE.DN u).2.2.1).1.shown, (Page.send v.out (v.EE.DN u).2.2.1).1.B4, (Page.send v.out (v.EE.DN u).2.2.1).1.ring, (Page.send v.out (v.EE.DN u).2.2.1).1.cut⟩ }
theorem Oe {v : A0} {l : BE} {u : As} (hw : v.out.wait.len = l.wait.length) : (Ci v l).bytes u = (Ci (heard v u) l, (v.EE.DN u).2.1) := by
 unfold BA.bytes
 exact congrArg (fun x => (x, _)) (Rf (v := { v with EE := (v.EE.DN u).1 }) (l := l) (u := (v.EE.DN u).2.2.1) hw)
theorem G4 {v : A0} {l : BE} {u : As} (hw : v.out.wait.len = l.wait.length) (h : v.Dv.queue.len = l.queue.length) (c : Bc.Bs v.Dv l.queue = false) : DU (Ci v l) u = (Ci (heard v u) l, 0) := by
 unfold DU
 rw [Oe hw]
 exact UB (v := heard v u) h c
theorem H4 {v : A0} {l : BE} {u : As} (hw : v.out.wait.len = l.wait.length) (h : v.Dv.queue.len = l.queue.length) (c : Bc.Bs v.Dv l.queue = true) (q : Hd) :
  DU (Ci v l) u = (Ci { heard v u with Dv := ⟨(Bc.feed (Bc.start v.Dv l.queue) (v.EE.DN u).2.1).now, (Bc.feed (Bc.start v.Dv l.queue) (v.EE.DN u).2.1).Cc, (Bc.feed (Bc.start v.Dv l.queue) (v.EE.DN u).2.1).ret, q⟩ } ⟨(Bc.feed (Bc.start v.Dv l.queue) (v.EE.DN u).2.1).queue, l.wait, l.told⟩, (Bc.feed (Bc.start v.Dv l.queue) (v.EE.DN u).2.1).lost) := by
 unfold DU
 rw [Oe hw]
 exact VU (v := heard v u) h c q
namespace AL
variable {H : AL} {n m : Nat}
theorem Pu {i : Int} (h0 : 0 ≤ i) : H.EJ (i + 1).toNat = (H.EJ i.toNat).set i { (H.EJ i.toNat).at_ i with told := [] } := by
 obtain ⟨k, rfl⟩ := Int.eq_ofNat_of_zero_le h0
 rfl
theorem IG : ∀ k : Nat, (H.EJ k).w = H.w ∧ (H.EJ k).last = H.last ∧ (H.EJ k).Ce = H.Ce
 | 0 => ⟨rfl, rfl, rfl⟩
 | k + 1 => IG k
theorem N3 : ∀ k : Nat, k ≤ 4 → ∀ j : Int, 0 ≤ j → j < 4 → (H.EJ k).at_ j = if j < k then { H.at_ j with told := [] } else H.at_ j
 | 0, _, j, j0, _ => by rw [if_neg (by omega)]; rfl
 | k + 1, hk, j, j0, j1 => by
  have ih := N3 k (by omega)
  show (((H.EJ k).set k _).at_ j) = _
  rw [IU _ (by omega) (by omega) j0]
  by_cases c : j = (k : Int)
  ·subst c
   rw [if_pos rfl, if_pos (by omega), ih _ j0 j1, if_neg (by omega)]
  ·rw [if_neg c, ih j j0 j1]
   by_cases c2 : j < (k : Int)
   ·rw [if_pos c2, if_pos (by omega)]
   ·rw [if_neg c2, if_neg (by omega)]
theorem Rg {j : Int} (j0 : 0 ≤ j) (j1 : j < 4) : H.begun.at_ j = { H.at_ j with told := [] } := by
 have := N3 (H := { H with Ce := H.Ce + 1, last := [] }) 4 (Nat.le_refl 4) j j0 j1
 rw [if_pos (by omega)] at this
 exact this
theorem Fit.begun (h : H.Fit n m) : H.begun.Fit 0 0 := by
 have hs := IG (H := { H with Ce := H.Ce + 1, last := [] }) 4
 refine ⟨by show (EJ _ 4).w.Lq; rw [hs.1]; exact h.G9, fun j a b => ?_, by show (EJ _ 4).last.length ≤ 0; rw [hs.2.1]; exact Nat.le_refl 0, fun j a b => ?_, fun j a b => ?_, fun j a b => ?_⟩ <;> rw [Rg a b]
 ·exact Nat.le_refl 0
 ·exact h.A7 j a b
 ·exact h.wait j a b
 ·exact h.queue j a b
theorem Fit.typed (h : H.Fit n m) {k : Int} (h0 : 0 ≤ k) (h1 : k < 4) (u : As) : (H.set k (DU (H.at_ k) u).1).Fit n m := by
 obtain ⟨a, b, c, d, e⟩ := Pc (H.at_ k) u
 exact h.set h0 h1 (by rw [a]; exact h.told k h0 h1) (by rw [b, c]; exact h.A7 k h0 h1) (by rw [d]; exact h.wait k h0 h1) (e (h.queue k h0 h1))
theorem Fit.Lu (h : H.Fit n m) {k : Int} (h0 : 0 ≤ k) (h1 : k < 4) (z : Int) : (H.set k ((H.at_ k).Lu z)).Fit n m :=
 h.set h0 h1 (h.told k h0 h1) (h.A7 k h0 h1) (h.wait k h0 h1) (h.queue k h0 h1)
theorem Fit.Oj (h : H.Fit n m) (d : Int) : (H.Oj d).Fit (n + 400) (m + 400) := by
 have h1 := Ja h 4 (Nat.le_refl 4)
 have hr := AG.Mv (draw := d) h1.G9
 have hl := AG.O9 h1.G9.L4 d
 exact (((h1.land hr.1).HH hr.2).B2).mono (by omega) (by omega)
theorem Fit.byte (h : H.Fit 0 0) {k : Int} (h0 : 0 ≤ k) (h1 : k < 4) (u : As) : (H.byte k u).Fit 1000 1000 := by
 rw [LL]
 refine (Fit.B2 (n := 1) (m := 0) ?_).mono (by omega) (by omega)
 split
 ·exact (h.typed h0 h1 _).tell h0 h1 (show QV.length ≤ _ by decide)
 ·exact (h.typed h0 h1 _).mono (by omega) (by omega)
theorem KU (P : AL → Prop) (h0 : P H) (hp : ∀ d, P (H.Oj d)) (hc : ∀ k, 0 ≤ k → k < 4 → P (H.RR k)) (hb : ∀ k u, 0 ≤ k → k < 4 → P (H.byte k u)) (ht : ∀ k z, 0 ≤ k → k < 4 → P ((H.set k ((H.at_ k).Lu z)).B2)) (hl : ∀ k, 0 ≤ k → k < 4 → P (H.leave k).B2) (a : Bq) : P (H.Eh a).1 := by
 unfold AL.Eh
 split
 ·dsimp only; exact hp a.n
 ·split
  ·dsimp only; exact h0
  ·split
   ·dsimp only; exact h0
   ·rename_i c
    have hs : 0 ≤ a.BL ∧ a.BL < 4 := by simp only [Bool.or_eq_true, decide_eq_true_eq] at c; omega
    split
    ·dsimp only; exact h0
    ·split
     ·dsimp only; exact hc _ hs.1 hs.2
     ·split
      ·dsimp only; exact hb _ _ hs.1 hs.2
      ·split
       ·dsimp only; exact ht _ _ hs.1 hs.2
       ·dsimp only; exact hl _ hs.1 hs.2
theorem Fit.Eh (h : H.Fit 0 0) (a : Bq) : (H.Eh a).1.Fit 1000 1000 :=
 KU (fun X => X.Fit 1000 1000) (h.mono (by omega) (by omega)) (fun d => (h.Oj d).mono (by omega) (by omega)) (fun k h0 h1 => (h.RR h0 h1).mono (by omega) (by omega)) (fun k u h0 h1 => h.byte h0 h1 u)
  (fun k z h0 h1 => ((h.Lu h0 h1 z).B2).mono (by omega) (by omega)) (fun k h0 h1 => ((h.leave h0 h1).B2).mono (by omega) (by omega)) a
theorem Fit.act (h : H.Fit n m) (a : Bq) : (H.act a).1.Fit (n + 1000) (m + 1000) := by
 unfold AL.act
 split
 ·exact h.mono (by omega) (by omega)
 ·exact (h.begun.Eh a).mono (by omega) (by omega)
theorem Fe {H : AL} (c : decide (400 ≤ H.Ce) = false) (a : Bq) : H.act a = H.begun.Eh a := if_neg (by rw [c]; decide)
end AL
theorem GD (V : AJ) (ls : Vector BE 4) (ev : List Event) {k : Int} (h0 : 0 ≤ k) (h1 : k < 4) : decide (((A3 V ls ev).at_ k).state = 0) = decide ((V.Ap.at k).state = 0) := by rw [Ca V ls ev h0 h1]; rfl
theorem Ev {V : AJ} {ls : Vector BE 4} {ev : List Event} {k : Int} (h0 : 0 ≤ k) (h1 : k < 4) {sv v : A0} {sl l : BE} (hs : V.Ap.at k = sv) (hl : ls.at k = sl) {u : As} {z : Int} (e : DU (Ci sv sl) u = (Ci v l, z)) :
  A3 (V.BL k v) (ls.put k l) ev = (A3 V ls ev).set k (DU ((A3 V ls ev).at_ k) u).1 ∧ (DU ((A3 V ls ev).at_ k) u).2 = z := by
 have ha : DU ((A3 V ls ev).at_ k) u = (Ci v l, z) := by rw [Ca V ls ev h0 h1, hs, hl]; exact e
 rw [Ht V ls ev h0 h1, ha]
 exact ⟨rfl, rfl⟩
theorem Hq {V V2 : AJ} {ls ls2 : Vector BE 4} {ev : List Event} {k : Int} (h0 : 0 ≤ k) (h1 : k < 4) {u : As} {z : Int} (e : A3 V2 ls2 ev = (A3 V ls ev).set k (DU ((A3 V ls ev).at_ k) u).1 ∧ (DU ((A3 V ls ev).at_ k) u).2 = z) (hF : (A3 V ls ev).Fit 0 0) : (A3 V2 ls2 ev).Fit 0 0 := by
 rw [e.1]; exact hF.typed h0 h1 u
theorem LK {V V2 V3 V4 : AJ} {ls ls2 ls3 ls4 : Vector BE 4} {ev ev3 ev4 : List Event} {k : Int} (_ : 0 ≤ k) (_ : k < 4) {u : As} {z : Int} (e : A3 V2 ls2 ev = (A3 V ls ev).set k (DU ((A3 V ls ev).at_ k) u).1 ∧ (DU ((A3 V ls ev).at_ k) u).2 = z)
  (e3 : (decide (0 < z) = true ∧ A3 V3 ls3 ev3 = (A3 V2 ls2 ev).tell k AL.QV) ∨ (decide (0 < z) = false ∧ A3 V3 ls3 ev3 = A3 V2 ls2 ev)) (e4 : A3 V4 ls4 ev4 = (A3 V3 ls3 ev3).B2) : A3 V4 ls4 ev4 = (A3 V ls ev).byte k u := by
 rw [e4, LL, e.2]
 rcases e3 with ⟨c, e3⟩ | ⟨c, e3⟩
 ·rw [e3, if_pos c, e.1]
 ·rw [e3, if_neg (by rw [c]; decide), e.1]
theorem VX (V : AJ) (ls : Vector BE 4) (ev : List Event) {k : Int} (h0 : 0 ≤ k) (h1 : k < 4) {sv : A0} (hs : V.Ap.at k = sv) (n : Int) : sv.out.ring.take (max 0 (min n (sv.out.ring.length : Int))).toNat = ((A3 V ls ev).at_ k).out n := by
 rw [Ca V ls ev h0 h1, hs]; rfl
theorem UX (t : AN) (u : As) : (t.DN u).2.1.length ≤ u.length := by
 unfold AN.DN
 split
 ·exact Nat.zero_le _
 ·exact (AN.VR u t).1
end Go.Ing
/- A house, from outside: plain laws for the walks. -/
namespace Go.Ing
open Go
namespace AL
def HV (H : AL) (i : Int) : Int × Int := if decide ((H.at_ i).state = 2) = true then (2, (H.at_ i).A7) else ((H.at_ i).state, -1)
theorem RU : ∀ (l : List Bq) (H : AL) (a : Bq), run H (l ++ [a]) = (((run H l).1.act a).1, (run H l).2 ++ [((run H l).1.act a).2])
 | [], _, _ => rfl
 | b :: r, H, a => by
  have ih := RU r (H.act b).1 a
  show ((run (H.act b).1 (r ++ [a])).1, (H.act b).2 :: (run (H.act b).1 (r ++ [a])).2) = _
  rw [ih]; rfl
theorem V6 {H : AL} {xs : List Bq} {k : Int} (h0 : 0 ≤ k) (h1 : k < xs.length) : run H (xs.take (k + 1).toNat) = (((run H (xs.take k.toNat)).1.act (xs.getD k.toNat default)).1, (run H (xs.take k.toNat)).2 ++ [((run H (xs.take k.toNat)).1.act (xs.getD k.toNat default)).2]) := by
 obtain ⟨m, rfl⟩ := Int.eq_ofNat_of_zero_le h0
 have hm : m < xs.length := by omega
 show run H (xs.take (m + 1)) = (((run H (xs.take m)).1.act (xs.getD m default)).1, (run H (xs.take m)).2 ++ [((run H (xs.take m)).1.act (xs.getD m default)).2])
 rw [List.take_add_one, List.getElem?_eq_getElem hm, List.getD_eq_getElem?_getD, List.getElem?_eq_getElem hm]
 exact RU _ _ _
def Fits (H : AL) : Prop := ∃ n m, H.Fit n m
theorem Fits.act {H : AL} (h : H.Fits) (a : Bq) : (H.act a).1.Fits := by
 obtain ⟨n, m, h⟩ := h
 exact ⟨_, _, h.act a⟩
theorem Fits.run : ∀ (l : List Bq) {H : AL}, H.Fits → (run H l).1.Fits
 | [], _, h => h
 | a :: r, _, h => Fits.run r (h.act a)
theorem W4 : AH.new.Lq := by
 refine ⟨fun i => ?_, fun i => ?_, fun i => ?_⟩
 ·rcases Vector.NA AH.new.AX i with e | ⟨j, j0, j1, e⟩
  ·rw [e]; exact Nat.zero_le _
  ·rw [e]
   have : j = 0 ∨ j = 1 ∨ j = 2 ∨ j = 3 ∨ j = 4 ∨ j = 5 ∨ j = 6 ∨ j = 7 ∨ j = 8 := by omega
   rcases this with h | h | h | h | h | h | h | h | h <;> subst h <;> decide
 ·rcases Vector.NA AH.new.AW i with e | ⟨j, j0, j1, e⟩
  ·rw [e]; exact Nat.zero_le _
  ·rw [e]
   have : j = 0 ∨ j = 1 ∨ j = 2 ∨ j = 3 ∨ j = 4 ∨ j = 5 := by omega
   rcases this with h | h | h | h | h | h <;> subst h <;> decide
 ·rcases Vector.NA AH.new.Bx i with e | ⟨j, j0, j1, e⟩
  ·rw [e]; exact Nat.zero_le _
  ·rw [e]
   have : j = 0 ∨ j = 1 ∨ j = 2 ∨ j = 3 ∨ j = 4 ∨ j = 5 := by omega
   rcases this with h | h | h | h | h | h <;> subst h <;> decide
theorem WG {k : Int} (h0 : 0 ≤ k) (h1 : k < 4) : AL.new.at_ k = default := by
 rcases four h0 h1 with e | e | e | e <;> subst e <;> rfl
theorem XK : AL.new.Fit 0 0 := by
 refine ⟨W4, fun k a b => ?_, Nat.le_refl 0, fun k a b => ?_, fun k a b => ?_, fun k a b => ?_⟩ <;> rw [WG a b]
 ·exact Nat.le_refl 0
 ·exact fun e => absurd (show (0 : Int) = 2 from e) (by decide)
 ·exact fun u hu => by cases hu
 ·exact ⟨Nat.zero_le _, fun u hu => by cases hu⟩
end AL
theorem St.Xd {w0 w : World} {M : List Nat} {L l : List Ac} (h : St w0 M w L) (hl : ∀ r ∈ l, r.CN = [] ∧ r.ok w) : St w0 M w (Ac.DY l :: L) := by
 have hf : (Ac.DY l).CN = [] := by
  show l.flatMap Ac.CN = []
  rw [List.flatMap_eq_nil_iff]
  exact fun r hr => (hl r hr).1
 refine ⟨h.os, h.tape, h.output, h.size, h.Gv, fun r hr => ?_, fun r hr => ?_, List.pairwise_cons.2 ⟨fun s hs b hb => ?_, h.IL⟩⟩
 ·rcases List.mem_cons.1 hr with rfl | hr
  ·refine ⟨fun r hr => (hl r hr).2, ?_⟩
   refine List.Pairwise.imp_of_mem (R := fun _ _ => True) (fun {a b} ha hb _ x hx => ?_) (List.pairwise_of_forall (fun _ _ => trivial))
   rw [(hl a ha).1] at hx; cases hx
  ·exact h.ok r hr
 ·rcases List.mem_cons.1 hr with rfl | hr
  ·rw [hf]; exact fun b hb => by cases hb
  ·exact h.CN r hr
 ·rw [hf] at hb; cases hb
def MZ : Vector A0 4 := Vector.replicate 4 default
def Mg : Vector BE 4 := Vector.replicate 4 ⟨[], [], []⟩
theorem Wc (T : Nat) (w : World) : ∀ r ∈ B6 T MZ Mg, r.CN = [] ∧ r.ok w := by
 have hs : ∀ r ∈ FH T default ⟨[], [], []⟩, r.CN = [] ∧ r.ok w := fun r hr => by
  unfold FH at hr
  simp only [List.mem_cons, List.mem_nil_iff, or_false] at hr
  rcases hr with rfl | rfl | rfl <;> exact ⟨rfl, .inl ⟨rfl, rfl⟩⟩
 intro r hr
 have e : B6 T MZ Mg = FH T default ⟨[], [], []⟩ ++ (FH T default ⟨[], [], []⟩ ++ (FH T default ⟨[], [], []⟩ ++ FH T default ⟨[], [], []⟩)) := rfl
 rw [e] at hr
 simp only [List.mem_append] at hr
 rcases hr with h | h | h | h <;> exact hs r h
def Eg (v : A0) : Int × Int := if decide (v.state = 2) = true then (2, v.A7) else (v.state, -1)
theorem II (V : AJ) (ls : Vector BE 4) (ev : List Event) {i : Int} (h0 : 0 ≤ i) (h1 : i < 4) : Eg (V.Ap.at i) = (A3 V ls ev).HV i := by
 unfold AL.HV
 rw [Ca V ls ev h0 h1]
 rfl
end Go.Ing
/- Engine: calls of closures that read what they are handed; slices that are only read, beside boxes. -/
namespace Go.Ing
open Go
section
variable {P : Program} {n : Nat} {w0 : World} {M : List Nat} {Q : Exit → Go.Act → World → Prop} {F : List (Nat × Value)} {L : List Ac} {ops : Array Oper} {rest : List Oper}
def bB (w : World) (M : List Nat) (h : Hd) (T sz : Nat) (cs : List Value) : Prop := Rd w h T sz cs ∧ (cs ≠ [] → ∀ b o, h.a = some ⟨b, o, none⟩ → b ∉ M)
theorem Kn.Xf {h : Hd} {T sz : Nat} {cs : List Value} (hr : bB w0 M h T sz cs) : Kn w0 M L h T sz cs := fun w hS => by
 by_cases hc : cs = []
 ·subst hc; exact ⟨hr.1.1, fun h => absurd rfl h⟩
 ·exact hS.cg hr.1 (hr.2 hc)
theorem QW {α β : Type} {ea : α → List Value} {eb : β → List Value} {p q : Nat} {g : α → β} {s : α → β → α} {T U f E : Nat} {fs : Array Field} {x : Operand} {X : α} {v : Value} (hl : AS ea eb p q g s) (hu : P.underlying T = some (.struct fs)) (hf : (fs[f]?).map (fun fd => (fd.offset, fd.type)) = some (p, E)) (hE : O0 P E) (hx : ev F x = some (.agg (ea X).toArray)) (hv : eb (g X) = [v]) : PS P n w0 M (.field T x f) U F L v L := CD fun a w hF => by
 cases h : fs[f]? with
 | none => rw [h] at hf; cases hf
 | some fd =>
  rw [h] at hf
  simp at hf
  obtain ⟨rfl, rfl⟩ := hf
  have hg := hl.get X
  have hb := hl.Ts X
  have hq : q = 1 := by rw [← hl.len (g X), hv]; rfl
  subst hq
  rw [hv, List.drop_eq_getElem_cons (by omega), List.take_succ_cons, List.take_zero] at hg
  have hc : (ea X)[fd.offset]? = some v := by
   rw [List.getElem?_eq_getElem (by omega), List.head_eq_of_cons_eq hg]
  have hE' := hE w
  simp [execOp, Instr.field, hF.ev hx, underlying, hu, h, part, hE', asAgg, hc]
end
theorem Rd.pull {w0 w : World} {L A K : List Ac} {h : Hd} {T sz : Nat} {cs : List Value} (hr : Rd w0 h T sz cs) (hS : St w0 [] w L) (hp : Av L A K) : bB w (CW A) h T sz cs :=
 ⟨hS.rd hr, fun hne b o e => by
  obtain ⟨b', o', C, fz, h1, h2, _⟩ := hr.2 hne
  rw [e] at h1
  injection h1 with h1
  injection h1 with h1
  subst h1
  exact M5 h2 (by simp) hS hp⟩
instance : Inhabited AJ := ⟨⟨default, Vector.replicate 4 default, 0, ⟨none, 0, 0⟩⟩⟩
end Go.Ing
/- Engine: the texts in a slice of acts that came in, and how much they can take. -/
namespace Go.Ing
open Go Go.RowKit Go.ChangeShapes Go.WideShapes Go.ChangeAt
section
variable {H : Type} {enc : TypeId × Value → H} {P : Program} {w : World}
theorem L7 {e : TypeId} {d : DataW H} : ∀ {l : List (DataW H)}, d ∈ l → ∀ n ∈ d.weights P e, n ∈ DataW.weightsAll P e l
 | [], h, _, _ => by cases h
 | x :: r, h, n, hn => by
  simp only [DataW.weightsAll]
  rcases List.mem_cons.1 h with rfl | h
  ·exact List.mem_append_left _ hn
  ·exact List.mem_append_right _ (L7 h n hn)
theorem R5 {t E TS : TypeId} {fs : Array Field} {h : Hd} {d : DataW H} {p : List MemPlace} {T0 : Nat} {xs : List Bq} (hT : P.underlying t = some (.slice E)) (hE : P.underlying E = some (.struct fs)) (hf : (fs[3]?).map (fun f => (f.type, f.offset)) = some (TS, 3)) (hS : P.underlying TS = some .string) (zE : P.cellsOf E = 4) (zS : P.cellsOf TS = 1)
  (hd : DataW.Trod enc P w 0 (fun _ => true) true t h.val d p) (hr : Rd w h T0 4 (xs.flatMap Bq.enc)) (hw : ∀ n ∈ d.weights P t, n ≤ reachBytes) : ∀ a ∈ xs, a.bytes.length ≤ 140737488351232 := by
 have hlen : h.len = xs.length := hr.J1 Bq.fl (by decide)
 intro a ha
 obtain ⟨i, hi, rfl⟩ := List.getElem_of_mem ha
 have hb : ∃ b o, h.a = some ⟨b, o, none⟩ := by
  have hne : xs.flatMap Bq.enc ≠ [] := fun e => by
   have := congrArg List.length e
   rw [Cv Bq.fl.len] at this
   simp only [List.length_nil] at this
   omega
  obtain ⟨b, o, _, _, e, _⟩ := hr.2 hne
  exact ⟨b, o, e⟩
 obtain ⟨b, o, hb⟩ := hb
 obtain ⟨fuel, hfu⟩ := hd
 have hv : h.val = .slice (some ⟨b, o, none⟩) h.len h.cap := by rw [← hb]; rfl
 have hcs : h.val.cells.toList = [.slice (some ⟨b, o, none⟩) h.len h.cap] := by rw [hv]; rfl
 rw [hcs] at hfu
 rcases DataW.trod_slice hT hfu with ⟨h3, _⟩ | ⟨a', len, cap, elems, rest, m, _, h3, h4, _, hlc, _, h5, hel, _⟩
 ·simp at h3
 ·simp at h3
  obtain ⟨rfl, rfl, rfl⟩ := h3
  have hd' : d = .slice (elems.map (·.1)) (rest.map (·.1)) := congrArg Prod.fst h4
  have h6 := hel i (by omega)
  have hi' : i < elems.length := by omega
  rw [List.getElem?_eq_getElem hi', Option.bind_eq_some_iff] at h6
  obtain ⟨c, h7, h9⟩ := h6
  obtain ⟨ys, q, _, hx, hl, hlen', hfl⟩ := DataW.trod_struct hE h9
  cases hf3 : fs[3]? with
  | none => rw [hf3] at hf; cases hf
  | some f =>
   rw [hf3] at hf
   simp at hf
   obtain ⟨rfl, hoff⟩ := hf
   have h1 := hfl 3 f hf3
   have h3s : 3 < fs.size := by
    rcases Nat.lt_or_ge 3 fs.size with h' | h'
    ·exact h'
    ·rw [Array.getElem?_eq_none h'] at hf3; cases hf3
   have h2 : ys[3]? = some (ys[3]'(by omega)) := List.getElem?_eq_getElem (by omega)
   rw [h2, zS, hoff] at h1
   obtain ⟨s, e1, e2, _⟩ := DataW.trod_string hS h1
   have hc := World.cells?_some h7
   rw [zE] at hc
   have h10 := hc.2.2 3 (by omega)
   have h11 : c[3]? = some (.string s) := by
    have := congrArg (fun l => l[0]?) e1
    simp only [List.getElem?_take, List.getElem?_drop] at this
    simpa using this
   obtain ⟨b', o', C, fz, k1, k2, k3, k4⟩ := NP Bq.fl Bq.l3 hr hi (by decide)
   have k1' : (some ⟨b, o, none⟩ : Option Addr) = some ⟨b', o', none⟩ := hb.symm.trans k1
   injection k1' with k1'
   injection k1' with kb ko
   subst kb; subst ko
   rw [ED, ED] at h10
   unfold World.cell? at h10
   simp only [k2] at h10
   have k5 : C[o + i * 4 + 3]? = some (BP xs[i].bytes) := by
    have := congrArg (fun l => l[0]?) k4
    simp only [List.getElem?_take, List.getElem?_drop] at this
    simpa [A4] using this
   have k6 : BP xs[i].bytes = .string s := by
    rw [h11] at h10
    have : C[o + i * 4 + 3]? = some (Value.string s) := by simpa using h10
    rw [k5] at this
    injection this
   have k7 : s.data.toList = xs[i].bytes := by
    simp [BP] at k6
    rw [← k6]
   have hmem : xs[i].bytes.length ∈ d.weights P t := by
    rw [hd']
    simp only [DataW.weights, hT]
    refine List.mem_cons_of_mem _ (List.mem_append_left _ (L7 (d := elems[i].1) (List.mem_map.2 ⟨elems[i], List.getElem_mem _, rfl⟩) _ ?_))
    have hx' : elems[i].1 = .agg (ys.map (·.1)) := congrArg Prod.fst hx
    rw [hx']
    simp only [DataW.weights, hE]
    refine DataW.weights_mem_each (j := 3) (t := f.type) (d := (ys[3]'(by omega)).1) ?_ ?_ _ ?_
    ·rw [List.getElem?_map]; simp [hf3]
    ·rw [List.getElem?_map, h2]; rfl
    ·rw [e2, k7]; simp [DataW.weights]
   exact hw _ hmem
theorem Us {t TS : TypeId} {fs : Array Field} {i o : Nat} {v : Value} {d : DataW H} {p : List MemPlace} {s : As} (hu : P.underlying t = some (.struct fs)) (hfi : (fs[i]?).map (fun f => (f.type, f.offset)) = some (TS, o)) (hS : P.underlying TS = some .string) (zS : P.cellsOf TS = 1)
  (hd : DataW.Trod enc P w 0 (fun _ => true) true t v d p) (hh : (v.cells.toList.drop o).take 1 = [BP s]) (hw : ∀ n ∈ d.weights P t, n ≤ reachBytes) : s.length ≤ 140737488351232 := by
 obtain ⟨fuel, hf⟩ := hd
 obtain ⟨xs, n, _, hx, hl, hlen, hfl⟩ := DataW.trod_struct hu hf
 cases hfi' : fs[i]? with
 | none => rw [hfi'] at hfi; cases hfi
 | some f =>
  rw [hfi'] at hfi
  simp at hfi
  obtain ⟨rfl, rfl⟩ := hfi
  have h1 := hfl i f hfi'
  have hi : i < fs.size := by
   rcases Nat.lt_or_ge i fs.size with h' | h'
   ·exact h'
   ·rw [Array.getElem?_eq_none h'] at hfi'; cases hfi'
  have h2 : xs[i]? = some (xs[i]'(by omega)) := List.getElem?_eq_getElem (by omega)
  rw [h2, zS, hh] at h1
  obtain ⟨s', e1, e2, _⟩ := DataW.trod_string hS h1
  have hs' : s'.data.toList = s := by
   have e3 : BP s = .string s' := by simpa using e1
   simp [BP] at e3
   rw [← e3]
  have hxd : d = .agg (xs.map (·.1)) := congrArg Prod.fst hx
  refine hw _ ?_
  rw [hxd]
  simp only [DataW.weights, hu]
  refine DataW.weights_mem_each (j := i) (t := f.type) (d := (xs[i]'(by omega)).1) ?_ ?_ _ ?_
  ·rw [List.getElem?_map]; simp [hfi']
  ·rw [List.getElem?_map, h2]; rfl
  ·rw [e2, hs']; simp [DataW.weights]
end
end Go.Ing
/- What every turn keeps: a principle. -/
namespace Go.Ing
open Go
namespace AG
inductive UO (w : AH) : As → Prop
 | word {s : As} : s ∈ [Lt, Vd, SB, LG, P2, Mx, aO, Xw, Yk, P3] → UO w s
 | room (r : Int) : UO w ([84, 104, 101, 32] ++ (w.Bx.at r).name ++ [46])
 | ways (r : Room) : UO w (Hz r 6)
 | list {s : As} (l : List Int) : s ∈ [[72, 101, 114, 101, 32, 105, 115], [89, 111, 117, 32, 104, 97, 118, 101]] → UO w (Qy w s l ++ [46])
 | seen (k : Int) : UO w ((w.AW.at k).name ++ [32, 105, 115, 32, 104, 101, 114, 101, 46])
inductive Shape (x : As) (w : AH) : Event → Prop
 | cj {s : As} : UO w s → Shape x w { GI 16 with text := s }
 | said : Shape x w { GI 7 with text := x }
 | kind {k : Int} : k = 15 ∨ k = 17 → Shape x w (GI k)
 | dir {k d : Int} : k = 1 ∨ k = 2 → Shape x w { GI k with dir := d }
 | B1 {k i : Int} : k = 3 ∨ k = 4 ∨ (8 ≤ k ∧ k ≤ 13) → Shape x w { GI k with B1 := (w.AX.at i).name }
 | I1 {k : Int} : k = 8 ∨ k = 9 → Shape x w { GI k with B1 := On }
 | cZ {i to : Int} : Shape x w { GI 6 with other := to, B1 := (w.AX.at i).name }
 | bD {i to : Int} : Shape x w { GI 5 with B1 := (w.AX.at i).name, text := (w.AX.at to).name }
 | CJ {B5 n : Int} : 1 ≤ n → n ≤ 3 → Shape x w { GI 14 with other := B5, n := n }
def ev (w : AH) (b : Int) (e : Event) : Event := w.HD (D3 ⟨w, b, []⟩ e) 6
structure Rel (x : As) (q : Prop) (b : Int) (R : AH → List Event → AH → Prop) : Prop where
 refl : ∀ w, R w [] w
 trans : ∀ {X l Y m Z}, R X l Y → R Y m Z → R X (l ++ m) Z
 hap : ∀ {w e}, Shape x w e → R w [ev w b e] w
 B1 : ∀ {w : AH} {i : Int} {t : Ak}, t.name = (w.AX.at i).name → t.kind = (w.AX.at i).kind → R w [] (w.KS i t)
 B5 : ∀ {w : AH} {k f : Int}, R w [] (w.Cz k { w.AW.at k with B5 := f })
 shut : ∀ {w : AH} {r d : Int} {v : Bool}, R w [] (w.YW r d v)
 JP : ∀ {w : AH} {d r : Int}, R w [ev w b { GI 1 with dir := d }] (w.Cz b { w.AW.at b with room := r, B5 := 0 })
 LB : q → ∀ {w}, R w [ev w b (GI 18)] w
 gone : ∀ {X l w}, R X l w → (∃ e ∈ l, (e.kind = 18 ∨ (e.kind = 15 ∧ b < 2)) ∧ e.Dn = b) → R X l (w.Cz b default)
section
variable {x : As} {q : Prop} {b : Int} {R : AH → List Event → AH → Prop} (K : Rel x q b R) {X : AH} {T : AG}
include K
end
end AG
end Go.Ing
/- What every round of fights keeps, and every coming in: a principle. -/
namespace Go.Ing
open Go
namespace AG
structure au (R : AH → List Event → AH → Prop) : Prop where
 all : ∀ b, 0 ≤ b → b < 6 → Rel [] False b R
 ch : ∀ {w : AH} {k h : Int}, R w [] (w.Cz k { w.AW.at k with BM := h })
 cm : ∀ {X l w} {b : Int}, 2 ≤ b → R X l w → (∃ e ∈ l, e.kind = 15 ∧ e.Dn = b) → R X l (w.Cz b { w.AW.at b with room := 0, BM := 10 })
section
variable {R : AH → List Event → AH → Prop} (K : au R)
include K
omit K in
end
end AG
end Go.Ing
/- What happens within an act of a house, in small steps. -/
namespace Go.Ing
open Go
namespace BA
def Cl (s : BA) (e : Event) : BA := if (AH.tell e s.A7).2 = true then s.tell (AH.tell e s.A7).1 else s
def JD (s : BA) (es : List Event) : BA := if s.state = 2 then es.foldl Cl s else s
end BA
theorem lt_next {j : Int} {k : Nat} (c : ¬ j = (k : Int)) : (j < ((k + 1 : Nat) : Int)) = (j < (k : Int)) := propext ⟨fun _ => by omega, fun _ => by omega⟩
namespace AL
theorem Jv (e : Event) (H : AL) : ∀ k : Nat, k ≤ 4 → ∀ j : Int, 0 ≤ j → j < 4 → (Cl e H k).at_ j = if j < k ∧ (H.at_ j).state = 2 then (H.at_ j).Cl e else H.at_ j
 | 0, _, j, h0, _ => by rw [if_neg (by omega)]; rfl
 | k + 1, hk, j, h0, h1 => by
  have ih := Jv e H k (by omega) j h0 h1
  have ihk := KB e H k (by omega) k (Int.le_refl _) (by omega)
  by_cases c : j = (k : Int)
  ·subst c
   unfold Cl
   rw [ihk]
   split
   ·rename_i c1
    rw [if_neg (by simp at c1; exact fun h => c1 h.2)]; exact ihk
   ·rename_i c1
    have hr : (if (k : Int) < ((k + 1 : Nat) : Int) ∧ (H.at_ k).state = 2 then (H.at_ k).Cl e else H.at_ k) = if (AH.tell e (H.at_ k).A7).2 = true then (H.at_ k).tell (AH.tell e (H.at_ k).A7).1 else H.at_ k := if_pos ⟨by omega, by simpa using c1⟩
    rw [hr]
    by_cases c2 : (AH.tell e (H.at_ k).A7).2 = true
    ·rw [if_pos c2, if_pos c2]
     unfold AL.tell
     rw [AL.IU _ (by omega) (by omega) h0, if_pos rfl, ihk]
    ·rw [if_neg c2, if_neg c2]; exact ihk
  ·have e2 : (Cl e H (k + 1)).at_ j = (Cl e H k).at_ j := by
    rw [Cl.eq_2]
    split
    ·rfl
    ·split
     ·exact Tf (by omega) (by omega) h0 c _
     ·rfl
   rw [e2, ih]; simp only [lt_next c]
theorem W2 (s : BA) (e : Event) : (s.Cl e).state = s.state ∧ (s.Cl e).A7 = s.A7 := by
 unfold BA.Cl
 split
 ·exact ⟨(JU _ _).1, (JU _ _).2.1⟩
 ·exact ⟨rfl, rfl⟩
theorem Q2 {j : Int} (j0 : 0 ≤ j) (j1 : j < 4) : ∀ (es : List Event) (H : AL), (H.Ik es).at_ j = (H.at_ j).JD es
 | [], H => by show H.at_ j = _; unfold BA.JD; split <;> rfl
 | e :: r, H => by
  have ih := Q2 j0 j1 r (Cl e H 4)
  show ((Cl e H 4).Ik r).at_ j = _
  have h1 := Jv e H 4 (Nat.le_refl 4) j j0 j1
  rw [ih, h1]
  by_cases c : (H.at_ j).state = 2
  ·rw [if_pos ⟨by omega, c⟩]
   unfold BA.JD
   rw [if_pos c, if_pos (by rw [(W2 _ e).1]; exact c)]
   rfl
  ·rw [if_neg (fun h => c h.2)]
   unfold BA.JD
   rw [if_neg c, if_neg c]
theorem XI (H : AL) (es : List Event) {j : Int} (j0 : 0 ≤ j) (j1 : j < 4) : (H.HH es).at_ j = (H.at_ j).JD es := Q2 j0 j1 es _
def Xp : List As := [Hh, QV, Yl, QI, noRoom]
inductive GX (U : As → Prop) (H : AL) : Int → AH → BA → List Event → Prop
 | left {k : Int} : (H.at_ k).state = 2 → (H.w.AW.at (H.at_ k).A7).here = true → GX U H k (AG.Ff H.w (H.at_ k).A7 FX).1 default (AG.Ff H.w (H.at_ k).A7 FX).2.1
 | Xn {k : Int} {u : As} : (H.at_ k).state = 1 → (AG.Bg H.w u).2.2.2 = 0 → GX U H k (AG.Bg H.w u).1 { H.at_ k with state := 2, A7 := (AG.Bg H.w u).2.1 } (AG.Bg H.w u).2.2.1
 | cU {k : Int} {q : As} : U q → (H.at_ k).state ≠ 0 → (H.at_ k).state ≠ 1 → (Words.parse q).1.verb ≠ 20 → GX U H k (AG.Ff H.w (H.at_ k).A7 (Words.parse q).1).1 (H.at_ k) (AG.Ff H.w (H.at_ k).A7 (Words.parse q).1).2.1
 | round {d : Int} : GX U H 0 (AG.Ch H.w d).1 (H.at_ 0) (AG.Ch H.w d).2.1
def Ps (H : AL) (k : Int) (w : AH) (s : BA) (es : List Event) : AL := ({ H with w := w }.set k s).HH es
inductive Step (U : As → Prop) (H : AL) : AL → Prop
 | told {k : Int} {u : As} : 0 ≤ k → k < 4 → (H.at_ k).state ≠ 0 → u ∈ Xp → Step U H (H.tell k u)
 | B2 {k : Int} : 0 ≤ k → k < 4 → (H.at_ k).state ≠ 0 → Step U H (H.set k (H.at_ k).B2)
 | goes {k : Int} {w : AH} {s : BA} {es : List Event} : 0 ≤ k → k < 4 → GX U H k w s es → Step U H (H.Ps k w s es)
 | free {k : Int} : 0 ≤ k → k < 4 → ¬ ((H.at_ k).state = 2 ∧ (H.w.AW.at (H.at_ k).A7).here = true) → Step U H (H.set k default)
inductive Steps (U : As → Prop) (H : AL) : AL → Prop
 | refl : Steps U H H
 | tail {X Y : AL} : Steps U H X → Step U X Y → Steps U H Y
section
variable {U : As → Prop} {H X Y : AL}
theorem Step.one (h : Step U H X) : Steps U H X := .tail .refl h
theorem Steps.trans (h : Steps U H X) (k : Steps U X Y) : Steps U H Y := by
 induction k with
 | refl => exact h
 | tail _ s ih => exact ih.tail s
theorem Steps.Jq {P : AL → Prop} (hs : ∀ {H X : AL}, P H → Step U H X → P X) (h : P H) (k : Steps U H X) : P X := by
 induction k with
 | refl => exact h
 | tail _ s ih => exact hs ih s
theorem TK (H : AL) {k : Int} (h0 : 0 ≤ k) (h1 : k < 4) (w : AH) (s : BA) (es : List Event) {j : Int} (j0 : 0 ≤ j) (j1 : j < 4) : (H.Ps k w s es).at_ j = (if j = k then s else H.at_ j).JD es := by
 unfold Ps
 rw [XI _ _ j0 j1, IU _ h0 h1 j0]
 rfl
theorem Rw (es : List Event) : (default : BA).JD es = default := if_neg (show ¬ (0 : Int) = 2 by decide)
theorem JQ (H : AL) {k : Int} (h0 : 0 ≤ k) (h1 : k < 4) : Steps U H (H.leave k) := by
 unfold AL.leave
 split
 ·rename_i c
  rw [Bool.and_eq_true, decide_eq_true_eq] at c
  have s : Step U H (H.Ps k (AG.Ff H.w (H.at_ k).A7 FX).1 default (AG.Ff H.w (H.at_ k).A7 FX).2.1) := .goes h0 h1 (.left c.1 c.2)
  have e : (((H.Sg k).set k default).HH (AG.Ff H.w (H.at_ k).A7 FX).2.1).set k default = H.Ps k (AG.Ff H.w (H.at_ k).A7 FX).1 default (AG.Ff H.w (H.at_ k).A7 FX).2.1 := by
   show (H.Ps k _ default _).set k default = _
   have := TK H h0 h1 (AG.Ff H.w (H.at_ k).A7 FX).1 default (AG.Ff H.w (H.at_ k).A7 FX).2.1 h0 h1
   rw [if_pos rfl, Rw] at this
   have h2 := K3 (H.Ps k (AG.Ff H.w (H.at_ k).A7 FX).1 default (AG.Ff H.w (H.at_ k).A7 FX).2.1) h0 h1
   rw [this] at h2
   exact h2
  rw [e]
  exact s.one
 ·rename_i c
  exact (Step.free h0 h1 (fun h => c (by rw [Bool.and_eq_true, decide_eq_true_eq]; exact h))).one
theorem JL (H : AL) : ∀ k : Nat, k ≤ 4 → Steps U H (H.DT k).1
 | 0, _ => .refl
 | k + 1, hk => by
  have ih := JL H k (by omega)
  unfold DT
  split
  ·exact ih
  ·rename_i c
   have s : Step U (H.DT k).1 ((H.DT k).1.set k (((H.DT k).1.at_ k).B2)) := .B2 (by omega) (by omega) (by simpa using c)
   split
   ·exact (ih.tail s).trans (JQ _ (by omega) (by omega))
   ·exact ih.tail s
theorem L5 : ∀ (n : Nat) (H : AL), Steps U H (H.Io n)
 | 0, _ => .refl
 | n + 1, H => by
  unfold Io
  split
  ·exact JL H 4 (Nat.le_refl 4)
  ·exact (JL H 4 (Nat.le_refl 4)).trans (L5 n _)
theorem SX (H : AL) : Steps U H H.B2 := L5 5 H
theorem Rm (H : AL) {k : Int} (h0 : 0 ≤ k) (h1 : k < 4) (hs : (H.at_ k).state = 1) (u : As) : Steps U H (H.named k u) := by
 unfold AL.named
 split
 ·rename_i c
  exact (Step.goes h0 h1 (.Xn hs (of_decide_eq_true c))).one
 ·have hn : (H.at_ k).state ≠ 0 := by omega
  split
  ·exact (Step.told h0 h1 hn (by simp [Xp])).one
  ·exact (Step.told h0 h1 hn (by simp [Xp])).one
theorem Qm (H : AL) {k : Int} (h0 : 0 ≤ k) (h1 : k < 4) (hs : (H.at_ k).state ≠ 0) (h2 : (H.at_ k).state ≠ 1) {u : As} (hu : U u) : Steps U H (H.order k u) := by
 unfold AL.order
 split
 ·exact (Step.told h0 h1 hs (by simp [Xp])).one
 ·split
  ·exact JQ H h0 h1
  ·rename_i c
   have := (Step.goes (H := H) h0 h1 (.cU hu hs h2 (fun e => c (decide_eq_true e)))).one
   unfold Ps at this
   rw [show ({ H with w := (AG.Ff H.w (H.at_ k).A7 (Words.parse u).1).1 } : AL).set k (H.at_ k) = { H with w := (AG.Ff H.w (H.at_ k).A7 (Words.parse u).1).1 } from K3 { H with w := (AG.Ff H.w (H.at_ k).A7 (Words.parse u).1).1 } h0 h1] at this
   exact this
theorem Ra (H : AL) (d : Int) : Steps U H ({ H with w := (AG.Ch H.w d).1 }.HH (AG.Ch H.w d).2.1) := by
 have := (Step.goes (U := U) (H := H) (Int.le_refl 0) (by decide) (.round (d := d))).one
 unfold Ps at this
 rw [show ({ H with w := (AG.Ch H.w d).1 } : AL).set 0 (H.at_ 0) = { H with w := (AG.Ch H.w d).1 } from K3 { H with w := (AG.Ch H.w d).1 } (Int.le_refl 0) (by decide)] at this
 exact this
def next (H : AL) (k : Int) (r : List As) : AL := H.set k { H.at_ k with queue := r }.FR
theorem SW (H : AL) {k : Int} (h0 : 0 ≤ k) (h1 : k < 4) (hU : ∀ q ∈ (H.at_ k).queue, U q) : (((H.at_ k).state = 0 ∨ (H.at_ k).queue = []) ∧ H.EN k = H) ∨ ∃ q r, (H.at_ k).state ≠ 0 ∧ (H.at_ k).queue = q :: r ∧ Steps U (H.next k r) (H.EN k) := by
 unfold AL.EN
 split
 ·rename_i c; exact .inl ⟨.inl (of_decide_eq_true c), rfl⟩
 ·rename_i c
  have c' : (H.at_ k).state ≠ 0 := fun e => c (decide_eq_true e)
  split
  ·rename_i e; exact .inl ⟨.inr e, rfl⟩
  ·rename_i q r e
   refine .inr ⟨q, r, c', e, ?_⟩
   have ha : (H.next k r).at_ k = { H.at_ k with queue := r }.FR := by unfold next; rw [IU _ h0 h1 h0, if_pos rfl]
   have hst : ((H.next k r).at_ k).state = (H.at_ k).state := by rw [ha]; rfl
   show Steps U (H.next k r) (if (H.at_ k).pg.B4 = true then H.next k r else if decide ((H.at_ k).state = 1) = true then (H.next k r).named k (Words.O6 32 (Words.Q4 32 q)) else (H.next k r).order k q)
   split
   ·exact .refl
   ·split
    ·rename_i c2
     exact Rm _ h0 h1 (by rw [hst]; exact of_decide_eq_true c2) _
    ·rename_i c2
     exact Qm _ h0 h1 (by rw [hst]; exact c') (by rw [hst]; exact fun e => c2 (decide_eq_true e)) (hU q (by rw [e]; exact List.mem_cons_self ..))
end
end AL
end Go.Ing
/- What a seat is behind every act: plain laws. -/
namespace Go.Ing
open Go
namespace Page
theorem OJ (ht : Int) : ∀ (l : List As) (x : Pg), x.ring.length ≤ 700 → 0 ≤ x.shown → x.shown ≤ 200 → (B2 ht l x).1.ring.length ≤ 700 ∧ 0 ≤ (B2 ht l x).1.shown ∧ (B2 ht l x).1.shown ≤ 200
 | [], x, h1, h2, h3 => ⟨h1, h2, h3⟩
 | s :: r, x, h1, h2, h3 => by
  unfold B2
  split
  ·exact ⟨h1, h2, h3⟩
  ·split
   ·refine ⟨LN h1, ?_, ?_⟩ <;> rw [Gj]
    ·exact h2
    ·exact h3
   ·refine OJ ht r _ (LN h1) ?_ ?_ <;> rw [Gj]
    ·show 0 ≤ min (x.shown + 1) 200; omega
    ·show min (x.shown + 1) 200 ≤ 200; omega
end Page
namespace BA
structure Ok (s : BA) : Prop where
 st : 0 ≤ s.state ∧ s.state ≤ 2
 n : s.wait.length ≤ 60
 ring : s.pg.ring.length ≤ 700
 s0 : 0 ≤ s.pg.shown
 s1 : s.pg.shown ≤ 200
 ln : Bc.Ok ⟨s.now, s.Cc, s.ret, s.queue, 0⟩
theorem Yh (s : BA) : s.NF = true ↔ s.wait.length ≤ 60 ∧ s.pg.ring.length ≤ 700 ∧ 0 ≤ s.pg.shown ∧ s.pg.shown ≤ 200 := by
 simp only [NF, Bool.and_eq_true, decide_eq_true_eq]; omega
theorem YT (s : BA) : s.KZ = true ↔ Bc.Ok ⟨s.now, s.Cc, s.ret, s.queue, 0⟩ :=
 Bc.G0 (l := ⟨s.now, s.Cc, s.ret, ⟨none, s.queue.length, 0⟩⟩) (qs := s.queue) rfl
variable {s : BA}
theorem Ok.NF (h : s.Ok) : s.NF = true := (Yh s).2 ⟨h.n, h.ring, h.s0, h.s1⟩
theorem Ok.KZ (h : s.Ok) : s.KZ = true := (YT s).2 h.ln
theorem HT : (default : BA).Ok := ⟨⟨Int.le_refl 0, by decide⟩, Nat.zero_le _, Nat.zero_le _, Int.le_refl 0, by decide, (⟨Bc.LW, (fun s hs => by cases hs), Nat.zero_le _, (fun h => by cases h)⟩ : Bc.Ok ⟨[], false, false, [], 0⟩)⟩
theorem Ok.line (h : s.Ok) (u : As) : (s.line u).Ok := by
 unfold BA.line
 split
 ·exact h
 ·split
  ·exact h
  ·split
   ·exact ⟨h.st, h.n, h.ring, h.s0, h.s1, h.ln⟩
   ·rename_i c
    refine ⟨h.st, ?_, h.ring, h.s0, h.s1, h.ln⟩
    have hn := h.n
    have c' : ¬ (60 : Int) ≤ s.wait.length := fun e => c (decide_eq_true e)
    show (s.wait ++ [u]).length ≤ 60
    rw [List.length_append, List.length_singleton]; omega
theorem Ok.tell (h : s.Ok) (u : As) : (s.tell u).Ok := by
 have := h.line u
 unfold BA.tell BA.note
 split
 ·exact ⟨this.st, this.n, this.ring, this.s0, this.s1, this.ln⟩
 ·exact this
theorem Ok.B2 (h : s.Ok) : s.B2.Ok := by
 unfold BA.B2
 split
 ·exact h
 ·have hk := Page.OJ s.EE.CX s.wait s.pg h.ring h.s0 h.s1
  exact ⟨h.st, Nat.le_trans (Page.Xc _ _ _) h.n, hk.1, hk.2.1, hk.2.2, h.ln⟩
theorem Ok.send (h : s.Ok) (u : As) : (s.send u).Ok := by
 unfold BA.send
 split
 ·exact h
 ·split
  ·exact h
  ·exact ⟨h.st, h.n, Page.LN h.ring, by show 0 ≤ (Page.put s.pg u).shown; rw [Page.Gj]; exact h.s0, by show (Page.put s.pg u).shown ≤ 200; rw [Page.Gj]; exact h.s1, h.ln⟩
theorem Ok.EE (h : s.Ok) (t : AN) : ({ s with EE := t } : BA).Ok := ⟨h.st, h.n, h.ring, h.s0, h.s1, h.ln⟩
theorem Ok.offer (h : s.Ok) (opt : Int) : (s.offer opt).Ok := by
 unfold BA.offer
 split
 ·exact (h.EE _).send _
 ·exact (h.EE _).send _
theorem Ok.Lu (h : s.Ok) (n : Int) : (s.Lu n).Ok := ⟨h.st, h.n, by show (s.pg.ring.drop _).length ≤ 700; rw [List.length_drop]; have := h.ring; omega, h.s0, h.s1, h.ln⟩
theorem Ok.next (h : s.Ok) {q : As} {r : List As} (e : s.queue = q :: r) : ({ s with queue := r } : BA).FR.Ok :=
 ⟨h.st, h.n, h.ring, Int.le_refl 0, show (0 : Int) ≤ 200 by decide, ⟨h.ln.now, fun x hx => h.ln.queue x (by show x ∈ s.queue; rw [e]; exact List.mem_cons_of_mem _ hx), by
  have := h.ln.len
  have h2 : s.queue.length ≤ 6 := this
  rw [e, List.length_cons] at h2
  show r.length ≤ 6; omega, h.ln.ret⟩⟩
theorem Ok.typed (h : s.Ok) (u : As) : (DU s u).1.Ok := by
 have h1 : (s.bytes u).1.Ok := (h.EE _).send _
 unfold DU BA.typed
 split
 ·exact h1
 ·have ho := Bc.S5 (s.bytes u).2 h1.ln
  exact ⟨h1.st, h1.n, h1.ring, h1.s0, h1.s1, ⟨ho.now, ho.queue, ho.len, ho.ret⟩⟩
theorem Ok.Xn (h : s.Ok) (b : Int) : ({ s with state := 2, A7 := b } : BA).Ok := ⟨⟨show (0 : Int) ≤ 2 by decide, show (2 : Int) ≤ 2 by decide⟩, h.n, h.ring, h.s0, h.s1, h.ln⟩
theorem Ok.Cl (h : s.Ok) (e : Event) : (s.Cl e).Ok := by
 unfold BA.Cl; split
 ·exact h.tell _
 ·exact h
theorem TN : ∀ (es : List Event) {s : BA}, s.Ok → (es.foldl BA.Cl s).Ok
 | [], _, h => h
 | e :: r, _, h => TN r (h.Cl e)
theorem Ok.JD (h : s.Ok) (es : List Event) : (s.JD es).Ok := by
 unfold BA.JD
 split
 ·exact TN es h
 ·exact h
theorem Ok.heard (h : s.Ok) : ({ s with told := [] } : BA).Ok := ⟨h.st, h.n, h.ring, h.s0, h.s1, h.ln⟩
theorem Rc (s : BA) (c : (decide (s.EE.CX < 0) || decide (200 < s.EE.CX)) = true) : s.B2 = s := by
 unfold BA.B2
 rw [if_pos]
 rw [Bool.or_assoc, c, Bool.or_true]
end BA
namespace AL
def Is (H : AL) : Prop := ∀ k, 0 ≤ k → k < 4 → (H.at_ k).Ok
section
variable {U : As → Prop} {H X : AL}
theorem Is.set (h : H.Is) {k : Int} (h0 : 0 ≤ k) (h1 : k < 4) {s : BA} (hs : s.Ok) : (H.set k s).Is := fun j j0 j1 => by
 rw [IU _ h0 h1 j0]; split
 ·exact hs
 ·exact h j j0 j1
theorem Is.step (h : H.Is) (s : Step U H X) : X.Is := by
 cases s with
 | told h0 h1 _ _ => exact h.set h0 h1 ((h _ h0 h1).tell _)
 | B2 h0 h1 _ => exact h.set h0 h1 (h _ h0 h1).B2
 | free h0 h1 _ => exact h.set h0 h1 BA.HT
 | goes h0 h1 g =>
  intro j j0 j1
  rw [TK H h0 h1 _ _ _ j0 j1]
  refine BA.Ok.JD ?_ _
  split
  ·cases g with
   | left _ _ => exact BA.HT
   | Xn _ _ => exact (h _ h0 h1).Xn _
   | cU _ _ _ _ => exact h _ h0 h1
   | round => exact h _ (Int.le_refl 0) (by decide)
  ·exact h j j0 j1
theorem Is.steps (h : H.Is) (s : Steps U H X) : X.Is := Steps.Jq (P := Is) (fun h s => h.step s) h s
/-! #### nobody is cut off behind all that flows -/
end
end AL
end Go.Ing
/- Acts that are played: plain laws. -/
namespace Go.Ing
open Go
namespace AN
def GH (t : AN) : Nat := if t.at_ = 2 then 2 else if t.at_ = 1 then 1 else 0
theorem UE (t : AN) (b : UInt8) : (t.step b).2.2.length + (t.step b).1.GH ≤ 1 + t.GH := by
 unfold step; dsimp only
 split
 ·rename_i c; have c' := of_decide_eq_true c
  have hp : t.GH = 0 := by unfold GH; rw [if_neg (by omega), if_neg (by omega)]
  split
  ·exact Nat.le_add_right 1 _
  ·show 0 + t.GH ≤ 1 + t.GH; omega
 ·split
  ·rename_i c; have c' := of_decide_eq_true c
   have hp : t.GH = 1 := by unfold GH; rw [if_neg (by omega), if_pos c']
   rw [hp]
   split
   ·exact Nat.zero_le _
   ·split
    ·exact Nat.zero_le _
    ·split
     ·exact Nat.le_refl 2
     ·exact Nat.zero_le _
  ·split
   ·rename_i c; have c' := of_decide_eq_true c
    have hp : t.GH = 2 := by unfold GH; rw [if_pos c']
    rw [hp]
    exact Hk _ _ _
   ·split
    ·rename_i c; have c' := of_decide_eq_true c
     split
     ·exact Nat.zero_le _
     ·show 0 + (t.collect b).GH ≤ _
      have : (t.collect b).at_ = t.at_ := by unfold collect; split <;> rfl
      unfold GH; rw [this]; rw [if_neg (by omega), if_neg (by omega)]; omega
    ·split
     ·rename_i c; have c' := of_decide_eq_true c
      split
      ·show 0 + (collect { t with at_ := 3 } b).GH ≤ _
       have : (collect { t with at_ := 3 } b).at_ = 3 := by unfold collect; split <;> rfl
       unfold GH; rw [this]; rw [if_neg (by decide), if_neg (by decide)]; omega
      ·split
       ·show 0 + GH { t.measure with at_ := 0, sub := [] } ≤ _; exact Nat.zero_le _
       ·exact Nat.zero_le _
     ·show 0 + t.GH ≤ _; omega
theorem Lk : ∀ (s : As) (t : AN), (t.feed s).2.2.length ≤ s.length + t.GH
 | [], t => Nat.zero_le _
 | b :: s, t => by
  have h1 := UE t b
  have h2 := Lk s (t.step b).1
  show ((t.step b).2.2 ++ ((t.step b).1.feed s).2.2).length ≤ s.length + 1 + t.GH
  rw [List.length_append]; omega
theorem TT (t : AN) : t.GH ≤ 2 := by unfold GH; split; exact Nat.le_refl 2; split <;> decide
theorem Iy.yb {X t : AN} {u x y : As} {k : Int} (h : Iy X u k t x y) : y.length ≤ u.length + 2 := by
 have h1 := Lk u X
 have h2 := TT X
 rw [h.e3, List.length_append] at h1
 omega
theorem Tu (t : AN) (u : As) : (t.DN u).2.2.1.length ≤ u.length + 2 := by
 unfold DN
 split
 ·exact Nat.zero_le _
 ·have h1 := Lk u t
  have h2 := TT t
  show (t.feed u).2.2.length ≤ _
  omega
end AN
namespace AL
section
variable {H : AL}
theorem Is.tell (h : H.Is) {k : Int} (h0 : 0 ≤ k) (h1 : k < 4) (u : As) : (H.tell k u).Is := h.set h0 h1 ((h k h0 h1).tell u)
theorem Is.B2 (h : H.Is) : H.B2.Is := h.steps (U := fun _ => True) (SX H)
theorem Is.EN (h : H.Is) {k : Int} (h0 : 0 ≤ k) (h1 : k < 4) : (H.EN k).Is := by
 rcases SW (U := fun _ => True) H h0 h1 (fun _ _ => trivial) with ⟨_, e⟩ | ⟨q, r, _, e, s⟩
 ·rw [e]; exact h
 ·exact Is.steps (h.set h0 h1 ((h k h0 h1).next e)) s
theorem Is.turns (h : H.Is) : ∀ k : Nat, k ≤ 4 → (H.turns k).Is
 | 0, _ => h
 | k + 1, hk => (Is.turns h k (by omega)).EN (by omega) (by omega)
theorem Is.begun (h : H.Is) : H.begun.Is := fun k h0 h1 => by rw [Rg h0 h1]; exact (h k h0 h1).heard
theorem Is.Eh (h : H.Is) (a : Bq) : (H.Eh a).1.Is :=
 KU (fun X => X.Is) h (fun d => ((h.turns 4 (Nat.le_refl 4)).steps (U := fun _ => True) (Ra _ d)).B2)
  (fun k h0 h1 => ((h.set h0 h1 (((show ({ (default : BA) with state := 1, A7 := -1 } : BA).Ok from ⟨⟨show (0 : Int) ≤ 1 by decide, show (1 : Int) ≤ 2 by decide⟩, BA.HT.n, BA.HT.ring, BA.HT.s0, BA.HT.s1, BA.HT.ln⟩).offer 3).offer 31)).tell h0 h1 Hh).B2)
  (fun k u h0 h1 => by
   rw [LL]
   refine Is.B2 ?_
   have hs := h.set h0 h1 ((h k h0 h1).typed u)
   split
   ·exact hs.tell h0 h1 QV
   ·exact hs)
  (fun k z h0 h1 => (h.set h0 h1 ((h k h0 h1).Lu z)).B2) (fun k h0 h1 => (h.steps (U := fun _ => True) (JQ H h0 h1)).B2) a
theorem Is.act (h : H.Is) (a : Bq) : (H.act a).1.Is := by
 unfold AL.act
 split
 ·exact h
 ·exact h.begun.Eh a
end
structure Live (H : AL) : Prop where
 fit : H.Fit 1000 1000
 Ce : 0 ≤ H.Ce
 bc : H.Is
theorem Live.fits {H : AL} (h : H.Live) : H.Fits := ⟨_, _, h.fit⟩
theorem XS : AL.new.Is := fun k h0 h1 => by rw [WG h0 h1]; exact BA.HT
theorem M8 : AL.new.Live := ⟨XK.mono (by decide) (by decide), Int.le_refl 0, XS⟩
section
variable {H X : AL}
theorem NW (e : Event) (H : AL) : ∀ k : Nat, (Cl e H k).Ce = H.Ce
 | 0 => rfl
 | k + 1 => by
  have ih := NW e H k
  rw [Cl.eq_2]
  split
  ·exact ih
  ·split <;> exact ih
theorem Mt : ∀ (es : List Event) (H : AL), (H.Ik es).Ce = H.Ce
 | [], _ => rfl
 | e :: r, H => (Mt r _).trans (NW e H 4)
theorem Jk (H : AL) (es : List Event) : (H.HH es).Ce = H.Ce := Mt es _
theorem KH (H : AL) (k : Int) : (H.leave k).Ce = H.Ce := by
 unfold AL.leave
 split
 ·exact Jk _ _
 ·rfl
theorem KI (H : AL) : ∀ k : Nat, (H.DT k).1.Ce = H.Ce
 | 0 => rfl
 | k + 1 => by
  have ih := KI H k
  unfold DT
  split
  ·exact ih
  ·split
   ·exact (KH _ _).trans ih
   ·exact ih
theorem NO : ∀ (n : Nat) (H : AL), (H.Io n).Ce = H.Ce
 | 0, _ => rfl
 | n + 1, H => by
  unfold Io
  split
  ·exact KI H 4
  ·exact (NO n _).trans (KI H 4)
theorem IB (H : AL) : H.B2.Ce = H.Ce := NO 5 H
theorem Sp (H : AL) (k : Int) : (H.EN k).Ce = H.Ce := by
 unfold AL.EN
 split
 ·rfl
 ·split
  ·rfl
  ·dsimp only
   split
   ·rfl
   ·split
    ·unfold AL.named
     split
     ·exact Jk _ _
     ·split <;> rfl
    ·unfold AL.order
     split
     ·rfl
     ·split
      ·exact KH _ _
      ·exact Jk _ _
theorem Nl (H : AL) : ∀ k : Nat, (H.turns k).Ce = H.Ce
 | 0 => rfl
 | k + 1 => (Sp _ _).trans (Nl H k)
theorem Tj (X : AL) (a : Bq) : (X.Eh a).1.Ce = X.Ce :=
 KU (fun Y => Y.Ce = X.Ce) rfl (fun d => (IB _).trans ((Jk _ _).trans (Nl X 4))) (fun k _ _ => IB _) (fun k u _ _ => by rw [LL, IB]; split <;> rfl) (fun k z _ _ => IB _) (fun k _ _ => (IB _).trans (KH _ _)) a
theorem Mp (H : AL) : H.begun.Ce = H.Ce + 1 := (IG (H := { H with Ce := H.Ce + 1, last := [] }) 4).2.2
theorem Qn (H : AL) (a : Bq) : (H.act a).1.Ce = if 400 ≤ H.Ce then H.Ce else H.Ce + 1 := by
 unfold AL.act
 by_cases c : 400 ≤ H.Ce
 ·rw [if_pos (decide_eq_true c), if_pos c]
 ·rw [if_neg (fun e => c (of_decide_eq_true e)), if_neg c]
  exact (Tj _ _).trans (Mp H)
theorem Live.act (h : H.Live) (a : Bq) : (H.act a).1.Live := ⟨by
 unfold AL.act
 split
 ·exact h.fit
 ·exact (h.fit.begun).Eh a, by rw [Qn]; have := h.Ce; split <;> omega, h.bc.act a⟩
theorem Live.run : ∀ (l : List Bq) {H : AL}, H.Live → (H.run l).1.Live
 | [], _, h => h
 | a :: r, _, h => Live.run r (h.act a)
theorem Qe : ∀ (l : List Bq) {H : AL}, H.Ce + l.length ≤ 400 → (H.run l).1.Ce = H.Ce + l.length
 | [], H, _ => by show H.Ce = _; simp
 | a :: r, H, h => by
  rw [List.length_cons] at h
  have h1 : (H.act a).1.Ce = H.Ce + 1 := by rw [Qn, if_neg (by omega)]
  have := Qe r (H := (H.act a).1) (by rw [h1]; omega)
  show ((H.act a).1.run r).1.Ce = _
  rw [this, h1, List.length_cons]; omega
end
def Ml (xs : List Bq) : AL := (AL.new.run (xs.take 150)).1
theorem Qh (xs : List Bq) : (Ml xs).Live := Live.run _ M8
theorem RP (xs : List Bq) : (Ml xs).Ce = min (xs.length : Int) 150 := by
 unfold Ml
 have hl : (xs.take 150).length = min 150 xs.length := List.length_take ..
 rw [Qe _ (by show (0 : Int) + _ ≤ 400; rw [hl]; omega), hl]
 show (0 : Int) + _ = _
 omega
theorem VB {xs : List Bq} {k : Int} (h0 : 0 ≤ k) (h1 : k < xs.length) (H : AL) : (H.run (xs.take (k + 1).toNat)).1 = ((H.run (xs.take k.toNat)).1.act (xs.getD k.toNat default)).1 := by rw [V6 h0 h1]
theorem Si {xs : List Bq} {k : Int} (h0 : 0 ≤ k) (h1 : k ≤ xs.length) (h2 : k ≤ 150) (h : k = xs.length ∨ k = 150) : AL.new.run (xs.take k.toNat) = AL.new.run (xs.take 150) := by
 rcases h with h | h
 ·rw [h, show (xs.length : Int).toNat = xs.length by omega, List.take_length, List.take_of_length_le (by omega)]
 ·rw [h]; rfl
/-! #### does a house answer at all? -/
def PH : Bq := ⟨1, 2, 0, []⟩
def type2 : Bq := ⟨2, 2, 0, [97, 110, 110, 13, 10]⟩
def R3 : Bq := ⟨5, 0, 0, []⟩
theorem cV : AL.new.Live := M8
theorem cN : (AL.new.act PH).1.Live := cV.act _
theorem cT : ((AL.new.act PH).1.act type2).1.Live := cN.act _
def ai : AL := (((AL.new.act PH).1.act type2).1.act R3).1
theorem Vz : ai.Live := cT.act _
theorem bX : (AL.new.act PH).2.code = 0 := by kernel_rfl
theorem bf : (((AL.new.act PH).1.act type2).1.act R3).2.code = 0 := by kernel_rfl
theorem bl : ai.HV 2 = (2, 2) := by kernel_rfl
theorem ao : decide (2 < ((ai.at_ 2).told.length : Int)) = true := by kernel_rfl
theorem Live.told {V : AJ} {ls : Vector BE 4} {ev : List Event} (h : (A3 V ls ev).Live) {k : Int} (h0 : 0 ≤ k) (h1 : k < 4) : (ls.at k).told.length ≤ 1000000 := by
 have := h.fit.told k h0 h1
 rw [Ca _ _ _ h0 h1] at this
 exact Nat.le_trans this (by decide)
theorem Live.wait {V : AJ} {ls : Vector BE 4} {ev : List Event} (h : (A3 V ls ev).Live) {k : Int} (h0 : 0 ≤ k) (h1 : k < 4) : (ls.at k).wait.length ≤ 1000000 := by
 have := (h.bc k h0 h1).n
 rw [Ca _ _ _ h0 h1] at this
 exact Nat.le_trans this (by decide)
theorem Live.queue {V : AJ} {ls : Vector BE 4} {ev : List Event} (h : (A3 V ls ev).Live) {k : Int} (h0 : 0 ≤ k) (h1 : k < 4) : (ls.at k).queue.length ≤ 1000000 := by
 have := (h.bc k h0 h1).ln.len
 rw [Ca _ _ _ h0 h1] at this
 exact Nat.le_trans this (by decide)
theorem Live.last {V : AJ} {ls : Vector BE 4} {ev : List Event} (h : (A3 V ls ev).Live) : ev.length ≤ 1000000 := Nat.le_trans h.fit.last (by decide)
/-! #### do two houses stand alike? -/
def U8 (s t : BA) : Bool := decide (s.wait = t.wait) && decide (s.pg.shown = t.pg.shown) && (s.pg.B4 == t.pg.B4) && decide (s.pg.ring = t.pg.ring) && (s.pg.cut == t.pg.cut)
def WQ (s t : BA) : Bool := decide (s.now = t.now) && (s.Cc == t.Cc) && (s.ret == t.ret) && decide (s.queue = t.queue)
def sameAt (H K : AL) (k : Int) : Bool := !(!decide ((H.HV k).1 = (K.HV k).1) || !decide ((H.HV k).2 = (K.HV k).2) || !U8 (H.at_ k) (K.at_ k) || !WQ (H.at_ k) (K.at_ k))
def same (H K : AL) : Bool := B9 4 (sameAt H K) 4 && decide (H.w = K.w)
theorem Xq {H K : AL} (hw : H.w = K.w) (hs : ∀ k, 0 ≤ k → k < 4 → { H.at_ k with told := [] } = { K.at_ k with told := [] }) : same H K = true := by
 unfold same
 rw [Bool.and_eq_true]
 refine ⟨(DL 4).2 fun k h0 h1 => ?_, decide_eq_true hw⟩
 have h := hs k (by omega) h1
 have e1 : (H.at_ k).state = (K.at_ k).state := by have q := congrArg BA.state h; exact q
 have e2 : (H.at_ k).A7 = (K.at_ k).A7 := by have q := congrArg BA.A7 h; exact q
 have e3 : (H.at_ k).wait = (K.at_ k).wait := by have q := congrArg BA.wait h; exact q
 have e4 : (H.at_ k).pg = (K.at_ k).pg := by have q := congrArg BA.pg h; exact q
 have e5 : (H.at_ k).now = (K.at_ k).now := by have q := congrArg BA.now h; exact q
 have e6 : (H.at_ k).Cc = (K.at_ k).Cc := by have q := congrArg BA.Cc h; exact q
 have e7 : (H.at_ k).ret = (K.at_ k).ret := by have q := congrArg BA.ret h; exact q
 have e8 : (H.at_ k).queue = (K.at_ k).queue := by have q := congrArg BA.queue h; exact q
 simp [sameAt, HV, U8, WQ, e1, e2, e3, e4, e5, e6, e7, e8]
end AL
theorem Jh {V W : AJ} {ls ms : Vector BE 4} {ev fv : List Event} {k : Int} (h0 : 0 ≤ k) (h1 : k < 4) : AL.sameAt (A3 V ls ev) (A3 W ms fv) k =
  !(!decide ((Eg (V.Ap.at k)).1 = (Eg (W.Ap.at k)).1) || !decide ((Eg (V.Ap.at k)).2 = (Eg (W.Ap.at k)).2) || !(decide ((ls.at k).wait = (ms.at k).wait) && decide ((V.Ap.at k).out.shown = (W.Ap.at k).out.shown) && ((V.Ap.at k).out.B4 == (W.Ap.at k).out.B4) && decide ((V.Ap.at k).out.ring = (W.Ap.at k).out.ring) && ((V.Ap.at k).out.cut == (W.Ap.at k).out.cut)) || !(decide ((V.Ap.at k).Dv.now = (W.Ap.at k).Dv.now) && ((V.Ap.at k).Dv.Cc == (W.Ap.at k).Dv.Cc) && ((V.Ap.at k).Dv.ret == (W.Ap.at k).Dv.ret) && decide ((ls.at k).queue = (ms.at k).queue))) := by
 unfold AL.sameAt
 rw [← II V ls ev h0 h1, ← II W ms fv h0 h1, Ca V ls ev h0 h1, Ca W ms fv h0 h1]
 rfl
end Go.Ing
/- An act that is refused, and acts behind the last: plain laws. -/
namespace Go.Ing
open Go
theorem Xi {α : Type} (a b c : α) : [a, b, c].Perm [c, b, a] := List.reverse_perm [c, b, a]
namespace AL
theorem Uo (H : AL) : same H H = true := Xq rfl fun _ _ _ => rfl
def zero : Bq := ⟨0, 0, 0, []⟩
theorem JH {H : AL} (c : H.Ce < 400) : H.act zero = (H.begun, ⟨5, []⟩) := (Fe (decide_eq_false (by omega)) zero).trans ((if_neg (by decide)).trans (if_pos (by decide)))
theorem RG {H : AL} (c : H.Ce = 400) (a : Bq) : H.act a = (H, ⟨4, []⟩) := if_pos (decide_eq_true (by omega))
end AL
end Go.Ing
