/- What the functions that the law of this seat reaches compute, and the plain laws of it. No condition. -/
import Derived.Test.YtoidpggbbfncpaaGreatDoorTopThingsEc3
import Derived.Test.YtoidpggbbfncpaaGreatDoorTopThingsRa1
import Derived.Test.YtoidpggbbfncpaaGreatDoorTopThingsRb1
set_option linter.unusedSimpArgs false
set_option linter.unusedVariables false
/- Who is far perceives nothing: plain laws. -/
namespace Go.Ing
open Go
namespace AG
theorem KD (w : AG) (e : Event) : ∀ n : Nat, (w.Hi e n).kind = e.kind ∧ (w.Hi e n).DV = e.DV ∧ (w.Hi e n).room = e.room ∧ (w.Hi e n).other = e.other ∧ (w.Hi e n).n = e.n ∧ (w.Hi e n).Hj = e.Hj ∧ (w.Hi e n).EM = e.EM ∧ (w.Hi e n).Bs = e.Bs ∧ (w.Hi e n).text = e.text
 | 0 => ⟨rfl, rfl, rfl, rfl, rfl, rfl, rfl, rfl, rfl⟩
 | k + 1 => KD w e k
end AG
namespace AE
section
variable {b c rc : Int} {S : Int → Prop} {T : AE}
section
variable (c0 : 0 ≤ c) (c6 : c < 6) (hn : c ≠ b)
include c0 c6 hn
end
end
end AE
end Go.Ing
/- What others are told is not empty: plain laws. -/
namespace Go.Ing
open Go
namespace AG
end AG
theorem P3 {α : Type} {d : α} {xs : List α} {i : Nat} (h : i < xs.length) : xs.getD i d ∈ xs := by
 rw [List.getD_eq_getElem?_getD, List.getElem?_eq_getElem h]
 exact List.getElem_mem h
namespace AE
theorem Mn : ∀ (l : List Int) (T : AE), (T.DA l).out.length = T.out.length + l.length
 | [], T => rfl
 | i :: r, T => by rw [DA, Mn r, FT]; show T.out.length + 1 + r.length = _; rw [List.length_cons]; omega
theorem Ns (v to : Int) : ∀ (l : List Int) (T : AE), (T.Ee v to l).out.length ≤ T.out.length + l.length
 | [], T => Nat.le_refl _
 | i :: r, T => by
  have h1 := Ns v to r (T.Cn v to i)
  have h2 := T.Ni v to i
  rw [Ee, List.length_cons]; omega
theorem RP (T : AE) {l : List Int} (hl : l.length ≤ 9) (o : Order) : (T.KU l o).out.length ≤ T.out.length + 10 := by
 have h := (EP T.w l o.nth o.name o.Bi).length_le
 unfold KU
 rw [Mn]
 split
 ·rw [CC]; omega
 ·omega
theorem YO (T : AE) (o : Order) : (T.get o).out.length ≤ T.out.length + 11 := by
 have hb := T.Hp o.second
 unfold get
 split
 ·split
  ·omega
  ·have := RP (T.box o.second).1 (AG.IB (T.box o.second).1.w 2 (T.box o.second).2.1) o
   omega
 ·have := RP T T.Im o
  omega
theorem Vc (T : AE) (o : Order) : (T.E3 o).out.length ≤ T.out.length + 11 := by
 have hb := T.P2 o
 unfold E3
 split
 ·omega
 ·unfold SJ
  have h := (EP (T.Cq o).1.w (T.Cq o).1.own o.nth o.name o.Bi).length_le
  have h9 := (T.Cq o).1.KI
  refine Nat.le_trans (Ns _ _ _ _) ?_
  split
  ·rw [CC]; omega
  ·omega
theorem Vr (T : AE) (o : Order) : (T.Ew o).out.length ≤ T.out.length + 2 := by
 unfold Ew
 generalize (if (!decide (o.nth = 1) || o.Bi) = true then [] else o.name) = nm
 have hs := T.G5 nm
 split
 ·omega
 ·refine Nat.le_trans (Nat.le_of_eq (CC _ _)) ?_
  split
  ·show (T.A6 nm).1.out.length + 1 ≤ _; omega
  ·show (T.A6 nm).1.out.length + 1 ≤ _; omega
theorem Oh (T : AE) (first : Bool) (i : Int) (v : Bool) (k : Int) : (T.before first i v k).out.length = T.out.length + 1 := by
 unfold before
 split
 ·rw [FT]; rfl
 ·exact FT T k i
theorem Yl (T : AE) (o : Order) : (T.set o).out.length ≤ T.out.length + 1 := by
 unfold set
 split
 ·unfold Gx
  split
  ·rw [CC]; exact Nat.le_refl _
  ·split
   ·rw [CC]; exact Nat.le_refl _
   ·refine Nat.le_trans (Nat.le_of_eq (CZ _ _)) ?_
    split <;> exact Nat.le_refl _
 ·split
  ·rw [CC]; exact Nat.le_refl _
  ·split
   ·rw [CC]; exact Nat.le_refl _
   ·split
    ·exact Nat.le_of_eq (Oh T _ _ _ _)
    ·exact Nat.le_of_eq (Oh T _ _ _ _)
theorem Xl (T : AE) (d : Int) : (T.walk d).out.length ≤ T.out.length + 11 := by
 unfold walk
 split
 ·rw [CC]; omega
 ·split
  ·rw [CC]; omega
  ·refine Nat.le_trans (JQ _).2.2 ?_
   rw [CZ]
   show (T.out ++ [_]).length + 1 + 9 ≤ _
   simp
theorem UF (T : AE) (o : Order) : (T.act o).out.length ≤ T.out.length + 11 := by
 unfold act
 split
 ·exact T.Xl _
 ·split
  ·exact Nat.le_trans (T.JQ).2.2 (by omega)
  ·split
   ·rw [(T.HY _ _).2.2]; omega
   ·split
    ·rw [CZ]; omega
    ·split
     ·rw [(T.Nw).2.1, LY]; omega
     ·split
      ·exact Nat.le_trans (T.Vr o) (by omega)
      ·split
       ·exact T.YO o
       ·split
        ·exact T.Vc o
        ·exact Nat.le_trans (T.Yl o) (by omega)
theorem W8.len {X : AG} {b : Int} {o : Order} (h : W8 X b o) : (D7 X b o).2.1.length ≤ 11 := by rw [h.out]; exact UF ⟨X, b, []⟩ o
end AE
end Go.Ing
/- A round of all fights: plain functions and laws. -/
namespace Go.Ing
open Go
theorem Cp (d : Int) : -2 ≤ d.tmod 3 ∧ d.tmod 3 ≤ 2 := by
 have h1 := Int.tmod_lt_of_pos d (show (0 : Int) < 3 by decide)
 have h2 := Int.tmod_lt_of_pos (-d) (show (0 : Int) < 3 by decide)
 rw [Int.neg_tmod] at h2
 omega
namespace AE
def FG (w : AG) (b : Int) : AE := ⟨w.Cz b { w.AN.at b with BH := 1 }, b, []⟩
def Fy (w : AG) (b : Int) : AE := ((FG w b).kind 15).E0
def I4 (w : AG) (b : Int) : AE := (Fy w b).DP b { (Fy w b).w.AN.at b with room := 0, BH := 10 }
def Hm (w : AG) (b : Int) : AE := if decide (b < 2) = true then (Fy w b).DP b default else ((I4 w b).kind 17).look
def Lp (draw b : Int) : Int := 1 + (draw.tmod 3 + 3 + b).tmod 3
def B9 (w : AG) (b Bx n : Int) : AE := (AE.BO ⟨w, b, []⟩ { Fj 14 with other := Bx, n := n }).DP Bx { w.AN.at Bx with BH := max 0 ((w.AN.at Bx).BH - n) }
def EH (draw b : Int) (s : AG × List Event) : AG × List Event :=
 if (!(s.1.AN.at b).here || decide ((s.1.AN.at b).Bx = 0)) = true then s
 else if (!(s.1.AN.at ((s.1.AN.at b).Bx - 1)).here || !decide ((s.1.AN.at ((s.1.AN.at b).Bx - 1)).room = (s.1.AN.at b).room)) = true then (s.1.Cz b { s.1.AN.at b with Bx := 0 }, s.2)
 else if decide (((B9 s.1 b ((s.1.AN.at b).Bx - 1) (Lp draw b)).w.AN.at ((s.1.AN.at b).Bx - 1)).BH = 0) = true then ((Hm (B9 s.1 b ((s.1.AN.at b).Bx - 1) (Lp draw b)).w ((s.1.AN.at b).Bx - 1)).w, (s.2 ++ (B9 s.1 b ((s.1.AN.at b).Bx - 1) (Lp draw b)).out) ++ (Hm (B9 s.1 b ((s.1.AN.at b).Bx - 1) (Lp draw b)).w ((s.1.AN.at b).Bx - 1)).out)
 else ((B9 s.1 b ((s.1.AN.at b).Bx - 1) (Lp draw b)).w, s.2 ++ (B9 s.1 b ((s.1.AN.at b).Bx - 1) (Lp draw b)).out)
def DR (X : AG) (draw : Int) : Nat → AG × List Event
 | 0 => (X, [])
 | k + 1 => EH draw k (DR X draw k)
def CS (X : AG) (draw : Int) : AG × List Event × Int := if (!X.BZ) = true then (X, [], 2) else ((DR X draw 6).1, (DR X draw 6).2, 0)
theorem Hy {X : AG} {draw k : Int} (h : 0 ≤ k) : DR X draw (k + 1).toNat = EH draw k (DR X draw k.toNat) := by
 obtain ⟨m, rfl⟩ := Int.eq_ofNat_of_zero_le h
 rfl
theorem LJ {draw b : Int} (h : 0 ≤ b) : 1 ≤ Lp draw b ∧ Lp draw b ≤ 3 := by
 unfold Lp
 have := Cp draw
 have h2 : 0 ≤ draw.tmod 3 + 3 + b := by omega
 have h3 := Int.tmod_nonneg (a := draw.tmod 3 + 3 + b) 3 h2
 have h4 := Int.tmod_lt_of_pos (draw.tmod 3 + 3 + b) (show (0 : Int) < 3 by decide)
 omega
structure X9 (x : Ak) : Prop where
 room : 0 ≤ x.room ∧ x.room < 6
 BH : 0 ≤ x.BH ∧ x.BH ≤ 10
 Bx : 0 ≤ x.Bx ∧ x.Bx ≤ 6
 off : x.here = false → x.Bx = 0
 alive : x.here = decide (0 < x.BH)
theorem bT {x : Ak} (h : AG.DM x = false) : X9 x := by
 simp only [AG.DM, Bool.or_eq_false_iff, decide_eq_false_iff_not, Bool.and_eq_false_iff, Bool.not_eq_false', bne_eq_false_iff_eq] at h
 obtain ⟨⟨⟨⟨⟨⟨⟨q1, q2⟩, q3⟩, q4⟩, q5⟩, q6⟩, q7⟩, q8⟩ := h
 refine ⟨by omega, by omega, by omega, fun e => ?_, q8⟩
 rcases q7 with q | q
 ·rw [e] at q; cases q
 ·exact of_decide_eq_true q
theorem aN {x : Ak} (h : X9 x) : AG.DM x = false := by
 have h1 := h.room; have h2 := h.BH; have h3 := h.Bx
 simp only [AG.DM, Bool.or_eq_false_iff, decide_eq_false_iff_not, Bool.and_eq_false_iff, Bool.not_eq_false', bne_eq_false_iff_eq]
 refine ⟨⟨⟨⟨⟨⟨⟨by omega, by omega⟩, by omega⟩, by omega⟩, by omega⟩, by omega⟩, ?_⟩, h.alive⟩
 cases hh : x.here with
 | true => exact .inl rfl
 | false => exact .inr (decide_eq_true (h.off hh))
theorem HA {X : AG} (h : X.BZ = true) {b : Int} (h0 : 0 ≤ b) (h6 : b < 6) : X9 (X.AN.at b) := bT (AG.Ei h h0 h6)
theorem Jp {X : AG} (h : X.BZ = true) {b : Int} (h0 : 0 ≤ b) (h6 : b < 6) {x : Ak} (hx : X9 x) (hh : (X.AN.at b).here = true → x.here = true) : (X.Cz b x).BZ = true :=
 AG.IZ h h0 h6 (aN hx) fun i i0 i9 e1 e2 => by
  rcases (AG.HT h i0 i9).CJ with ⟨a, _⟩ | ⟨_, _, a⟩ | ⟨a, _⟩
  ·omega
  ·rw [e2] at a; exact hh a
  ·omega
theorem U4 (X : AG) (b : Int) (x y : Ak) : (X.Cz b x).Cz b y = X.Cz b y := by
 unfold AG.Cz
 show ({ X with AN := (X.AN.put b x).put b y } : AG) = _
 rw [Vector.Ed]
section
variable {w : AG} {b Bx n : Int} (hg : w.BZ = true) (hw : w.DE) (f0 : 0 ≤ Bx) (f6 : Bx < 6) (hh : (w.AN.at Bx).here = true)
include hg hw f0 f6 hh
theorem Kr : (FG (B9 w b Bx n).w Bx).Fit := by
 have e : (B9 w b Bx n).w.Cz Bx { (B9 w b Bx n).w.AN.at Bx with BH := 1 } = w.Cz Bx { w.AN.at Bx with BH := 1 } := by
  show (w.Cz Bx _).Cz Bx { (w.Cz Bx _).AN.at Bx with BH := 1 } = _
  rw [U4, AG.EC f0 f6]
 have k := HA hg f0 f6
 refine ⟨⟨f0, f6⟩, ?_, ?_, ?_⟩
 ·show ((B9 w b Bx n).w.Cz Bx _).DE
  rw [e]; exact Eg hw (hw.be Bx)
 ·show ((B9 w b Bx n).w.Cz Bx _).BZ = true
  rw [e]
  exact Jp hg f0 f6 ⟨k.room, ⟨show (0 : Int) ≤ 1 by decide, show (1 : Int) ≤ 10 by decide⟩, k.Bx, k.off, by rw [show ({ w.AN.at Bx with BH := 1 } : Ak).here = true from hh]; rfl⟩ fun _ => hh
 ·show (((B9 w b Bx n).w.Cz Bx _).AN.at Bx).here = true
  rw [e, AG.EC f0 f6]; exact hh
theorem RX (hn : 0 < (w.AN.at Bx).BH - n) (h1 : 0 ≤ n) : (B9 w b Bx n).w.BZ = true ∧ (B9 w b Bx n).w.DE := by
 have k := HA hg f0 f6
 have hk := k.BH
 refine ⟨Jp hg f0 f6 ⟨k.room, ⟨?_, ?_⟩, k.Bx, k.off, ?_⟩ fun _ => hh, Eg hw (hw.be Bx)⟩
 ·show 0 ≤ max 0 ((w.AN.at Bx).BH - n); omega
 ·show max 0 ((w.AN.at Bx).BH - n) ≤ 10; omega
 ·show (w.AN.at Bx).here = decide (0 < max 0 ((w.AN.at Bx).BH - n))
  rw [hh, decide_eq_true (by omega)]
end
theorem Jk (w : AG) (b : Int) : (Fy w b).b = b ∧ (Fy w b).out = ((FG w b).kind 15).out := Q3 ((FG w b).kind 15)
theorem Q0 (w : AG) (b : Int) : (I4 w b).b = b ∧ (I4 w b).out = ((FG w b).kind 15).out ∧ (I4 w b).w = (Fy w b).w.Cz b { (Fy w b).w.AN.at b with room := 0, BH := 10 } := by
 have h := Jk w b
 unfold I4
 rw [(C5 _ _ _).1, (C5 _ _ _).2.1, (C5 _ _ _).2.2]
 exact ⟨h.1, h.2, rfl⟩
theorem Yf (D : AG) {b : Int} (hb : 0 ≤ b ∧ b < 6) : ({ D with AN := (D.AN.put b { D.AN.at b with room := 0 }).put b { (D.AN.put b { D.AN.at b with room := 0 }).at b with BH := 10 } } : AG) = D.Cz b { D.AN.at b with room := 0, BH := 10 } := by
 rw [Vector.CB hb.1 hb.2, Vector.Ed]; rfl
theorem Tz {X F : AG} {b : Int} (h : F = ((FG X b).kind 15).E0.w) (x : Ak) : (Fy X b).DP b x = ⟨F.Cz b x, b, ((FG X b).kind 15).out⟩ := by
 subst h
 have e := Jk X b
 have h1 := C5 (Fy X b) b x
 cases hT : (Fy X b).DP b x with
 | mk w' b' o' =>
  rw [hT] at h1
  obtain ⟨q1, q2, q3⟩ := h1
  simp only at q1 q2 q3
  rw [q1, q2, q3, e.1, e.2]
  rfl
theorem X6 {X F : AG} {b : Int} (h : F = ((FG X b).kind 15).E0.w) : I4 X b = ⟨F.Cz b { F.AN.at b with room := 0, BH := 10 }, b, ((FG X b).kind 15).out⟩ := by
 have h' : (Fy X b).w = F := h.symm
 unfold I4
 rw [h', Tz h]
theorem Qo {w : AG} {b : Int} (h : (FG w b).Fit) : DB (FG w b) (Fy w b) ∧ ∀ j, 0 ≤ j → j < 9 → ¬ (((Fy w b).w.AL.at j).CJ = 1 ∧ ((Fy w b).w.AL.at j).at_ = b) := by
 have g1 : DB (FG w b) ((FG w b).kind 15) := h.goes.EZ rfl rfl
 obtain ⟨g2, k⟩ := QI g1.fit
 exact ⟨g1.trans g2, k⟩
theorem Rh {w : AG} {b : Int} (h : (FG w b).Fit) : (I4 w b).Fit := by
 have g := (Qo h).1.fit
 have hb : 0 ≤ b ∧ b < 6 := h.b
 have e := Q0 w b
 have eb := (Jk w b).1
 have gb := g.b
 have gh := g.here
 rw [eb] at gb gh
 have k := HA g.gd hb.1 hb.2
 have gbr := g.br
 have ggd := g.gd
 obtain ⟨e1, _, e3⟩ := e
 generalize hD : (Fy w b).w = D at *
 have hx : (D.Cz b { D.AN.at b with room := 0, BH := 10 }).BZ = true := Jp ggd hb.1 hb.2 ⟨⟨Int.le_refl _, show (0 : Int) < 6 by decide⟩, ⟨show (0 : Int) ≤ 10 by decide, show (10 : Int) ≤ 10 by decide⟩, k.Bx, k.off, gh⟩ fun _ => gh
 have hy : (D.Cz b { D.AN.at b with room := 0, BH := 10 }).DE := Eg gbr (gbr.be b)
 have hz : ((D.Cz b { D.AN.at b with room := 0, BH := 10 }).AN.at b).here = true := by rw [AG.EC hb.1 hb.2]; exact gh
 exact ⟨by rw [e1]; exact hb, by rw [e3]; exact hy, by rw [e3]; exact hx, by rw [e1, e3]; exact hz⟩
theorem P8 {w : AG} {b : Int} (h : (FG w b).Fit) : (Hm w b).w.BZ = true ∧ (Hm w b).w.DE ∧ (Hm w b).out.length ≤ 12 := by
 have hb : 0 ≤ b ∧ b < 6 := h.b
 obtain ⟨g, hk⟩ := Qo h
 unfold Hm
 split
 ·rw [(C5 _ _ _).2.1, (C5 _ _ _).2.2]
  refine ⟨AG.IZ (X := (Fy w b).w) g.fit.gd hb.1 hb.2 (by decide) fun i i0 i9 e1 e2 => absurd ⟨e1, e2⟩ (hk i i0 i9), Eg (X := (Fy w b).w) g.fit.br (by decide), ?_⟩
  rw [(Jk w b).2, LY]
  exact (by decide : (0 : Nat) + 1 ≤ 12)
 ·have f := Rh h
  have hl := JQ ((I4 w b).kind 17)
  refine ⟨by rw [hl.1]; exact f.gd, by rw [hl.1]; exact f.br, ?_⟩
  have h2 := hl.2.2
  rw [LY, (Q0 w b).2.1, LY] at h2
  exact Nat.le_trans h2 (by decide : (0 : Nat) + 1 + 1 + 9 ≤ 12)
theorem FR {s : AG × List Event} {draw b : Int} (hg : s.1.BZ = true) (hw : s.1.DE) (h0 : 0 ≤ b) (h6 : b < 6) : (EH draw b s).1.BZ = true ∧ (EH draw b s).1.DE ∧ (EH draw b s).2.length ≤ s.2.length + 13 := by
 have kb := HA hg h0 h6
 have hn := LJ (draw := draw) h0
 unfold EH
 split
 ·exact ⟨hg, hw, by omega⟩
 ·rename_i h1
  simp only [Bool.or_eq_true, Bool.not_eq_true', decide_eq_true_eq, not_or, Bool.not_eq_false] at h1
  have kf := kb.Bx
  split
  ·exact ⟨Jp hg h0 h6 ⟨kb.room, kb.BH, ⟨Int.le_refl _, show (0 : Int) ≤ 6 by decide⟩, fun _ => rfl, kb.alive⟩ fun h => h, Eg hw (hw.be b), Nat.le_add_right _ _⟩
  ·rename_i h2
   simp only [Bool.or_eq_true, Bool.not_eq_true', decide_eq_false_iff_not, not_or, Bool.not_eq_false, Decidable.not_not] at h2
   have hf := Kr (b := b) (n := Lp draw b) hg hw (Bx := (s.1.AN.at b).Bx - 1) (by omega) (by omega) h2.1
   have hso : (B9 s.1 b ((s.1.AN.at b).Bx - 1) (Lp draw b)).out.length = 1 := rfl
   split
   ·obtain ⟨d1, d2, d3⟩ := P8 hf
    refine ⟨d1, d2, ?_⟩
    show ((s.2 ++ _) ++ _).length ≤ _
    rw [List.length_append, List.length_append, hso]; omega
   ·rename_i h3
    have h3' : ¬ ((B9 s.1 b ((s.1.AN.at b).Bx - 1) (Lp draw b)).w.AN.at ((s.1.AN.at b).Bx - 1)).BH = 0 := fun e => h3 (decide_eq_true e)
    have e : ((B9 s.1 b ((s.1.AN.at b).Bx - 1) (Lp draw b)).w.AN.at ((s.1.AN.at b).Bx - 1)) = { s.1.AN.at ((s.1.AN.at b).Bx - 1) with BH := max 0 ((s.1.AN.at ((s.1.AN.at b).Bx - 1)).BH - Lp draw b) } := Vector.CB (by omega) (by omega)
    rw [e] at h3'
    have h3'' : ¬ max 0 ((s.1.AN.at ((s.1.AN.at b).Bx - 1)).BH - Lp draw b) = 0 := h3'
    obtain ⟨d1, d2⟩ := RX (b := b) (n := Lp draw b) hg hw (Bx := (s.1.AN.at b).Bx - 1) (by omega) (by omega) h2.1 (by omega) (by omega)
    refine ⟨d1, d2, ?_⟩
    show (s.2 ++ _).length ≤ _
    rw [List.length_append, hso]; omega
end AE
end Go.Ing
/- What a round takes: plain laws. -/
namespace Go.Ing
open Go
namespace AE
def P0 (v : Vector Int 6) (e : Event) : Vector Int 6 := if decide (e.kind = 14) = true then v.put e.other (v.at e.other + e.n) else v
def Px (v : Vector Bool 6) (e : Event) : Vector Bool 6 := if decide (e.kind = 15) = true then v.put e.DV true else v
def EB (l : List Event) : Vector Int 6 := l.foldl P0 (Vector.replicate 6 default)
def FX (l : List Event) : Vector Bool 6 := l.foldl Px (Vector.replicate 6 default)
theorem OY (l : List Event) (e : Event) : EB (l ++ [e]) = P0 (EB l) e := by simp [EB]
theorem Np (l : List Event) (e : Event) : FX (l ++ [e]) = Px (FX l) e := by simp [FX]
def Quiet (q : List Event) : Prop := ∀ e ∈ q, e.kind ≠ 14 ∧ e.kind ≠ 15
theorem NX : ∀ {q : List Event} (v : Vector Int 6) (u : Vector Bool 6), Quiet q → q.foldl P0 v = v ∧ q.foldl Px u = u
 | [], _, _, _ => ⟨rfl, rfl⟩
 | e :: r, v, u, h => by
  have he := h e (List.mem_cons_self ..)
  have hr : Quiet r := fun x hx => h x (List.mem_cons_of_mem _ hx)
  rw [List.foldl_cons, List.foldl_cons, P0, if_neg (by simp [he.1]), Px, if_neg (by simp [he.2])]
  exact NX v u hr
theorem Rz {l q : List Event} (h : Quiet q) : EB (l ++ q) = EB l ∧ FX (l ++ q) = FX l := by
 unfold EB FX
 rw [List.foldl_append, List.foldl_append]
 exact NX _ _ h
theorem Hx (T : AE) (e : Event) : ∃ x : Event, (T.BO e).out = T.out ++ [x] ∧ x.kind = e.kind ∧ x.DV = T.b ∧ x.other = e.other ∧ x.n = e.n := by
 obtain ⟨a1, a2, _, a4, a5, _⟩ := AG.KD T.w (T.Di e) 6
 have e2 : (T.Di e).kind = e.kind ∧ (T.Di e).DV = T.b ∧ (T.Di e).other = e.other ∧ (T.Di e).n = e.n := by
  unfold Di
  split <;> exact ⟨rfl, rfl, rfl, rfl⟩
 exact ⟨_, rfl, a1.trans e2.1, a2.trans e2.2.1, a4.trans e2.2.2.1, a5.trans e2.2.2.2⟩
def Mu (T T' : AE) : Prop := ∃ q, T'.out = T.out ++ q ∧ ∀ e ∈ q, e.kind = 16
theorem Mu.refl (T : AE) : Mu T T := ⟨[], by simp, fun _ h => by cases h⟩
theorem Mu.tell {T T' : AE} (h : Mu T T') (s : Ap) : Mu T (T'.tell s) := by
 obtain ⟨q, e, k⟩ := h
 obtain ⟨x, e2, k2, _⟩ := Hx T' { Fj 16 with text := s }
 refine ⟨q ++ [x], ?_, fun y hy => ?_⟩
 ·show (T'.BO _).out = _
  rw [e2, e, List.append_assoc]
 ·rcases List.mem_append.1 hy with hy | hy
  ·exact k y hy
  ·have : y = x := by simpa using hy
   rw [this]; exact k2
theorem Mu.look {T T' : AE} (h : Mu T T') : Mu T T'.look := by
 have hk : ∀ {T'' : AE}, Mu T T'' → ∀ k : Nat, Mu T (T''.FQ k) := fun {T''} h' k => by
  induction k with
  | zero => exact h'
  | succ k ih =>
   unfold FQ
   split
   ·exact ih.tell _
   ·exact ih
 unfold AE.look
 split
 ·exact h.tell _
 ·refine hk ?_ 6
  have ha : Mu T T'.JZ := (h.tell _).tell _
  unfold D4
  split
  ·exact ha.tell _
  ·exact ha
/-! #### who is struck, who dies -/
def calm (b : Int) (x : Ak) : Ak := { x with Bx := if x.Bx = b + 1 then 0 else x.Bx }
theorem XC {b : Int} {x : Ak} (h : x.Bx = b + 1) : calm b x = { x with Bx := 0 } := by unfold calm; rw [if_pos h]
theorem W3 {b : Int} {x : Ak} (h : ¬ x.Bx = b + 1) : calm b x = x := by unfold calm; rw [if_neg h]
theorem RW (T : AE) (hb : 0 ≤ T.b) : ∀ k : Nat, k ≤ 6 → ∀ c : Int, 0 ≤ c → c < 6 → (T.DN k).w.AN.at c = if c < (k : Int) then calm T.b (T.w.AN.at c) else T.w.AN.at c
 | 0, _, c, c0, _ => by rw [if_neg (by omega)]; rfl
 | k + 1, hk, c, c0, c6 => by
  have ih := RW T hb k (by omega)
  have ihk := ih k (by omega) (by omega)
  rw [if_neg (by omega)] at ihk
  have ihc := ih c c0 c6
  unfold DN
  rw [ihk]
  by_cases e : (T.w.AN.at (k : Int)).Bx = T.b + 1
  ·rw [if_pos (decide_eq_true e)]
   show (((T.DN k).w.AN.put (k : Int) { (T.DN k).w.AN.at (k : Int) with Bx := 0 }).at c) = _
   rw [I8 _ _ _ _ (by omega) (by omega) c0]
   by_cases ec : c = (k : Int)
   ·subst ec
    rw [if_pos rfl, if_pos (by omega), ihk, XC e]
   ·rw [if_neg ec, ihc]
    by_cases hl : c < (k : Int)
    ·rw [if_pos hl, if_pos (by omega)]
    ·rw [if_neg hl, if_neg (by omega)]
  ·rw [if_neg (by simpa using e), ihc]
   by_cases hl : c < (k : Int)
   ·rw [if_pos hl, if_pos (by omega)]
   ·rw [if_neg hl]
    by_cases ec : c = (k : Int)
    ·subst ec
     rw [if_pos (by omega), W3 e]
    ·rw [if_neg (by omega)]
theorem Oi : ∀ (l : List Int) (T : AE), (T.CX l).w.AN = T.w.AN
 | [], _ => rfl
 | i :: r, T => (Oi r (T.Et i)).trans rfl
theorem YK (T : AE) (hb : 0 ≤ T.b ∧ T.b < 6) {c : Int} (c0 : 0 ≤ c) (c6 : c < 6) : T.E0.w.AN.at c = if c = T.b then { T.w.AN.at c with Bx := 0 } else calm T.b (T.w.AN.at c) := by
 have hd := Oi T.own T
 have hdb := (IG T.own T).1
 have hk := RW (T.CX T.own) (by rw [hdb]; exact hb.1) 6 (Nat.le_refl _)
 rw [hd, hdb] at hk
 rw [Lz]
 generalize (T.CX T.own).DN 6 = D at *
 show (D.w.AN.put T.b { D.w.AN.at T.b with Bx := 0 }).at c = _
 rw [I8 _ _ _ _ hb.1 hb.2 c0]
 have hc := hk c c0 c6
 rw [if_pos (by omega)] at hc
 by_cases e : c = T.b
 ·rw [if_pos e, if_pos e, ← e, hc]; rfl
 ·rw [if_neg e, if_neg e, hc]
structure bG (w w' : AG) (f : Int) : Prop where
 cJ : ∀ c, 0 ≤ c → c < 6 → c ≠ f → (w'.AN.at c).BH = (w.AN.at c).BH ∧ (w'.AN.at c).room = (w.AN.at c).room ∧ (w'.AN.at c).here = (w.AN.at c).here ∧ ((w'.AN.at c).Bx = (w.AN.at c).Bx ∨ (w'.AN.at c).Bx = 0) ∧ (w'.AN.at c).Bx ≠ f + 1
 here : (w'.AN.at f).here = decide (2 ≤ f)
 Bx : (w'.AN.at f).Bx = 0
theorem Ty {w : AG} {f c : Int} (hf : 0 ≤ f ∧ f < 6) (c0 : 0 ≤ c) (c6 : c < 6) : (Fy w f).w.AN.at c = if c = f then { (FG w f).w.AN.at c with Bx := 0 } else calm f ((FG w f).w.AN.at c) := YK ((FG w f).kind 15) hf c0 c6
theorem XF {w : AG} {f c : Int} (hf : 0 ≤ f ∧ f < 6) (c0 : 0 ≤ c) (c6 : c < 6) (hn : c ≠ f) : (Fy w f).w.AN.at c = calm f (w.AN.at c) := by
 have h0 : (FG w f).w.AN.at c = w.AN.at c := AG.GN hf.1 hf.2 c0 hn _
 rw [Ty hf c0 c6, h0, if_neg hn]
theorem Yb (f : Int) (hf : 0 ≤ f) (x : Ak) : (calm f x).BH = x.BH ∧ (calm f x).room = x.room ∧ (calm f x).here = x.here ∧ ((calm f x).Bx = x.Bx ∨ (calm f x).Bx = 0) ∧ (calm f x).Bx ≠ f + 1 := by
 by_cases e : x.Bx = f + 1
 ·rw [XC e]
  refine ⟨rfl, rfl, rfl, .inr rfl, ?_⟩
  show (0 : Int) ≠ f + 1
  omega
 ·rw [W3 e]
  exact ⟨rfl, rfl, rfl, .inl rfl, e⟩
theorem Tw {w w1 w' : AG} {f : Int} (hf : 0 ≤ f ∧ f < 6) (ho : ∀ c, 0 ≤ c → c < 6 → c ≠ f → w1.AN.at c = calm f (w.AN.at c)) (he : ∀ c, 0 ≤ c → c < 6 → c ≠ f → w'.AN.at c = w1.AN.at c) (h1 : (w'.AN.at f).here = decide (2 ≤ f)) (h2 : (w'.AN.at f).Bx = 0) : bG w w' f := by
 refine ⟨fun c c0 c6 hn => ?_, h1, h2⟩
 rw [he c c0 c6 hn, ho c c0 c6 hn]
 exact Yb f hf.1 _
theorem Ur {w : AG} {f : Int} (h : (FG w f).Fit) : bG w (Hm w f).w f ∧ ∃ x q, (Hm w f).out = x :: q ∧ x.kind = 15 ∧ x.DV = f ∧ Quiet q := by
 have hf : 0 ≤ f ∧ f < 6 := h.b
 have ho : ∀ c, 0 ≤ c → c < 6 → c ≠ f → (Fy w f).w.AN.at c = calm f (w.AN.at c) := fun c c0 c6 hn => XF hf c0 c6 hn
 obtain ⟨x, e1, k1, k2, _⟩ := Hx (FG w f) (Fj 15)
 have hout : ((FG w f).kind 15).out = [x] := e1
 have g := (Qo h).1.fit
 have gh := g.here
 rw [(Jk w f).1] at gh
 have hme := Ty (w := w) hf hf.1 hf.2
 rw [if_pos rfl] at hme
 have hfoe : ((Fy w f).w.AN.at f).Bx = 0 := by rw [hme]
 unfold Hm
 split
 ·rename_i c2
  have c2' := of_decide_eq_true c2
  rw [(C5 _ _ _).2.1, (C5 _ _ _).2.2, (Jk w f).2, hout]
  generalize (Fy w f).w = D at *
  refine ⟨Tw (w1 := D) hf ho (fun c c0 _ hn => AG.GN hf.1 hf.2 c0 hn _) ?_ ?_, x, [], rfl, k1, k2, fun e he => by cases he⟩
  ·show ((D.Cz f default).AN.at f).here = _
   rw [AG.EC hf.1 hf.2, decide_eq_false (by omega)]; rfl
  ·show ((D.Cz f default).AN.at f).Bx = _
   rw [AG.EC hf.1 hf.2]; rfl
 ·rename_i c2
  have c2' : ¬ f < 2 := fun e => c2 (decide_eq_true e)
  have hl := JQ ((I4 w f).kind 17)
  have e2 := Q0 w f
  obtain ⟨y, e3, k3, _⟩ := Hx (I4 w f) (Fj 17)
  obtain ⟨q, e4, k4⟩ := (Mu.refl ((I4 w f).kind 17)).look
  have e3' : ((I4 w f).kind 17).out = [x] ++ [y] := by rw [show ((I4 w f).kind 17).out = _ from e3, e2.2.1, hout]
  rw [hl.1, e4, e3', show ((I4 w f).kind 17).w = (I4 w f).w from rfl, e2.2.2]
  generalize (Fy w f).w = D at *
  refine ⟨Tw (w1 := D) hf ho (fun c c0 _ hn => AG.GN hf.1 hf.2 c0 hn _) ?_ ?_, x, y :: q, rfl, k1, k2, fun e he => ?_⟩
  ·rw [AG.EC hf.1 hf.2, decide_eq_true (by omega)]; exact gh
  ·rw [AG.EC hf.1 hf.2]; exact hfoe
  ·rcases List.mem_cons.1 he with he | he
   ·rw [he, k3]; exact ⟨by decide, by decide⟩
   ·rw [k4 e he]; exact ⟨by decide, by decide⟩
/-! #### the count of a round -/
def cz (e : Event) : Prop := (e.kind = 14 → 1 ≤ e.n ∧ e.n ≤ 3 ∧ 0 ≤ e.other ∧ e.other < 6) ∧ (e.kind = 15 → 0 ≤ e.DV ∧ e.DV < 6)
structure S0 (X : AG) (s : AG × List Event) : Prop where
 ev : ∀ e ∈ s.2, cz e
 un : ∀ c, 0 ≤ c → c < 6 → (FX s.2).at c = false → (s.1.AN.at c).BH = (X.AN.at c).BH - (EB s.2).at c ∧ (s.1.AN.at c).room = (X.AN.at c).room ∧ (s.1.AN.at c).here = (X.AN.at c).here
 di : ∀ c, 0 ≤ c → c < 6 → (FX s.2).at c = true → (X.AN.at c).BH ≤ (EB s.2).at c ∧ (s.1.AN.at c).here = decide (2 ≤ c) ∧ (s.1.AN.at c).Bx = 0 ∧ ∀ a, 0 ≤ a → a < 6 → (s.1.AN.at a).Bx ≠ c + 1
theorem WC {α : Type} [Inhabited α] (c : Int) (c0 : 0 ≤ c) (c6 : c < 6) : (Vector.replicate 6 (default : α)).at c = default := by
 have : c = 0 ∨ c = 1 ∨ c = 2 ∨ c = 3 ∨ c = 4 ∨ c = 5 := by omega
 rcases this with rfl | rfl | rfl | rfl | rfl | rfl <;> rfl
theorem S0.start (X : AG) : S0 X (X, []) := by
 have hh : ∀ c, 0 ≤ c → c < 6 → (EB []).at c = 0 := fun c c0 c6 => WC c c0 c6
 have hd : ∀ c, 0 ≤ c → c < 6 → (FX []).at c = false := fun c c0 c6 => WC c c0 c6
 refine ⟨fun _ h => (by cases h), fun c c0 c6 _ => ⟨?_, rfl, rfl⟩, fun c c0 c6 h => ?_⟩
 ·show (X.AN.at c).BH = (X.AN.at c).BH - (EB []).at c
  rw [hh c c0 c6]; omega
 ·have h' : (FX []).at c = true := h
  rw [hd c c0 c6] at h'; cases h'
theorem S0.next {X : AG} {s : AG × List Event} {draw b : Int} (h : S0 X s) (hg : s.1.BZ = true) (hw : s.1.DE) (h0 : 0 ≤ b) (h6 : b < 6) : S0 X (EH draw b s) := by
 have kb := HA hg h0 h6
 have hn := LJ (draw := draw) h0
 unfold EH
 split
 ·exact h
 ·rename_i h1
  simp only [Bool.or_eq_true, Bool.not_eq_true', decide_eq_true_eq, not_or, Bool.not_eq_false] at h1
  have kf := kb.Bx
  split
  ·have hb : ∀ c, 0 ≤ c → ((s.1.Cz b { s.1.AN.at b with Bx := 0 }).AN.at c).BH = (s.1.AN.at c).BH ∧ ((s.1.Cz b { s.1.AN.at b with Bx := 0 }).AN.at c).room = (s.1.AN.at c).room ∧ ((s.1.Cz b { s.1.AN.at b with Bx := 0 }).AN.at c).here = (s.1.AN.at c).here ∧ (((s.1.Cz b { s.1.AN.at b with Bx := 0 }).AN.at c).Bx = (s.1.AN.at c).Bx ∨ ((s.1.Cz b { s.1.AN.at b with Bx := 0 }).AN.at c).Bx = 0) := fun c c0 => by
    by_cases e : c = b
    ·subst e; rw [AG.EC h0 h6]; exact ⟨rfl, rfl, rfl, .inr rfl⟩
    ·rw [AG.GN h0 h6 c0 e]; exact ⟨rfl, rfl, rfl, .inl rfl⟩
   refine ⟨h.ev, fun c c0 c6 hd => ?_, fun c c0 c6 hd => ?_⟩
   ·obtain ⟨q1, q2, q3⟩ := h.un c c0 c6 hd
    obtain ⟨r1, r2, r3, _⟩ := hb c c0
    exact ⟨r1.trans q1, r2.trans q2, r3.trans q3⟩
   ·obtain ⟨q1, q2, q3, q4⟩ := h.di c c0 c6 hd
    obtain ⟨_, _, r3, r4⟩ := hb c c0
    refine ⟨q1, r3.trans q2, ?_, fun a a0 a6 => ?_⟩
    ·rcases r4 with r4 | r4
     ·exact r4.trans q3
     ·exact r4
    ·have := q4 a a0 a6
     rcases (hb a a0).2.2.2 with r | r
     ·rw [r]; exact this
     ·rw [r]; omega
  ·rename_i h2
   simp only [Bool.or_eq_true, Bool.not_eq_true', decide_eq_false_iff_not, not_or, Bool.not_eq_false, Decidable.not_not] at h2
   generalize hfo : (s.1.AN.at b).Bx - 1 = f at *
   generalize Lp draw b = n at *
   have f0 : 0 ≤ f := by omega
   have f6 : f < 6 := by omega
   have hf := Kr (b := b) (n := n) hg hw (Bx := f) f0 f6 h2.1
   have kf2 := (HA hg f0 f6).BH
   obtain ⟨x, ex, k1, k2, k3, k4⟩ := Hx ⟨s.1, b, []⟩ { Fj 14 with other := f, n := n }
   have hso : (B9 s.1 b f n).out = [x] := ex
   have hsw : (B9 s.1 b f n).w = s.1.Cz f { s.1.AN.at f with BH := max 0 ((s.1.AN.at f).BH - n) } := rfl
   have k1' : x.kind = 14 := k1
   have k3' : x.other = f := k3
   have k4' : x.n = n := k4
   have hH : EB (s.2 ++ [x]) = (EB s.2).put f ((EB s.2).at f + n) := by rw [OY, P0, if_pos (decide_eq_true k1'), k3', k4']
   have hD : FX (s.2 ++ [x]) = FX s.2 := by rw [Np, Px, if_neg (by rw [k1']; decide)]
   have hnd : (FX s.2).at f = false := by
    cases hh : (FX s.2).at f with
    | false => rfl
    | true => exact absurd (by omega : (s.1.AN.at b).Bx = f + 1) ((h.di f f0 f6 hh).2.2.2 b h0 h6)
   have hfe := h.un f f0 f6 hnd
   have hxe : cz x := ⟨fun _ => by rw [k3', k4']; omega, fun e => by rw [k1'] at e; cases e⟩
   have hev : ∀ e ∈ s.2 ++ [x], cz e := fun e he => by
    rcases List.mem_append.1 he with he | he
    ·exact h.ev e he
    ·have : e = x := by simpa using he
     rw [this]; exact hxe
   have hwc : ∀ c, 0 ≤ c → c ≠ f → (B9 s.1 b f n).w.AN.at c = s.1.AN.at c := fun c c0 hne => by rw [hsw]; exact AG.GN f0 f6 c0 hne _
   have hwf : (B9 s.1 b f n).w.AN.at f = { s.1.AN.at f with BH := max 0 ((s.1.AN.at f).BH - n) } := by rw [hsw]; exact AG.EC f0 f6 _
   have hwa : ∀ a, 0 ≤ a → ((B9 s.1 b f n).w.AN.at a).Bx = (s.1.AN.at a).Bx := fun a a0 => by
    by_cases e : a = f
    ·rw [e, hwf]
    ·rw [hwc a a0 e]
   have hHc : ∀ c, 0 ≤ c → c ≠ f → ((EB s.2).put f ((EB s.2).at f + n)).at c = (EB s.2).at c := fun c c0 hne => Vector.ET f0 f6 c0 hne
   have hHf : ((EB s.2).put f ((EB s.2).at f + n)).at f = (EB s.2).at f + n := Vector.CB f0 f6
   split
   ·rename_i h3
    have h3' := of_decide_eq_true h3
    rw [hwf] at h3'
    have h3'' : max 0 ((s.1.AN.at f).BH - n) = 0 := h3'
    obtain ⟨dd, y, q, e2, y1, y2, y3⟩ := Ur hf
    rw [e2, hso]
    generalize (Hm (B9 s.1 b f n).w f).w = W at *
    have hA : EB (s.2 ++ [x] ++ y :: q) = (EB s.2).put f ((EB s.2).at f + n) ∧ FX (s.2 ++ [x] ++ y :: q) = (FX s.2).put f true := by
     have hq := Rz (l := s.2 ++ [x] ++ [y]) y3
     rw [show s.2 ++ [x] ++ y :: q = s.2 ++ [x] ++ [y] ++ q by simp, hq.1, hq.2, OY, Np, hH, hD, P0, if_neg (by rw [y1]; decide), Px, if_pos (decide_eq_true y1), y2]
     exact ⟨rfl, rfl⟩
    refine ⟨fun e he => ?_, fun c c0 c6 hd => ?_, fun c c0 c6 hd => ?_⟩
    ·rcases List.mem_append.1 he with he | he
     ·exact hev e he
     ·rcases List.mem_cons.1 he with he | he
      ·rw [he]; exact ⟨fun e => absurd (y1.symm.trans e) (by decide), fun _ => by rw [y2]; exact ⟨f0, f6⟩⟩
      ·exact ⟨fun e' => absurd e' (y3 e he).1, fun e' => absurd e' (y3 e he).2⟩
    ·have hd' : ((FX s.2).put f true).at c = false := by rw [← hA.2]; exact hd
     have hne : c ≠ f := fun e => by
      rw [e, Vector.CB f0 f6] at hd'; cases hd'
     rw [Vector.ET f0 f6 c0 hne] at hd'
     obtain ⟨q1, q2, q3⟩ := h.un c c0 c6 hd'
     obtain ⟨r1, r2, r3, _⟩ := dd.cJ c c0 c6 hne
     rw [hwc c c0 hne] at r1 r2 r3
     show (W.AN.at c).BH = (X.AN.at c).BH - (EB (s.2 ++ [x] ++ y :: q)).at c ∧ _
     rw [hA.1, hHc c c0 hne]
     exact ⟨r1.trans q1, r2.trans q2, r3.trans q3⟩
    ·have hd' : ((FX s.2).put f true).at c = true := by rw [← hA.2]; exact hd
     show (X.AN.at c).BH ≤ (EB (s.2 ++ [x] ++ y :: q)).at c ∧ _
     rw [hA.1]
     by_cases hne : c = f
     ·subst hne
      rw [hHf]
      refine ⟨by omega, dd.here, dd.Bx, fun a a0 a6 => ?_⟩
      by_cases ea : a = c
      ·rw [ea, dd.Bx]; omega
      ·exact (dd.cJ a a0 a6 ea).2.2.2.2
     ·rw [Vector.ET f0 f6 c0 hne] at hd'
      rw [hHc c c0 hne]
      obtain ⟨q1, q2, q3, q4⟩ := h.di c c0 c6 hd'
      obtain ⟨_, _, r3, r4, _⟩ := dd.cJ c c0 c6 hne
      rw [hwc c c0 hne] at r3 r4
      refine ⟨q1, r3.trans q2, ?_, fun a a0 a6 => ?_⟩
      ·rcases r4 with r4 | r4
       ·exact r4.trans q3
       ·exact r4
      ·by_cases ea : a = f
       ·rw [ea, dd.Bx]; omega
       ·have := q4 a a0 a6
        have r := (dd.cJ a a0 a6 ea).2.2.2.1
        rw [hwc a a0 ea] at r
        rcases r with r | r
        ·rw [r]; exact this
        ·rw [r]; omega
   ·rename_i h3
    have h3' : ¬ ((B9 s.1 b f n).w.AN.at f).BH = 0 := fun e => h3 (decide_eq_true e)
    rw [hwf] at h3'
    have h3'' : ¬ max 0 ((s.1.AN.at f).BH - n) = 0 := h3'
    rw [hso]
    refine ⟨hev, fun c c0 c6 hd => ?_, fun c c0 c6 hd => ?_⟩
    ·have hd' : (FX s.2).at c = false := by rw [← hD]; exact hd
     show ((B9 s.1 b f n).w.AN.at c).BH = (X.AN.at c).BH - (EB (s.2 ++ [x])).at c ∧ _
     rw [hH]
     by_cases hne : c = f
     ·subst hne
      rw [hHf, hwf]
      refine ⟨?_, hfe.2.1, hfe.2.2⟩
      show max 0 ((s.1.AN.at c).BH - n) = _
      have := hfe.1
      omega
     ·rw [hHc c c0 hne, hwc c c0 hne]
      exact h.un c c0 c6 hd'
    ·have hd' : (FX s.2).at c = true := by rw [← hD]; exact hd
     have hne : c ≠ f := fun e => by rw [e, hnd] at hd'; cases hd'
     show (X.AN.at c).BH ≤ (EB (s.2 ++ [x])).at c ∧ _
     rw [hH, hHc c c0 hne]
     obtain ⟨q1, q2, q3, q4⟩ := h.di c c0 c6 hd'
     refine ⟨q1, by rw [hwc c c0 hne]; exact q2, by rw [hwc c c0 hne]; exact q3, fun a a0 a6 => by rw [hwa a a0]; exact q4 a a0 a6⟩
theorem PY {X : AG} {draw : Int} (hg : X.BZ = true) (hw : X.DE) : ∀ k : Nat, k ≤ 6 → S0 X (DR X draw k) ∧ (DR X draw k).1.BZ = true ∧ (DR X draw k).1.DE ∧ (DR X draw k).2.length ≤ 13 * k
 | 0, _ => ⟨.start X, hg, hw, Nat.le_refl _⟩
 | k + 1, hk => by
  obtain ⟨h1, h2, h3, h4⟩ := PY hg hw k (by omega)
  obtain ⟨g1, g2, g3⟩ := FR (draw := draw) (b := (k : Int)) h2 h3 (by omega) (by omega)
  exact ⟨h1.next h2 h3 (by omega) (by omega), g1, g2, by show (EH draw k (DR X draw k)).2.length ≤ _; omega⟩
theorem WR {X : AG} {draw : Int} (hw : X.DE) (h : (CS X draw).2.2 = 0) : S0 X ((CS X draw).1, (CS X draw).2.1) ∧ (CS X draw).1.BZ = true ∧ (CS X draw).2.1.length ≤ 78 := by
 unfold CS at h ⊢
 split at h
 ·cases h
 ·rename_i h1
  rw [if_neg h1]
  obtain ⟨q1, q2, _, q4⟩ := PY (draw := draw) (by simpa using h1) hw 6 (Nat.le_refl _)
  generalize DR X draw 6 = S at *
  exact ⟨q1, q2, Nat.le_trans q4 (by decide)⟩
end AE
end Go.Ing
/- The document's side of what beings do: plain functions and laws. -/
namespace Go.Ing
open Go
namespace AE
/-! #### names of players -/
def low (c : UInt8) : Bool := decide ((c.toNat : Int) < 97) || decide (122 < (c.toNat : Int))
def Hf (s : Ap) (k : Nat) : Bool := (s.drop k).all fun c => !low c
theorem U9 {s : Ap} {k : Int} (h0 : 0 ≤ k) (h1 : k < s.length) : Hf s k.toNat = (!low (s.getD k.toNat 0) && Hf s (k + 1).toNat) := by
 have hk : k.toNat < s.length := by omega
 unfold Hf
 rw [List.drop_eq_getElem_cons hk, show (k + 1).toNat = k.toNat + 1 by omega, List.getD_eq_getElem?_getD, List.getElem?_eq_getElem hk]
 rfl
theorem WV (s : Ap) : Hf s (s.length : Int).toNat = true := by
 unfold Hf
 rw [show (s.length : Int).toNat = s.length by omega, List.drop_length]; rfl
def Xe : Ap := [115, 111, 109, 101, 111, 110, 101]
def cN : Ap := [121, 111, 117]
def FE (s : Ap) : Bool := Hf s 0 && (decide (1 ≤ (s.length : Int)) && decide ((s.length : Int) ≤ 8) && !decide (s = Xe) && !decide (s = cN))
/-! #### who enters -/
def Ig (X : AG) (s : Ap) (k : Int) : Bool := (X.AN.at k).here && decide ((X.AN.at k).name = s)
def CI (X : AG) : Nat → Int
 | 0 => -1
 | n + 1 => if (!(X.AN.at ((5 - n : Nat) : Int)).here && decide (2 ≤ ((5 - n : Nat) : Int))) = true then ((5 - n : Nat) : Int) else CI X n
theorem Nv {X : AG} {k : Int} (h0 : 0 ≤ k) (h5 : k ≤ 5) : CI X (5 - (k - 1)).toNat = if (!(X.AN.at k).here && decide (2 ≤ k)) = true then k else CI X (5 - k).toNat := by
 have e : (5 - (k - 1)).toNat = (5 - k).toNat + 1 := by omega
 rw [e, CI, show ((5 - (5 - k).toNat : Nat) : Int) = k by omega]
theorem Wt {X : AG} {k : Int} (h2 : 2 ≤ k) (h5 : k ≤ 5) (h : (!(X.AN.at k).here) = false) : CI X (5 - (k - 1)).toNat = CI X (5 - k).toNat := by
 rw [Nv (by omega) h5, h]; rfl
theorem VF {X : AG} {k : Int} (h2 : 2 ≤ k) (h5 : k ≤ 5) (h : (!(X.AN.at k).here) = true) : CI X (5 - (k - 1)).toNat = k := by
 rw [Nv (by omega) h5, h, decide_eq_true h2]; rfl
theorem Vb (X : AG) : CI X 6 = CI X 4 := by
 have h1 : CI X 6 = CI X 5 := by
  rw [CI, if_neg (by simp)]
 have h2 : CI X 5 = CI X 4 := by
  rw [CI, if_neg (by simp)]
 rw [h1, h2]
theorem MZ (X : AG) : ∀ n : Nat, n ≤ 6 → CI X n = -1 ∨ (2 ≤ CI X n ∧ CI X n ≤ 5)
 | 0, _ => .inl rfl
 | n + 1, h => by
  unfold CI
  split
  ·rename_i c
   rw [Bool.and_eq_true] at c
   have := of_decide_eq_true c.2
   exact .inr ⟨this, by omega⟩
  ·exact MZ X n (by omega)
def JW (s : Ap) : Ak := { (default : Ak) with name := s, here := true, BH := 10 }
def ID (X : AG) (s : Ap) (b : Int) : AE := ((⟨X.Cz b (JW s), b, []⟩ : AE).kind 17).look
def BW (X : AG) (s : Ap) : AG × Int × List Event × Int :=
 if (!X.BZ) = true then (X, 0, [], 2)
 else if (!FE s) = true then (X, 0, [], 1)
 else if (!B5 6 (fun k => !Ig X s k) 6) = true then (X, 0, [], 1)
 else if decide (CI X 6 < 0) = true then (X, 0, [], 4)
 else ((ID X s (CI X 6)).w, CI X 6, (ID X s (CI X 6)).out, 0)
theorem P1 (X : AG) (s : Ap) : (BW X s).2.2.1.length ≤ 10 := by
 unfold BW
 split
 ·exact Nat.zero_le _
 ·split
  ·exact Nat.zero_le _
  ·split
   ·exact Nat.zero_le _
   ·split
    ·exact Nat.zero_le _
    ·exact (JQ _).2.2
theorem Pm {X : AG} {s : Ap} {b : Int} (hg : X.BZ = true) (hw : X.DE) (hs : s.length ≤ 140737488351232) (h0 : 0 ≤ b) (h6 : b < 6) : Fit ⟨X.Cz b (JW s), b, []⟩ :=
 ⟨⟨h0, h6⟩, Eg hw hs, Jp hg h0 h6 ⟨⟨Int.le_refl _, show (0 : Int) < 6 by decide⟩, ⟨show (0 : Int) ≤ 10 by decide, show (10 : Int) ≤ 10 by decide⟩, ⟨Int.le_refl _, show (0 : Int) ≤ 6 by decide⟩, fun _ => rfl, rfl⟩ fun _ => rfl, by
  show ((X.Cz b (JW s)).AN.at b).here = true
  rw [AG.EC h0 h6]; rfl⟩
end AE
end Go.Ing
/- A round, as the document says it: plain laws. -/
namespace Go.Ing
open Go
theorem Ts {α : Type} [Inhabited α] {n : Nat} {v u : Vector α n} (h : ∀ i : Int, 0 ≤ i → i < n → v.at i = u.at i) : v = u := by
 apply Vector.ext
 intro i hi
 have := h (i : Int) (by omega) (by omega)
 unfold Vector.at at this
 rw [List.getD_eq_getElem?_getD, List.getD_eq_getElem?_getD] at this
 simpa [hi] using this
namespace AE
def pre (o : List Event) (T : AE) : AE := ⟨T.w, T.b, o ++ T.out⟩
theorem Qu (T : AE) {i : Int} (h0 : 0 ≤ i) (h9 : i < 9) (c : decide ((((T.w.AL.put i { T.w.AL.at i with CJ := 0 }).put i { (T.w.AL.put i { T.w.AL.at i with CJ := 0 }).at i with at_ := (T.w.AN.at T.b).room }).at i).kind = 2) = true) : ({ T.w with AL := ((T.w.AL.put i { T.w.AL.at i with CJ := 0 }).put i { (T.w.AL.put i { T.w.AL.at i with CJ := 0 }).at i with at_ := (T.w.AN.at T.b).room }).put i { ((T.w.AL.put i { T.w.AL.at i with CJ := 0 }).put i { (T.w.AL.put i { T.w.AL.at i with CJ := 0 }).at i with at_ := (T.w.AN.at T.b).room }).at i with on := false } } : AG) = (T.Et i).w := by
 rw [Vector.CB h0 h9, Vector.CB h0 h9] at c
 rw [Vector.CB h0 h9, Vector.Ed, Vector.CB h0 h9, Vector.Ed]
 unfold Et
 rw [if_pos (show decide ((T.w.AL.at i).kind = 2) = true from c)]; rfl
theorem UT (T : AE) {i : Int} (h0 : 0 ≤ i) (h9 : i < 9) (c : decide ((((T.w.AL.put i { T.w.AL.at i with CJ := 0 }).put i { (T.w.AL.put i { T.w.AL.at i with CJ := 0 }).at i with at_ := (T.w.AN.at T.b).room }).at i).kind = 2) = false) : ({ T.w with AL := (T.w.AL.put i { T.w.AL.at i with CJ := 0 }).put i { (T.w.AL.put i { T.w.AL.at i with CJ := 0 }).at i with at_ := (T.w.AN.at T.b).room } } : AG) = (T.Et i).w := by
 rw [Vector.CB h0 h9, Vector.CB h0 h9] at c
 rw [Vector.CB h0 h9, Vector.Ed]
 unfold Et
 rw [if_neg (show ¬ decide ((T.w.AL.at i).kind = 2) = true from by rw [show decide ((T.w.AL.at i).kind = 2) = false from c]; decide)]; rfl
theorem QH {X : AG} (hw : X.DE) (draw : Int) : (CS X draw).2.1.length ≤ 78 := by
 by_cases h : (CS X draw).2.2 = 0
 ·exact (WR hw h).2.2
 ·unfold CS at h ⊢
  split
  ·exact Nat.zero_le _
  ·rename_i h1
   rw [if_neg h1] at h
   exact absurd rfl h
end AE
end Go.Ing
/- What beings do, as the document says it: plain laws. -/
namespace Go.Ing
open Go
namespace AE
def skip (w : AG) (u : Ap) (i : Int) : Bool := !decide (u = []) && !decide (u = (w.AL.at i).name)
/-! #### what is taken -/
/-! #### what is set -/
/-! #### what is let go of -/
theorem Ug (T : AE) (o : Order) : (T.Cq o).1.w = T.w ∧ (T.Cq o).1.b = T.b := by
 unfold Cq
 split
 ·exact T.JU o.second
 ·split
  ·exact T.Is o.second
  ·exact ⟨rfl, rfl⟩
theorem QA (T : AE) (o : Order) : 0 ≤ (T.Cq o).2.1 ∧ (T.Cq o).2.1 < 9 := by
 unfold Cq
 split
 ·exact T.Ym o.second
 ·split
  ·have := T.Lh o.second; omega
  ·exact ⟨Int.le_refl 0, show (0 : Int) < 9 by decide⟩
theorem WN {T : AE} {o : Order} (hv : o.verb = 8 ∨ o.verb = 9 ∨ o.verb = 10) (h : (T.Cq o).2.2 = true) : M0 (T.Cq o).1 o.verb (T.Cq o).2.1 := by
 unfold M0
 rw [(T.Ug o).1]
 unfold Cq at h ⊢
 split at h
 ·rename_i h2
  rw [if_pos h2]
  obtain ⟨a0, a9, hk, _⟩ := Wa h
  have := of_decide_eq_true h2
  exact .inr (.inr ⟨by omega, by omega, a0, a9, hk⟩)
 ·rename_i h2
  rw [if_neg h2]
  split at h
  ·rename_i h3
   rw [if_pos h3]
   obtain ⟨a0, a6, _, hs⟩ := JR h
   exact .inr (.inl ⟨of_decide_eq_true h3, a0, a6, (AG.HF (AG.Kv hs).2.1).2.2⟩)
  ·rename_i h3
   rw [if_neg h3]
   refine .inl ?_
   rcases hv with e | e | e
   ·exact e
   ·exact absurd (decide_eq_true e) h2
   ·exact absurd (decide_eq_true e) h3
def Ky (T : AE) (o : Order) : List Int := BP T.w T.own o.nth o.name o.Bi
def Qq (T : AE) (o : Order) : AE := if decide (((T.Ky o).length : Int) = 0) = true then T.tell OP else T
theorem ZG {T : AE} {o : Order} (h : decide (((T.Ky o).length : Int) = 0) = true) : T.Qq o = T.tell OP := if_pos h
theorem Z2 {T : AE} {o : Order} (h : decide (((T.Ky o).length : Int) = 0) = false) : T.Qq o = T := if_neg (by rw [h]; decide)
theorem Zq (T : AE) (o : Order) : (T.Qq o).w = T.w ∧ (T.Qq o).b = T.b ∧ (T.Qq o).out.length ≤ T.out.length + 1 := by
 unfold Qq
 split
 ·exact ⟨rfl, rfl, by rw [CC]; exact Nat.le_refl _⟩
 ·exact ⟨rfl, rfl, Nat.le_succ _⟩
def Qk (T : AE) (to : Int) (o : Order) (k : Nat) : AE := (T.Qq o).Ee o.verb to ((T.Ky o).take k)
theorem Mf {v to : Int} : ∀ (l : List Int) (T : AE) (i : Int), T.Ee v to (l ++ [i]) = (T.Ee v to l).Cn v to i
 | [], _, _ => rfl
 | _ :: r, _, i => Mf r _ i
theorem YM {l : List Int} {k : Int} (h0 : 0 ≤ k) (h1 : k < l.length) : l.take (k + 1).toNat = l.take k.toNat ++ [l.getD k.toNat 0] := by
 obtain ⟨m, rfl⟩ := Int.eq_ofNat_of_zero_le h0
 have hm : m < l.length := by omega
 show l.take (m + 1) = l.take m ++ [l.getD m 0]
 rw [List.take_add_one, List.getElem?_eq_getElem hm, List.getD_eq_getElem?_getD, List.getElem?_eq_getElem hm]
 rfl
theorem IK {T : AE} {to : Int} {o : Order} {k : Int} (h0 : 0 ≤ k) (h1 : k < (T.Ky o).length) : T.Qk to o (k + 1).toNat = (T.Qk to o k.toNat).Cn o.verb to ((T.Ky o).getD k.toNat 0) := by
 unfold Qk
 rw [YM h0 h1, Mf]
theorem XV {T : AE} {to : Int} {o : Order} : T.Qk to o ((T.Ky o).length : Int).toNat = T.SJ to o := by
 unfold Qk
 rw [show ((T.Ky o).length : Int).toNat = (T.Ky o).length by omega, List.take_length]
 rfl
theorem Rm {T : AE} {o : Order} : (∀ i ∈ T.Ky o, Ia T.w T.b i) ∧ (T.Ky o).Nodup ∧ (T.Ky o).length ≤ 9 :=
 ⟨fun _ hi => (FD (Dj hi)).TY, List.Nodup.sublist (EP ..) (AG.Ps ..), Nat.le_trans (EP ..).length_le (AE.KI T)⟩
theorem NQ (v to : Int) : ∀ (l : List Int) (T : AE), (T.Ee v to l).out.length ≤ T.out.length + l.length ∧ (T.Ee v to l).b = T.b
 | [], _ => ⟨Nat.le_refl _, rfl⟩
 | i :: r, T => by
  obtain ⟨h1, h2⟩ := NQ v to r (T.Cn v to i)
  have h3 := T.Ni v to i
  rw [Ee, List.length_cons]
  exact ⟨by omega, h2.trans (T.XL v to i)⟩
theorem V9 (T : AE) (to : Int) (o : Order) (k : Nat) : (T.Qk to o k).out.length ≤ T.out.length + 10 ∧ (T.Qk to o k).b = T.b := by
 have hs := T.Zq o
 obtain ⟨h1, h2⟩ := NQ o.verb to ((T.Ky o).take k) (T.Qq o)
 have h3 := (Rm (T := T) (o := o)).2.2
 have h4 : ((T.Ky o).take k).length ≤ (T.Ky o).length := (List.take_sublist ..).length_le
 unfold Qk
 exact ⟨by omega, h2.trans hs.2.1⟩
theorem M0.dk {T : AE} {v to : Int} (h : M0 T v to) (hv : v = 10) : to < 6 := by
 rcases h with h | ⟨_, _, h, _⟩ | ⟨_, h, _⟩ <;> omega
theorem Up {T X : AE} {o : Order} {p : Bool} (hX : X = (T.Cq o).1) (hp : p = (T.Cq o).2.2) (h : (!p) = true) : T.E3 o = X := by
 rw [hp] at h
 rw [hX]
 exact if_pos h
theorem TU {T X : AE} {o : Order} {to : Int} {p : Bool} (hX : X = (T.Cq o).1) (ht : to = (T.Cq o).2.1) (hp : p = (T.Cq o).2.2) (h : (!p) = false) : T.E3 o = X.SJ to o ∧ 0 ≤ to ∧ to < 9 ∧ (o.verb = 8 ∨ o.verb = 9 ∨ o.verb = 10 → M0 X o.verb to) := by
 rw [hp] at h
 have h2 : (T.Cq o).2.2 = true := by simpa using h
 rw [hX, ht]
 exact ⟨if_neg (by rw [h]; decide), (T.QA o).1, (T.QA o).2, fun hv => WN hv h2⟩
/-! #### what a being does -/
theorem Gq {T : AE} {o : Order} (h : o.verb < 6) : T.act o = T.walk o.verb := by
 unfold act; rw [if_pos (decide_eq_true h)]
theorem NI (X : AG) (b : Int) (o : Order) : (D7 X b o).2.1.length ≤ 11 := by
 unfold D7
 split
 ·exact Nat.zero_le _
 ·split
  ·exact Nat.zero_le _
  ·split
   ·exact Nat.zero_le _
   ·have := UF (⟨X, b, []⟩ : AE) o
    exact Nat.le_trans this (Nat.le_refl 11)
end AE
end Go.Ing
/- Engine: the same rules, said shorter. -/
namespace Go.Ing
open Go
section
variable {F : List (Nat × Value)} {v0 v1 v2 v3 v4 v5 v6 v7 v8 v9 v10 v11 : Value}
theorem Sub.t1 (k0 : Nat) (h0 : lk k0 F = some v0 := by rfl) : Sub F [(k0, v0)] := .cons h0 (.nil _)
theorem Sub.t2 (k0 k1 : Nat) (h0 : lk k0 F = some v0 := by rfl) (h1 : lk k1 F = some v1 := by rfl) : Sub F [(k0, v0), (k1, v1)] := .cons h0 (.cons h1 (.nil _))
theorem Sub.t3 (k0 k1 k2 : Nat) (h0 : lk k0 F = some v0 := by rfl) (h1 : lk k1 F = some v1 := by rfl) (h2 : lk k2 F = some v2 := by rfl) : Sub F [(k0, v0), (k1, v1), (k2, v2)] := .cons h0 (.cons h1 (.cons h2 (.nil _)))
theorem Sub.t4 (k0 k1 k2 k3 : Nat) (h0 : lk k0 F = some v0 := by rfl) (h1 : lk k1 F = some v1 := by rfl) (h2 : lk k2 F = some v2 := by rfl) (h3 : lk k3 F = some v3 := by rfl) : Sub F [(k0, v0), (k1, v1), (k2, v2), (k3, v3)] := .cons h0 (.cons h1 (.cons h2 (.cons h3 (.nil _))))
theorem Sub.t5 (k0 k1 k2 k3 k4 : Nat) (h0 : lk k0 F = some v0 := by rfl) (h1 : lk k1 F = some v1 := by rfl) (h2 : lk k2 F = some v2 := by rfl) (h3 : lk k3 F = some v3 := by rfl) (h4 : lk k4 F = some v4 := by rfl) : Sub F [(k0, v0), (k1, v1), (k2, v2), (k3, v3), (k4, v4)] := .cons h0 (.cons h1 (.cons h2 (.cons h3 (.cons h4 (.nil _)))))
theorem Sub.t6 (k0 k1 k2 k3 k4 k5 : Nat) (h0 : lk k0 F = some v0 := by rfl) (h1 : lk k1 F = some v1 := by rfl) (h2 : lk k2 F = some v2 := by rfl) (h3 : lk k3 F = some v3 := by rfl) (h4 : lk k4 F = some v4 := by rfl) (h5 : lk k5 F = some v5 := by rfl) : Sub F [(k0, v0), (k1, v1), (k2, v2), (k3, v3), (k4, v4), (k5, v5)] := .cons h0 (.cons h1 (.cons h2 (.cons h3 (.cons h4 (.cons h5 (.nil _))))))
theorem Sub.t7 (k0 k1 k2 k3 k4 k5 k6 : Nat) (h0 : lk k0 F = some v0 := by rfl) (h1 : lk k1 F = some v1 := by rfl) (h2 : lk k2 F = some v2 := by rfl) (h3 : lk k3 F = some v3 := by rfl) (h4 : lk k4 F = some v4 := by rfl) (h5 : lk k5 F = some v5 := by rfl) (h6 : lk k6 F = some v6 := by rfl) : Sub F [(k0, v0), (k1, v1), (k2, v2), (k3, v3), (k4, v4), (k5, v5), (k6, v6)] := .cons h0 (.cons h1 (.cons h2 (.cons h3 (.cons h4 (.cons h5 (.cons h6 (.nil _)))))))
theorem Sub.t8 (k0 k1 k2 k3 k4 k5 k6 k7 : Nat) (h0 : lk k0 F = some v0 := by rfl) (h1 : lk k1 F = some v1 := by rfl) (h2 : lk k2 F = some v2 := by rfl) (h3 : lk k3 F = some v3 := by rfl) (h4 : lk k4 F = some v4 := by rfl) (h5 : lk k5 F = some v5 := by rfl) (h6 : lk k6 F = some v6 := by rfl) (h7 : lk k7 F = some v7 := by rfl) : Sub F [(k0, v0), (k1, v1), (k2, v2), (k3, v3), (k4, v4), (k5, v5), (k6, v6), (k7, v7)] := .cons h0 (.cons h1 (.cons h2 (.cons h3 (.cons h4 (.cons h5 (.cons h6 (.cons h7 (.nil _))))))))
theorem Sub.t9 (k0 k1 k2 k3 k4 k5 k6 k7 k8 : Nat) (h0 : lk k0 F = some v0 := by rfl) (h1 : lk k1 F = some v1 := by rfl) (h2 : lk k2 F = some v2 := by rfl) (h3 : lk k3 F = some v3 := by rfl) (h4 : lk k4 F = some v4 := by rfl) (h5 : lk k5 F = some v5 := by rfl) (h6 : lk k6 F = some v6 := by rfl) (h7 : lk k7 F = some v7 := by rfl) (h8 : lk k8 F = some v8 := by rfl) : Sub F [(k0, v0), (k1, v1), (k2, v2), (k3, v3), (k4, v4), (k5, v5), (k6, v6), (k7, v7), (k8, v8)] := .cons h0 (.cons h1 (.cons h2 (.cons h3 (.cons h4 (.cons h5 (.cons h6 (.cons h7 (.cons h8 (.nil _)))))))))
theorem Sub.t10 (k0 k1 k2 k3 k4 k5 k6 k7 k8 k9 : Nat) (h0 : lk k0 F = some v0 := by rfl) (h1 : lk k1 F = some v1 := by rfl) (h2 : lk k2 F = some v2 := by rfl) (h3 : lk k3 F = some v3 := by rfl) (h4 : lk k4 F = some v4 := by rfl) (h5 : lk k5 F = some v5 := by rfl) (h6 : lk k6 F = some v6 := by rfl) (h7 : lk k7 F = some v7 := by rfl) (h8 : lk k8 F = some v8 := by rfl) (h9 : lk k9 F = some v9 := by rfl) : Sub F [(k0, v0), (k1, v1), (k2, v2), (k3, v3), (k4, v4), (k5, v5), (k6, v6), (k7, v7), (k8, v8), (k9, v9)] := .cons h0 (.cons h1 (.cons h2 (.cons h3 (.cons h4 (.cons h5 (.cons h6 (.cons h7 (.cons h8 (.cons h9 (.nil _))))))))))
theorem Sub.t11 (k0 k1 k2 k3 k4 k5 k6 k7 k8 k9 k10 : Nat) (h0 : lk k0 F = some v0 := by rfl) (h1 : lk k1 F = some v1 := by rfl) (h2 : lk k2 F = some v2 := by rfl) (h3 : lk k3 F = some v3 := by rfl) (h4 : lk k4 F = some v4 := by rfl) (h5 : lk k5 F = some v5 := by rfl) (h6 : lk k6 F = some v6 := by rfl) (h7 : lk k7 F = some v7 := by rfl) (h8 : lk k8 F = some v8 := by rfl) (h9 : lk k9 F = some v9 := by rfl) (h10 : lk k10 F = some v10 := by rfl) : Sub F [(k0, v0), (k1, v1), (k2, v2), (k3, v3), (k4, v4), (k5, v5), (k6, v6), (k7, v7), (k8, v8), (k9, v9), (k10, v10)] := .cons h0 (.cons h1 (.cons h2 (.cons h3 (.cons h4 (.cons h5 (.cons h6 (.cons h7 (.cons h8 (.cons h9 (.cons h10 (.nil _)))))))))))
end
section
variable {P : Program} {n : Nat} {w0 : World} {M : List Nat} {Q : Exit → Go.Act → World → Prop} {F F' : List (Nat × Value)} {L L' A K : List Ad} {ops : Array Oper} {rest l : List Oper} {d id : Nat} {op : Op} {T : TypeId} {pos : String} {Co : Array Edge} {v v' : Value} {x y : Code}
theorem Gs (h : GL P n w0 M l.toArray (Exit.then (y.wp P Q) Q) l F L) : G P n w0 M (.seq (.region id l.toArray false) y) Q F L := Ao (AJ h)
theorem CD {z : Code} (h : GL P n w0 M l.toArray (Exit.then (y.wp P (Exit.then (z.wp P Q) Q)) (Exit.then (z.wp P Q) Q)) l F L) : G P n w0 M (.seq (.seq (.region id l.toArray false) y) z) Q F L := Ao (Ao (AJ h))
theorem Gn (hs : Sub F F') (h : G P n w0 M y Q F' L) : GL P n w0 M ops (Exit.then (y.wp P Q) Q) [] F L := AQ (AB hs (AA h))
theorem Gt (h : PS P n w0 M op T F L v L') (k : GL P n w0 M ops Q rest ((d, v) :: F) L') (hd : Nat.blt d n = true := by rfl) : GL P n w0 M ops Q (⟨some d, op, T, pos, Co, none⟩ :: rest) F L := J3 hd h k
theorem Gm {x : Operand} (h : ev F x = some v) (k : GL P n w0 M ops Q rest ((d, v) :: F) L) (hd : Nat.blt d n = true := by rfl) : GL P n w0 M ops Q (⟨some d, .move x, T, pos, Co, none⟩ :: rest) F L := J3 hd (AF h) k
theorem Ga {x : Operand} (h : ev F x = some v) (k : GL P n w0 M ops Q rest ((d, v) :: F) L) (hd : Nat.blt d n = true := by rfl) : GL P n w0 M ops Q (⟨some d, .assign x, T, pos, Co, none⟩ :: rest) F L := J3 hd (A0 h) k
theorem Bm {j : Nat} {z : Bool} (t : Nat) (hj : (ops[j]?).bind (·.dst) = some t) (hb : lk t F = some (.bool z)) (h : z = true → PS P n w0 M op T F L v L) (k : GL P n w0 M ops Q rest ((d, cv z v) :: F) L) (hd : Nat.blt d n = true := by rfl) : GL P n w0 M ops Q (⟨some d, op, T, pos, Co, some (j, true)⟩ :: rest) F L := ZF hj hb hd h k
theorem Bc {j : Nat} {z : Bool} (t : Nat) (hj : (ops[j]?).bind (·.dst) = some t) (hb : lk t F = some (.bool z)) (h : z = false → PS P n w0 M op T F L v L) (k : GL P n w0 M ops Q rest ((d, cv (!z) v) :: F) L) (hd : Nat.blt d n = true := by rfl) : GL P n w0 M ops Q (⟨some d, op, T, pos, Co, some (j, false)⟩ :: rest) F L := Yy hj hb hd h k
theorem Gc {c : Operand} {b : Bool} (ht : b = true → G P n w0 M x Q F L) (hf : b = false → G P n w0 M y Q F L) (hc : ev F c = some (.bool b) := by rfl) : G P n w0 M (.cond c x y) Q F L := Nh hc ht hf
end
section
variable {P : Program} {n : Nat} {w0 : World} {M : List Nat} {Q : Exit → Go.Act → World → Prop} {l : List Oper} {Rs : List Nat} {F : List (Nat × Value)}
variable {k i j d : Nat} {V A : List Nat} {D : List (Nat × (Nat × Value))} {L : List Ad} {op : Op} {T : TypeId} {pos : String} {Co : Array Edge} {v v' : Value}
theorem Pf (i : Nat) (ho : l[i]? = some ⟨some d, op, T, pos, Co, none⟩) (h : PS P n w0 M op T (Em D Co.toList ++ F) L v L) (k' : Ir P n w0 M Q l Rs F k (i :: V) (i :: A) ((i, (d, v)) :: D) L) (hc : XH l V i Co.toList = true := by kernel_rfl) (hlk : TM F d v := by first | exact .inl rfl | exact .inr rfl) : Ir P n w0 M Q l Rs F (k + 1) V A D L :=
 BQ i ho rfl hc (L1 (G3 h)) k' hlk
theorem Gd {j : Nat} {y : Bool} (i t : Nat) (ho : l[i]? = some ⟨some d, op, T, pos, Co, some (j, false)⟩) (hj : (l.toArray[j]?).bind (·.dst) = some t) (hb : lk t (Em D Co.toList ++ F) = some (.bool y)) (h : y = false → PS P n w0 M op T (Em D Co.toList ++ F) L v L) (k' : Ir P n w0 M Q l Rs F k (i :: V) (i :: A) ((i, (d, cv (!y) v)) :: D) L) (hc : XH l V i Co.toList = true := by kernel_rfl) (hlk : TM F d (cv (!y) v) := by first | exact .inl rfl | exact .inr rfl) : Ir P n w0 M Q l Rs F (k + 1) V A D L :=
 BQ i ho rfl hc (FO (t := t) hj hb (fun q => G3 (h q))) k' hlk
theorem MT {j : Nat} {y : Bool} (i t : Nat) (ho : l[i]? = some ⟨some d, op, T, pos, Co, some (j, true)⟩) (hj : (l.toArray[j]?).bind (·.dst) = some t) (hb : lk t (Em D Co.toList ++ F) = some (.bool y)) (h : y = true → PS P n w0 M op T (Em D Co.toList ++ F) L v L) (k' : Ir P n w0 M Q l Rs F k (i :: V) (i :: A) ((i, (d, cv y v)) :: D) L) (hc : XH l V i Co.toList = true := by kernel_rfl) (hlk : TM F d (cv y v) := by first | exact .inl rfl | exact .inr rfl) : Ir P n w0 M Q l Rs F (k + 1) V A D L :=
 BQ i ho rfl hc (SB (t := t) hj hb (fun q => G3 (h q))) k' hlk
theorem Pk (h : JI P n w0 M Q l Rs F i D L A) (hr : reaches Rs i j = true := by kernel_rfl) : JI P n w0 M Q l Rs F i D L (j :: A) := Vt hr h
theorem Po (ho : l[j]? = some ⟨some d, op, T, pos, Co, none⟩) (h : PS P n w0 M op T (Em D Co.toList ++ F) L v' L) (hl : Mz j D = some (d, v)) (e : v' = v) (k' : JI P n w0 M Q l Rs F i D L A) : JI P n w0 M Q l Rs F i D L (j :: A) := Xo ho (L1 (G3 h)) hl e k'
end
section
variable {P : Program} {n : Nat} {w0 : World} {M : List Nat} {F : List (Nat × Value)} {L : List Ad}
theorem cF {x : Operand} {c : Bool} {v : Value} (h : ev F x = some (cv (!c) v)) (q : c = false) : ev F x = some v := Bh h (by rw [q]; rfl)
theorem Ah {T U f off b o : Nat} {x : Operand} (hf : FA P T f off) (hx : ev F x = some (.pointer (some ⟨b, o, none⟩))) : PS P n w0 M (.fieldAddr T x f) U F L (.pointer (some ⟨b, o + off, none⟩)) L := Qd hf hx
theorem BV {T : TypeId} {x : Operand} {p : Addr} (hx : ev F x = some (.pointer (some p))) : PS P n w0 M (.nilCheck x) T F L (.pointer (some p)) L := RU hx
end
theorem AU.ar {α : Type} {n : Nat} [Inhabited α] {e : α → List Value} {sz : Nat} (fe : Flat e sz) {i : Int} (h : 0 ≤ i ∧ i < (n : Int)) : AU (CE (n := n) e) e (i.toNat * sz) sz (fun v => v.at i) (fun v y => v.put i y) := AU.arr fe h.1 h.2
class Nz (a : Prop) (b : outParam Prop) : Prop where
 h : a → b
theorem kz {a b : Prop} [i : Nz a b] (h : a) : b := i.h h
section
variable {p : Prop} [Decidable p] {a b : Bool} {x y : Prop} {m n : Int}
instance (priority := low) : Nz p p := ⟨id⟩
instance : Nz (decide p = true) p := ⟨of_decide_eq_true⟩
instance (priority := low) : Nz (decide p = false) (¬ p) := ⟨of_decide_eq_false⟩
instance : Nz (decide (m < n) = false) (n ≤ m) := ⟨fun h => Int.not_lt.1 (of_decide_eq_false h)⟩
instance : Nz (decide (m ≤ n) = false) (n < m) := ⟨fun h => Int.not_le.1 (of_decide_eq_false h)⟩
instance [i : Nz (a = false) x] : Nz ((!a) = true) x := ⟨fun h => i.h (by simpa using h)⟩
instance [i : Nz (a = true) x] : Nz ((!a) = false) x := ⟨fun h => i.h (by simpa using h)⟩
instance [i : Nz (a = true) x] [j : Nz (b = true) y] : Nz ((a && b) = true) (x ∧ y) := ⟨fun h => ⟨i.h (de ▸ h).1, j.h (de ▸ h).2⟩⟩
instance [i : Nz (a = false) x] [j : Nz (b = false) y] : Nz ((a || b) = false) (x ∧ y) := ⟨fun h => ⟨i.h (dW ▸ h).1, j.h (dW ▸ h).2⟩⟩
instance [i : Nz (a = true) x] [j : Nz (b = true) y] : Nz ((a || b) = true) (x ∨ y) := ⟨fun h => (dj ▸ h : a = true ∨ b = true).imp i.h j.h⟩
instance [i : Nz (a = false) x] [j : Nz (b = false) y] : Nz ((a && b) = false) (x ∨ y) := ⟨fun h => (dr ▸ h : a = false ∨ b = false).imp i.h j.h⟩
end
section
variable {F : List (Nat × Value)} {P : Program} {L L' K rs : List Ad} {r r' s : Ad} {x : Operand} {v : Value} {xs : List Operand} {vs : List Value}
theorem Kz.h : Kz (r :: L) r r' (r' :: L) := .head
theorem Kz.t (h : Kz L r r' L') : Kz (s :: L) r r' (s :: L') := .tail h
theorem LN.h : LN (r :: L) r L := .head
theorem LN.t (h : LN L r L') : LN (s :: L) r (s :: L') := .tail h
theorem As.n : As L [] L := .nil
theorem As.c (h : LN L r L') (hs : As L' rs K) : As L (r :: rs) K := .cons h hs
theorem OW.n : OW F [] [] := .nil
theorem OW.c (h : ev F x = some v) (hs : OW F xs vs) : OW F (x :: xs) (v :: vs) := .cons h hs
theorem Rs.n : Rs P F L [] [] := .nil
end
section
variable {α : Type} {a b c d e f g h i j : α} {l : List α}
theorem _root_.List.Mem.m0 : List.Mem a (a :: l) := .head _
theorem _root_.List.Mem.m1 : List.Mem a (b :: a :: l) := .tail _ .m0
theorem _root_.List.Mem.m2 : List.Mem a (b :: c :: a :: l) := .tail _ .m1
theorem _root_.List.Mem.m3 : List.Mem a (b :: c :: d :: a :: l) := .tail _ .m2
theorem _root_.List.Mem.m4 : List.Mem a (b :: c :: d :: e :: a :: l) := .tail _ .m3
theorem _root_.List.Mem.m5 : List.Mem a (b :: c :: d :: e :: f :: a :: l) := .tail _ .m4
theorem _root_.List.Mem.m6 : List.Mem a (b :: c :: d :: e :: f :: g :: a :: l) := .tail _ .m5
theorem _root_.List.Mem.m7 : List.Mem a (b :: c :: d :: e :: f :: g :: h :: a :: l) := .tail _ .m6
end
end Go.Ing
/- A house's data, in Lean, and their parts. -/
namespace Go.Ing
open Go
structure A2 where
 state : Int
 Ay : Int
 Ds : AP
 EW : BN
 out : Aw
 told : Hd
instance : Inhabited A2 := ⟨⟨0, 0, default, ⟨[], false, false, ⟨none, 0, 0⟩⟩, ⟨⟨none, 0, 0⟩, 0, false, [], false⟩, ⟨none, 0, 0⟩⟩⟩
def A2.enc (x : A2) : List Value := Av x.state ++ Av x.Ay ++ AP.enc x.Ds ++ BN.enc x.EW ++ Aw.enc x.out ++ Ea x.told
theorem A2.fl : Flat A2.enc 22 := ⟨fun x => by simp [A2.enc, BN.fl.len, Aw.fl.len, AP.fl.len, PB.len, B1.len], fun x v hv => by
 simp only [A2.enc, List.mem_append] at hv
 rcases hv with ((((h | h) | h) | h) | h) | h
 ·exact B1.one _ v h
 ·exact B1.one _ v h
 ·exact AP.fl.one _ v h
 ·exact BN.fl.one _ v h
 ·exact Aw.fl.one _ v h
 ·exact PB.one _ v h⟩
theorem A2.l0 : AU A2.enc (Av) 0 1 (fun x => x.state) (fun x y => { x with state := y }) :=
 AU.Eb B1 (fun _ => []) (fun x => Av x.Ay ++ AP.enc x.Ds ++ BN.enc x.EW ++ Aw.enc x.out ++ Ea x.told) (fun _ => rfl) (fun x => by simp [A2.enc]) (fun x y => by simp [A2.enc])
theorem A2.l1 : AU A2.enc (Av) 1 1 (fun x => x.Ay) (fun x y => { x with Ay := y }) :=
 AU.Eb B1 (fun x => Av x.state) (fun x => AP.enc x.Ds ++ BN.enc x.EW ++ Aw.enc x.out ++ Ea x.told) (fun x => by simp [B1.len]) (fun x => by simp [A2.enc]) (fun x y => by simp [A2.enc])
theorem A2.l2 : AU A2.enc (AP.enc) 2 10 (fun x => x.Ds) (fun x y => { x with Ds := y }) :=
 AU.Eb AP.fl (fun x => Av x.state ++ Av x.Ay) (fun x => BN.enc x.EW ++ Aw.enc x.out ++ Ea x.told) (fun x => by simp [B1.len]) (fun x => by simp [A2.enc]) (fun x y => by simp [A2.enc])
theorem A2.l3 : AU A2.enc (BN.enc) 12 4 (fun x => x.EW) (fun x y => { x with EW := y }) :=
 AU.Eb BN.fl (fun x => Av x.state ++ Av x.Ay ++ AP.enc x.Ds) (fun x => Aw.enc x.out ++ Ea x.told) (fun x => by simp [AP.fl.len, B1.len]) (fun x => by simp [A2.enc]) (fun x y => by simp [A2.enc])
theorem A2.l4 : AU A2.enc (Aw.enc) 16 5 (fun x => x.out) (fun x y => { x with out := y }) :=
 AU.Eb Aw.fl (fun x => Av x.state ++ Av x.Ay ++ AP.enc x.Ds ++ BN.enc x.EW) (fun x => Ea x.told) (fun x => by simp [BN.fl.len, AP.fl.len, B1.len]) (fun x => by simp [A2.enc]) (fun x y => by simp [A2.enc])
theorem A2.l5 : AU A2.enc (Ea) 21 1 (fun x => x.told) (fun x y => { x with told := y }) :=
 AU.Eb PB (fun x => Av x.state ++ Av x.Ay ++ AP.enc x.Ds ++ BN.enc x.EW ++ Aw.enc x.out) (fun _ => []) (fun x => by simp [BN.fl.len, Aw.fl.len, AP.fl.len, B1.len]) (fun x => by simp [A2.enc]) (fun x y => by simp [A2.enc])
structure AO where
 w : AG
 Az : Sc A2 4
 B8 : Int
 last : Hd
def AO.enc (x : AO) : List Value := AG.enc x.w ++ CE A2.enc x.Az ++ Av x.B8 ++ Ea x.last
theorem AO.fl : Flat AO.enc 255 := ⟨fun x => by simp [AO.enc, (Jy A2.fl).len, AG.fl.len, PB.len, B1.len], fun x v hv => by
 simp only [AO.enc, List.mem_append] at hv
 rcases hv with ((h | h) | h) | h
 ·exact AG.fl.one _ v h
 ·exact (Jy A2.fl).one _ v h
 ·exact B1.one _ v h
 ·exact PB.one _ v h⟩
theorem AO.l0 : AU AO.enc (AG.enc) 0 165 (fun x => x.w) (fun x y => { x with w := y }) :=
 AU.Eb AG.fl (fun _ => []) (fun x => CE A2.enc x.Az ++ Av x.B8 ++ Ea x.last) (fun _ => rfl) (fun x => by simp [AO.enc]) (fun x y => by simp [AO.enc])
theorem AO.l1 : AU AO.enc (CE A2.enc) 165 88 (fun x => x.Az) (fun x y => { x with Az := y }) :=
 AU.Eb (Jy A2.fl) (fun x => AG.enc x.w) (fun x => Av x.B8 ++ Ea x.last) (fun x => by simp [AG.fl.len]) (fun x => by simp [AO.enc]) (fun x y => by simp [AO.enc])
theorem AO.l2 : AU AO.enc (Av) 253 1 (fun x => x.B8) (fun x y => { x with B8 := y }) :=
 AU.Eb B1 (fun x => AG.enc x.w ++ CE A2.enc x.Az) (fun x => Ea x.last) (fun x => by simp [(Jy A2.fl).len, AG.fl.len]) (fun x => by simp [AO.enc]) (fun x y => by simp [AO.enc])
theorem AO.l3 : AU AO.enc (Ea) 254 1 (fun x => x.last) (fun x y => { x with last := y }) :=
 AU.Eb PB (fun x => AG.enc x.w ++ CE A2.enc x.Az ++ Av x.B8) (fun _ => []) (fun x => by simp [(Jy A2.fl).len, AG.fl.len, B1.len]) (fun x => by simp [AO.enc]) (fun x y => by simp [AO.enc])
end Go.Ing
/- What a house does: plain functions. -/
namespace Go.Ing
open Go
structure Ax where
 state : Int
 Ay : Int
 Ds : AP
 now : Ap
 Cs : Bool
 ret : Bool
 queue : List Ap
 pg : Page.Pg
 wait : List Ap
 told : List Ap
instance : Inhabited Ax := ⟨⟨0, 0, default, [], false, false, [], ⟨0, false, [], false⟩, [], []⟩⟩
structure AI where
 w : AG
 Az : Vector Ax 4
 B8 : Int
 last : List Event
namespace Ax
def LP (s : Ax) : Bool := decide ((s.wait.length : Int) ≤ 60) && decide ((s.pg.ring.length : Int) ≤ 700) && decide (0 ≤ s.pg.shown) && decide (s.pg.shown ≤ 200)
def line (s : Ax) (u : Ap) : Ax :=
 if (!s.LP) = true then s else if s.pg.cut = true then s
 else if decide (60 ≤ (s.wait.length : Int)) = true then { s with pg := { s.pg with cut := true } } else { s with wait := s.wait ++ [u] }
def note (s : Ax) (u : Ap) : Ax := if (!s.pg.cut) = true then { s with told := s.told ++ [u] } else s
def tell (s : Ax) (u : Ap) : Ax := (s.line u).note u
def send (s : Ax) (u : Ap) : Ax := if (!s.LP) = true then s else if s.pg.cut = true then s else { s with pg := Page.put s.pg u }
def Bb (s : Ax) : Ax :=
 if (!s.LP || decide (s.Ds.B0 < 0) || decide (200 < s.Ds.B0)) = true then s
 else { s with pg := (Page.Bb s.Ds.B0 s.wait s.pg).1, wait := (Page.Bb s.Ds.B0 s.wait s.pg).2 }
def Fh (s : Ax) : Ax := { s with pg := { s.pg with shown := 0, B7 := false } }
def an (s : Ax) (n : Int) : Nat := (max 0 (min n (s.pg.ring.length : Int))).toNat
def Gy (s : Ax) (n : Int) : Ax := { s with pg := { s.pg with ring := s.pg.ring.drop (s.an n) } }
def out (s : Ax) (n : Int) : Ap := s.pg.ring.take (s.an n)
def K9 (s : Ax) : Bool :=
 !(decide (60 < (s.now.length : Int)) || decide (6 < (s.queue.length : Int)) || (s.Cs && decide (60 < (s.now.length : Int))) || (s.ret && (!decide (s.now = []) || s.Cs))) && (s.queue ++ [s.now]).all Bf.F1
def typed (s : Ax) (u : Ap) : Ax × Int :=
 if (!s.K9) = true then (s, 0)
 else
  let x := Bf.feed ⟨s.now, s.Cs, s.ret, s.queue, 0⟩ u
  ({ s with now := x.now, Cs := x.Cs, ret := x.ret, queue := x.queue }, x.lost)
def bytes (s : Ax) (u : Ap) : Ax × Ap := ({ s with Ds := (s.Ds.Db u).1 }.send (s.Ds.Db u).2.2.1, (s.Ds.Db u).2.1)
def offer (s : Ax) (opt : Int) : Ax :=
 if decide ((s.Ds.DG opt).2.1 = []) = true then { s with Ds := ((s.Ds.DG opt).1.Ask opt).1 }.send ([] ++ ((s.Ds.DG opt).1.Ask opt).2.1)
 else { s with Ds := (s.Ds.DG opt).1 }.send ((s.Ds.DG opt).2.1 ++ [])
end Ax
namespace AI
def at_ (H : AI) (k : Int) : Ax := H.Az.at k
def set (H : AI) (k : Int) (s : Ax) : AI := { H with Az := H.Az.put k s }
def tell (H : AI) (k : Int) (u : Ap) : AI := H.set k ((H.at_ k).tell u)
def CV (e : Event) (H : AI) : Nat → AI
 | 0 => H
 | k + 1 => if (!decide (((CV e H k).at_ k).state = 2)) = true then CV e H k else if (AG.tell e ((CV e H k).at_ k).Ay).2 = true then (CV e H k).tell k (AG.tell e ((CV e H k).at_ k).Ay).1 else CV e H k
def HV (H : AI) (l : List Event) : AI := l.foldl (fun X e => CV e X 4) H
def Gl (H : AI) (l : List Event) : AI := { H with last := H.last ++ l }.HV l
def D8 : Order := { (default : Order) with verb := 20 }
def Te (H : AI) (k : Int) : AI := { H with w := (AE.D7 H.w (H.at_ k).Ay D8).1 }
def leave (H : AI) (k : Int) : AI :=
 (if (decide ((H.at_ k).state = 2) && (H.w.AN.at (H.at_ k).Ay).here) = true then ((H.Te k).set k default).Gl (AE.D7 H.w (H.at_ k).Ay D8).2.1 else H).set k default
def Cc (H : AI) : Nat → AI × Bool
 | 0 => (H, false)
 | k + 1 =>
  if decide (((Cc H k).1.at_ k).state = 0) = true then Cc H k
  else if (((Cc H k).1.at_ k).Bb).pg.cut = true then (((Cc H k).1.set k (((Cc H k).1.at_ k).Bb)).leave k, true)
  else ((Cc H k).1.set k (((Cc H k).1.at_ k).Bb), (Cc H k).2)
def HW (H : AI) : Nat → AI
 | 0 => H
 | n + 1 => if (!(H.Cc 4).2) = true then (H.Cc 4).1 else (H.Cc 4).1.HW n
def Bb (H : AI) : AI := H.HW 5
def Hj : Ap := [87, 104, 111, 32, 97, 114, 101, 32, 121, 111, 117, 63]
def Ox : Ap := [78, 111, 116, 32, 115, 111, 32, 102, 97, 115, 116, 46]
def Z0 : Ap := [87, 104, 97, 116, 63]
def Qj : Ap := [84, 104, 97, 116, 32, 105, 115, 32, 110, 111, 32, 110, 97, 109, 101, 46]
def noRoom : Ap := [84, 104, 101, 114, 101, 32, 105, 115, 32, 110, 111, 32, 114, 111, 111, 109, 46]
def Jw (H : AI) (k : Int) : AI := ((H.set k ((({ (default : Ax) with state := 1, Ay := -1 }).offer 3).offer 31)).tell k Hj).Bb
def named (H : AI) (k : Int) (u : Ap) : AI :=
 if decide ((AE.BW H.w u).2.2.2 = 0) = true then ({ H with w := (AE.BW H.w u).1 }.set k { H.at_ k with state := 2, Ay := (AE.BW H.w u).2.1 }).Gl (AE.BW H.w u).2.2.1
 else if decide ((AE.BW H.w u).2.2.2 = 4) = true then H.tell k noRoom
 else H.tell k Qj
def order (H : AI) (k : Int) (u : Ap) : AI :=
 if (!decide ((Words.parse u).2 = 0)) = true then H.tell k Z0
 else if decide ((Words.parse u).1.verb = 20) = true then H.leave k
 else { H with w := (AE.D7 H.w (H.at_ k).Ay (Words.parse u).1).1 }.Gl (AE.D7 H.w (H.at_ k).Ay (Words.parse u).1).2.1
def EI (H : AI) (k : Int) : AI :=
 if decide ((H.at_ k).state = 0) = true then H
 else match (H.at_ k).queue with
  | [] => H
  | q :: r =>
   let H1 := H.set k { H.at_ k with queue := r }.Fh
   if (H.at_ k).pg.B7 = true then H1
   else if decide ((H.at_ k).state = 1) = true then H1.named k (Words.P5 32 (Words.Re 32 q))
   else H1.order k q
def turns (H : AI) : Nat → AI
 | 0 => H
 | k + 1 => (turns H k).EI k
def N1 (H : AI) (d : Int) : AI :=
 let X := H.turns 4
 ({ X with w := (AE.CS X.w d).1 }.Gl (AE.CS X.w d).2.1).Bb
def EY (H : AI) : Nat → AI
 | 0 => H
 | k + 1 => (EY H k).set k { (EY H k).at_ k with told := [] }
def begun (H : AI) : AI := { H with B8 := H.B8 + 1, last := [] }.EY 4
def ok : Bl := ⟨0, []⟩
def byte (H : AI) (k : Int) (u : Ap) : AI :=
 let s1 := (H.at_ k).bytes u
 let s2 := s1.1.typed s1.2
 ((if decide (0 < s2.2) = true then (H.set k s2.1).tell k Ox else H.set k s2.1)).Bb
def Dy (X : AI) (a : Bz) : AI × Bl :=
 if decide (a.kind = 5) = true then (X.N1 a.n, ok)
 else if (decide (a.kind < 1) || decide (5 < a.kind)) = true then (X, ⟨5, []⟩)
 else if (decide (a.BL < 0) || decide (4 ≤ a.BL)) = true then (X, ⟨2, []⟩)
 else if (decide ((X.at_ a.BL).state = 0) != decide (a.kind = 1)) = true then (X, ⟨3, []⟩)
 else if decide (a.kind = 1) = true then (X.Jw a.BL, ok)
 else if decide (a.kind = 2) = true then (X.byte a.BL a.bytes, ok)
 else if decide (a.kind = 3) = true then ((X.set a.BL ((X.at_ a.BL).Gy a.n)).Bb, ⟨0, (X.at_ a.BL).out a.n⟩)
 else ((X.leave a.BL).Bb, ok)
def act (H : AI) (a : Bz) : AI × Bl := if decide (400 ≤ H.B8) = true then (H, ⟨4, []⟩) else H.begun.Dy a
def new : AI := ⟨AG.new, Vector.replicate 4 default, 0, []⟩
def run : AI → List Bz → AI × List Bl
 | H, [] => (H, [])
 | H, a :: l => ((run (H.act a).1 l).1, (H.act a).2 :: (run (H.act a).1 l).2)
end AI
end Go.Ing
/- Engine: several slices together; a seat of a house. -/
namespace Go.Ing
open Go
def Ad.D6 (l : List Ad) : Ad where
 CP := l.flatMap Ad.CP
 ok w := (∀ r ∈ l, r.ok w) ∧ l.Pairwise fun r s => ∀ b : Nat, b ∈ r.CP → b ∉ s.CP
 loc w w' h hw := ⟨fun r hr => r.loc w w' (fun b hb => h b (List.mem_flatMap.2 ⟨r, hr, hb⟩)) (hw.1 r hr), hw.2⟩
section
variable {w0 w : World} {M : List Nat} {l L : List Ad}
theorem St.Yt (h : St w0 M w (Ad.D6 l :: L)) : St w0 M w (l ++ L) := by
 have hm : ∀ r ∈ l, ∀ b ∈ r.CP, b ∈ (Ad.D6 l).CP := fun r hr b hb => List.mem_flatMap.2 ⟨r, hr, hb⟩
 have hf := h.ok (Ad.D6 l) (List.mem_cons_self ..)
 refine ⟨h.os, h.tape, h.output, h.size, h.I7, fun r hr => ?_, fun r hr => ?_, List.pairwise_append.2 ⟨hf.2, (List.pairwise_cons.1 h.JC).2, fun r hr s hs b hb => (List.pairwise_cons.1 h.JC).1 s hs b (hm r hr b hb)⟩⟩
 ·rcases List.mem_append.1 hr with hr | hr
  ·exact hf.1 r hr
  ·exact h.ok r (List.mem_cons_of_mem _ hr)
 ·rcases List.mem_append.1 hr with hr | hr
  ·exact fun b hb => h.CP _ (List.mem_cons_self ..) b (hm r hr b hb)
  ·exact h.CP r (List.mem_cons_of_mem _ hr)
theorem St.Ys (h : St w0 M w (l ++ L)) : St w0 M w (Ad.D6 l :: L) := by
 have hd := List.pairwise_append.1 h.JC
 refine ⟨h.os, h.tape, h.output, h.size, h.I7, fun r hr => ?_, fun r hr => ?_, List.pairwise_cons.2 ⟨fun s hs b hb => ?_, hd.2.1⟩⟩
 ·rcases List.mem_cons.1 hr with rfl | hr
  ·exact ⟨fun r hr => h.ok r (List.mem_append_left _ hr), hd.1⟩
  ·exact h.ok r (List.mem_append_right _ hr)
 ·rcases List.mem_cons.1 hr with rfl | hr
  ·intro b hb
   obtain ⟨r, hr, hb'⟩ := List.mem_flatMap.1 hb
   exact h.CP r (List.mem_append_left _ hr) b hb'
  ·exact h.CP r (List.mem_append_right _ hr)
 ·obtain ⟨r, hr, hb'⟩ := List.mem_flatMap.1 hb
  exact hd.2.2 r hr s hs b hb'
end
structure BI where
 queue : List Ap
 wait : List Ap
 told : List Ap
 deriving Inhabited
def FY (T : Nat) (v : A2) (l : BI) : List Ad := [Ad.own v.EW.queue T 1 (l.queue.flatMap A7), Ad.own v.out.wait T 1 (l.wait.flatMap A7), Ad.own v.told T 1 (l.told.flatMap A7)]
def CR (T : Nat) (vs : Vector A2 4) (ls : Vector BI 4) : List Ad := FY T (vs.at 0) (ls.at 0) ++ (FY T (vs.at 1) (ls.at 1) ++ (FY T (vs.at 2) (ls.at 2) ++ FY T (vs.at 3) (ls.at 3)))
def GP (T : Nat) (k : Int) (vs : Vector A2 4) (ls : Vector BI 4) : List Ad :=
 if k = 0 then FY T (vs.at 1) (ls.at 1) ++ (FY T (vs.at 2) (ls.at 2) ++ FY T (vs.at 3) (ls.at 3))
 else if k = 1 then FY T (vs.at 0) (ls.at 0) ++ (FY T (vs.at 2) (ls.at 2) ++ FY T (vs.at 3) (ls.at 3))
 else if k = 2 then FY T (vs.at 0) (ls.at 0) ++ (FY T (vs.at 1) (ls.at 1) ++ FY T (vs.at 3) (ls.at 3))
 else FY T (vs.at 0) (ls.at 0) ++ (FY T (vs.at 1) (ls.at 1) ++ FY T (vs.at 2) (ls.at 2))
theorem Ip {α : Type} (a b c : List α) : (a ++ (b ++ c)).Perm (b ++ (a ++ c)) := by
 rw [← List.append_assoc, ← List.append_assoc]
 exact List.perm_append_comm.append_right c
theorem four {k : Int} (h0 : 0 ≤ k) (h1 : k < 4) : k = 0 ∨ k = 1 ∨ k = 2 ∨ k = 3 := by omega
theorem Pe (T : Nat) {k : Int} (h0 : 0 ≤ k) (h1 : k < 4) (vs : Vector A2 4) (ls : Vector BI 4) : (CR T vs ls).Perm (FY T (vs.at k) (ls.at k) ++ GP T k vs ls) := by
 unfold CR GP
 rcases four h0 h1 with e | e | e | e <;> subst e
 ·exact .refl _
 ·exact Ip _ _ _
 ·exact ((Ip _ _ _).append_left _).trans (Ip _ _ _)
 ·exact (((List.perm_append_comm).append_left _).append_left _).trans (((Ip _ _ _).append_left _).trans (Ip _ _ _))
theorem Vi (T : Nat) {k : Int} (h0 : 0 ≤ k) (h1 : k < 4) (vs : Vector A2 4) (ls : Vector BI 4) (v : A2) (l : BI) : GP T k (vs.put k v) (ls.put k l) = GP T k vs ls := by
 have hv : ∀ i : Int, 0 ≤ i → i ≠ k → (vs.put k v).at i = vs.at i := fun i hi hn => Vector.ET h0 h1 hi hn
 have hl : ∀ i : Int, 0 ≤ i → i ≠ k → (ls.put k l).at i = ls.at i := fun i hi hn => Vector.ET h0 h1 hi hn
 unfold GP
 rcases four h0 h1 with e | e | e | e <;> subst e
 ·rw [if_pos rfl, if_pos rfl, hv 1 (by decide) (by decide), hv 2 (by decide) (by decide), hv 3 (by decide) (by decide), hl 1 (by decide) (by decide), hl 2 (by decide) (by decide), hl 3 (by decide) (by decide)]
 ·rw [if_neg (by decide), if_pos rfl, if_neg (by decide), if_pos rfl, hv 0 (by decide) (by decide), hv 2 (by decide) (by decide), hv 3 (by decide) (by decide), hl 0 (by decide) (by decide), hl 2 (by decide) (by decide), hl 3 (by decide) (by decide)]
 ·rw [if_neg (by decide), if_neg (by decide), if_pos rfl, if_neg (by decide), if_neg (by decide), if_pos rfl, hv 0 (by decide) (by decide), hv 1 (by decide) (by decide), hv 3 (by decide) (by decide), hl 0 (by decide) (by decide), hl 1 (by decide) (by decide), hl 3 (by decide) (by decide)]
 ·rw [if_neg (by decide), if_neg (by decide), if_neg (by decide), if_neg (by decide), if_neg (by decide), if_neg (by decide), hv 0 (by decide) (by decide), hv 1 (by decide) (by decide), hv 2 (by decide) (by decide), hl 0 (by decide) (by decide), hl 1 (by decide) (by decide), hl 2 (by decide) (by decide)]
def AO.BL (V : AO) (k : Int) (s : A2) : AO := { V with Az := V.Az.put k s }
def Js (V : AO) (k : Int) (s : A2) : List Value := (V.BL k s).enc
theorem AU.BL (V : AO) {k : Int} (h0 : 0 ≤ k) (h1 : k < 4) : AU (Js V k) A2.enc (165 + k.toNat * 22) 22 (fun s => s) (fun _ y => y) := by
 have hl := AO.l1.comp (AU.arr (n := 4) A2.fl h0 h1)
 refine ⟨fun x => ?_, hl.len, fun x => hl.Wb _, fun x y => ?_, hl.one⟩
 ·have := hl.get (V.BL k x)
  rw [show ((V.BL k x).Az.at k) = x from Vector.CB h0 h1] at this
  exact this
 ·have := hl.set (V.BL k x) y
  rw [show ({ V.BL k x with Az := (V.BL k x).Az.put k y } : AO) = V.BL k y from by unfold AO.BL; rw [Vector.Ed]] at this
  exact this
theorem Vector.RF {α : Type} [Inhabited α] {n : Nat} (v : Vector α n) {k : Int} (h0 : 0 ≤ k) (h1 : k < n) : v.put k (v.at k) = v := by
 apply Ts
 intro i i0 i1
 by_cases e : i = k
 ·subst e; rw [Vector.CB h0 h1]
 ·rw [Vector.ET h0 h1 i0 e]
theorem AO.P4 (V : AO) {k : Int} (h0 : 0 ≤ k) (h1 : k < 4) : V.BL k (V.Az.at k) = V := by
 unfold AO.BL; rw [Vector.RF _ h0 h1]
def Ck (v : A2) (l : BI) : Ax := ⟨v.state, v.Ay, v.Ds, v.EW.now, v.EW.Cs, v.EW.ret, l.queue, Page.of v.out, l.wait, l.told⟩
def A5 (V : AO) (ls : Vector BI 4) (ev : List Event) : AI := ⟨V.w, Vector.ofFn fun i => Ck (V.Az.at ((i : Nat) : Int)) (ls.at ((i : Nat) : Int)), V.B8, ev⟩
theorem Cm (V : AO) (ls : Vector BI 4) (ev : List Event) {k : Int} (h0 : 0 ≤ k) (h1 : k < 4) : (A5 V ls ev).at_ k = Ck (V.Az.at k) (ls.at k) := by
 rcases four h0 h1 with e | e | e | e <;> subst e <;> rfl
theorem Ik (V : AO) (ls : Vector BI 4) (ev : List Event) {k : Int} (h0 : 0 ≤ k) (h1 : k < 4) (v : A2) (l : BI) : A5 (V.BL k v) (ls.put k l) ev = (A5 V ls ev).set k (Ck v l) := by
 unfold A5 AI.set AO.BL
 congr 1
 apply Ts
 intro i i0 i1
 have hof : ∀ (f : Fin 4 → Ax), (Vector.ofFn f).at i = f ⟨i.toNat, by omega⟩ := fun f => by
  rcases four i0 i1 with e | e | e | e <;> subst e <;> rfl
 rw [hof]
 have hi : ((i.toNat : Nat) : Int) = i := by omega
 by_cases e : i = k
 ·subst e
  rw [Vector.CB h0 h1]
  show Ck ((V.Az.put i v).at ((i.toNat : Nat) : Int)) ((ls.put i l).at ((i.toNat : Nat) : Int)) = _
  rw [hi, Vector.CB h0 h1, Vector.CB h0 h1]
 ·rw [Vector.ET h0 h1 i0 e, hof]
  show Ck ((V.Az.put k v).at ((i.toNat : Nat) : Int)) ((ls.put k l).at ((i.toNat : Nat) : Int)) = Ck (V.Az.at ((i.toNat : Nat) : Int)) (ls.at ((i.toNat : Nat) : Int))
  rw [hi, Vector.ET h0 h1 i0 e, Vector.ET h0 h1 i0 e]
section
variable {P : Program} {n : Nat} {w0 w : World} {M : List Nat} {Q : Exit → Go.Act → World → Prop} {F : List (Nat × Value)} {L K : List Ad} {cd : Code} {b T TS : Nat} {V : AO} {ls : Vector BI 4} {k : Int}
theorem St.aO (h0 : 0 ≤ k) (h1 : k < 4) (h : St w0 M w (Ad.box b T V.enc :: Ad.D6 (CR TS V.Az ls) :: K)) :
  St w0 M w (Ad.own (V.Az.at k).EW.queue TS 1 ((ls.at k).queue.flatMap A7) :: Ad.own (V.Az.at k).out.wait TS 1 ((ls.at k).wait.flatMap A7) :: Ad.own (V.Az.at k).told TS 1 ((ls.at k).told.flatMap A7) :: Ad.box b T (Js V k (V.Az.at k)) :: Ad.D6 (GP TS k V.Az ls) :: K) := by
 have h2 : St w0 M w (CR TS V.Az ls ++ (Ad.box b T V.enc :: K)) := (h.perm (List.Perm.swap ..)).Yt
 have h3 := h2.perm ((Pe TS h0 h1 V.Az ls).append_right _)
 have h4 : St w0 M w (GP TS k V.Az ls ++ (FY TS (V.Az.at k) (ls.at k) ++ (Ad.box b T V.enc :: K))) := by
  refine h3.perm ?_
  rw [List.append_assoc]
  exact Ip _ _ _
 have h5 := h4.Ys
 unfold Js
 rw [V.P4 h0 h1]
 refine h5.perm ?_
 exact (Ip [Ad.D6 (GP TS k V.Az ls)] (FY TS (V.Az.at k) (ls.at k) ++ [Ad.box b T V.enc]) K).trans (.of_eq (by simp [FY]))
theorem St.close' (h0 : 0 ≤ k) (h1 : k < 4) {s : A2} {qs ws ts : List Ap} {q w' t : Hd} (hq : s.EW.queue = q) (hw : s.out.wait = w') (ht : s.told = t)
  (h : St w0 M w (Ad.own q TS 1 (qs.flatMap A7) :: Ad.own w' TS 1 (ws.flatMap A7) :: Ad.own t TS 1 (ts.flatMap A7) :: Ad.box b T (Js V k s) :: Ad.D6 (GP TS k V.Az ls) :: K)) :
  St w0 M w (Ad.box b T (V.BL k s).enc :: Ad.D6 (CR TS (V.BL k s).Az (ls.put k ⟨qs, ws, ts⟩)) :: K) := by
 subst hq hw ht
 have e1 : (V.BL k s).Az.at k = s := Vector.CB h0 h1
 have e2 : (ls.put k ⟨qs, ws, ts⟩).at k = ⟨qs, ws, ts⟩ := Vector.CB h0 h1
 have hp := Pe TS h0 h1 (V.BL k s).Az (ls.put k ⟨qs, ws, ts⟩)
 rw [e1, e2, show GP TS k (V.BL k s).Az (ls.put k ⟨qs, ws, ts⟩) = GP TS k V.Az ls from Vi TS h0 h1 _ _ _ _] at hp
 have h2 : St w0 M w (Ad.D6 (GP TS k V.Az ls) :: (FY TS s ⟨qs, ws, ts⟩ ++ (Ad.box b T (V.BL k s).enc :: K))) :=
  h.perm ((Ip [Ad.D6 (GP TS k V.Az ls)] (FY TS s ⟨qs, ws, ts⟩ ++ [Ad.box b T (V.BL k s).enc]) K).symm.trans (.of_eq (by simp [FY]))|>.symm.symm)
 have h3 := h2.Yt
 have h4 : St w0 M w ((FY TS s ⟨qs, ws, ts⟩ ++ GP TS k V.Az ls) ++ (Ad.box b T (V.BL k s).enc :: K)) := h3.perm (by rw [List.append_assoc]; exact Ip _ _ _)
 have h5 := (h4.perm (hp.symm.append_right _)).Ys
 exact h5.perm (List.Perm.swap ..)
theorem Ft (h0 : 0 ≤ k) (h1 : k < 4) (h : ∀ s l, V.Az.at k = s → ls.at k = l → (s.EW.queue.len = l.queue.length ∧ s.out.wait.len = l.wait.length ∧ s.told.len = l.told.length) → G P n w0 M cd Q F (Ad.own s.EW.queue TS 1 (l.queue.flatMap A7) :: Ad.own s.out.wait TS 1 (l.wait.flatMap A7) :: Ad.own s.told TS 1 (l.told.flatMap A7) :: Ad.box b T (Js V k s) :: Ad.D6 (GP TS k V.Az ls) :: K)) :
  G P n w0 M cd Q F (Ad.box b T V.enc :: Ad.D6 (CR TS V.Az ls) :: K) := fun a w hF hS =>
 have hO := hS.aO h0 h1
 h _ _ rfl rfl ⟨(Kn.own (.head _) w hO).My DS (by decide), (Kn.own (.tail _ (.head _)) w hO).My DS (by decide), (Kn.own (.tail _ (.tail _ (.head _))) w hO).My DS (by decide)⟩ a w hF hO
theorem G9 (h0 : 0 ≤ k) (h1 : k < 4) {s : A2} {qs ws ts : List Ap} {q w' t : Hd} (hq : s.EW.queue = q) (hw : s.out.wait = w') (ht : s.told = t) (h : G P n w0 M cd Q F (Ad.box b T (V.BL k s).enc :: Ad.D6 (CR TS (V.BL k s).Az (ls.put k ⟨qs, ws, ts⟩)) :: K)) :
  G P n w0 M cd Q F (Ad.own q TS 1 (qs.flatMap A7) :: Ad.own w' TS 1 (ws.flatMap A7) :: Ad.own t TS 1 (ts.flatMap A7) :: Ad.box b T (Js V k s) :: Ad.D6 (GP TS k V.Az ls) :: K) := fun a w hF hS => h a w hF (hS.close' h0 h1 hq hw ht)
theorem Ra {x : Exit} (h0 : 0 ≤ k) (h1 : k < 4) {s : A2} {qs ws ts : List Ap} {q w' t : Hd} (hq : s.EW.queue = q) (hw : s.out.wait = w') (ht : s.told = t) (h : GQ n w0 M Q x F (Ad.box b T (V.BL k s).enc :: Ad.D6 (CR TS (V.BL k s).Az (ls.put k ⟨qs, ws, ts⟩)) :: K)) :
  GQ n w0 M Q x F (Ad.own q TS 1 (qs.flatMap A7) :: Ad.own w' TS 1 (ws.flatMap A7) :: Ad.own t TS 1 (ts.flatMap A7) :: Ad.box b T (Js V k s) :: Ad.D6 (GP TS k V.Az ls) :: K) := fun a w hF hS => h a w hF (hS.close' h0 h1 hq hw ht)
end
theorem Ec {V : AO} {ls : Vector BI 4} {ev : List Event} {k : Int} (h0 : 0 ≤ k) (h1 : k < 4) {s v : A2} {l l' : BI} (hs : V.Az.at k = s) (hl : ls.at k = l) {f : Ax → Ax} (e : Ck v l' = f (Ck s l)) : A5 (V.BL k v) (ls.put k l') ev = (A5 V ls ev).set k (f ((A5 V ls ev).at_ k)) := by
 rw [Ik V ls ev h0 h1, Cm V ls ev h0 h1, hs, hl, e]
theorem Iz {v : A2} {l : BI} (h : v.out.wait.len = l.wait.length) : (Ck v l).LP = Page.BZ v.out := by
 unfold Ax.LP Page.BZ
 rw [h]; rfl
end Go.Ing
/- A house: plain laws for the walks. -/
namespace Go.Ing
open Go
theorem Xa {v : A2} {l : BI} {u : Ap} (hw : v.out.wait.len = l.wait.length) (h : Page.BZ v.out = false) : (Ck v l).line u = Ck v l := if_pos (by rw [Iz hw, h]; rfl)
theorem Xg {v : A2} {l : BI} {u : Ap} (hw : v.out.wait.len = l.wait.length) (h : Page.BZ v.out = true) (c : v.out.cut = true) : (Ck v l).line u = Ck v l := (if_neg (by rw [Iz hw, h]; decide)).trans (if_pos c)
theorem Vj {v : A2} {l : BI} {u : Ap} (hw : v.out.wait.len = l.wait.length) (h : Page.BZ v.out = true) (c : v.out.cut = false) (n : 60 ≤ l.wait.length) : (Ck v l).line u = Ck { v with out := ⟨v.out.wait, v.out.shown, v.out.B7, v.out.ring, true⟩ } l :=
 (if_neg (by rw [Iz hw, h]; decide)).trans ((if_neg (by show ¬ v.out.cut = true; rw [c]; decide)).trans (if_pos (decide_eq_true (show (60 : Int) ≤ (l.wait.length : Int) by omega))))
theorem Vf {v : A2} {l : BI} {u : Ap} (hw : v.out.wait.len = l.wait.length) (h : Page.BZ v.out = true) (c : v.out.cut = false) (n : l.wait.length < 60) (w : Hd) : (Ck v l).line u = Ck { v with out := ⟨w, v.out.shown, v.out.B7, v.out.ring, v.out.cut⟩ } ⟨l.queue, l.wait ++ [u], l.told⟩ :=
 (if_neg (by rw [Iz hw, h]; decide)).trans ((if_neg (by show ¬ v.out.cut = true; rw [c]; decide)).trans (if_neg (by rw [decide_eq_true_eq]; show ¬ (60 : Int) ≤ (l.wait.length : Int); omega)))
theorem Zk {v : A2} {l : BI} {u : Ap} (h : (!v.out.cut) = true) (t : Hd) : (Ck v l).note u = Ck { v with told := t } ⟨l.queue, l.wait, l.told ++ [u]⟩ := if_pos h
theorem ZK {v : A2} {l : BI} {u : Ap} (h : (!v.out.cut) = false) : (Ck v l).note u = Ck v l := if_neg (by show ¬ (!v.out.cut) = true; rw [h]; decide)
theorem AI.De (H : AI) {k j : Int} (h0 : 0 ≤ k) (h1 : k < 4) (j0 : 0 ≤ j) (s : Ax) : (H.set k s).at_ j = if j = k then s else H.at_ j := by
 unfold AI.set AI.at_
 by_cases e : j = k
 ·subst e; rw [if_pos rfl]; exact Vector.CB h0 h1
 ·rw [if_neg e]; exact Vector.ET h0 h1 j0 e
theorem CC (s : Ax) (u : Ap) : (s.tell u).told.length ≤ s.told.length + 1 := by
 have h : (s.line u).told = s.told := by
  unfold Ax.line; split
  ·rfl
  ·split
   ·rfl
   ·split <;> rfl
 unfold Ax.tell Ax.note
 split
 ·show ((s.line u).told ++ [u]).length ≤ _
  rw [h, List.length_append]; exact Nat.le_refl _
 ·rw [h]; exact Nat.le_succ _
theorem K7 {V V' : AO} {ls ls' : Vector BI 4} {ev ev' : List Event} {k : Int} {u : Ap} (h0 : 0 ≤ k) (h1 : k < 4) (e : A5 V' ls' ev' = (A5 V ls ev).tell k u) {j : Int} (j0 : 0 ≤ j) (j1 : j < 4) :
  (ls'.at j).told.length ≤ (ls.at j).told.length + 1 ∧ (j ≠ k → (ls'.at j).told = (ls.at j).told) := by
 have h := congrArg (fun H => (AI.at_ H j).told) e
 simp only [AI.tell] at h
 rw [Cm _ _ _ j0 j1, AI.De _ h0 h1 j0] at h
 have h' : (ls'.at j).told = (if j = k then ((A5 V ls ev).at_ k).tell u else (A5 V ls ev).at_ j).told := h
 by_cases c : j = k
 ·subst c
  rw [if_pos rfl, Cm _ _ _ j0 j1] at h'
  exact ⟨by rw [h']; exact CC _ _, fun hn => absurd rfl hn⟩
 ·rw [if_neg c, Cm _ _ _ j0 j1] at h'
  exact ⟨by rw [h']; exact Nat.le_succ _, fun _ => h'⟩
theorem Kh {V : AO} {ls : Vector BI 4} {ev : List Event} {e : Event} {X : AI} {i : Int} (h0 : 0 ≤ i) (h1 : i < 4) (h : A5 V ls ev = AI.CV e X i.toNat) : AI.CV e X (i + 1).toNat = if (!decide ((V.Az.at i).state = 2)) = true then A5 V ls ev else if (AG.tell e (V.Az.at i).Ay).2 = true then (A5 V ls ev).tell i (AG.tell e (V.Az.at i).Ay).1 else A5 V ls ev := by
 obtain ⟨m, rfl⟩ := Int.eq_ofNat_of_zero_le h0
 have ha := Cm V ls ev h0 h1
 rw [show ((m : Int) + 1).toNat = m + 1 by omega, AI.CV]
 rw [show ((m : Int)).toNat = m by omega] at h
 rw [← h, ha]
 rfl
theorem TH {H : AI} {es : List Event} {k : Int} (h0 : 0 ≤ k) (h1 : k < es.length) : H.HV (es.take (k + 1).toNat) = AI.CV (es.getD k.toNat default) (H.HV (es.take k.toNat)) 4 := by
 obtain ⟨m, rfl⟩ := Int.eq_ofNat_of_zero_le h0
 have hm : m < es.length := by omega
 show H.HV (es.take (m + 1)) = AI.CV (es.getD m default) (H.HV (es.take m)) 4
 unfold AI.HV
 rw [List.take_add_one, List.getElem?_eq_getElem hm, List.foldl_append, List.getD_eq_getElem?_getD, List.getElem?_eq_getElem hm]
 rfl
def XR (ls : Vector BI 4) (n : Nat) : Prop := ∀ j : Int, 0 ≤ j → j < 4 → (ls.at j).told.length ≤ n
theorem WJ {H : AI} {ev es : List Event} (h : H.last = ev) : AI.Gl H es = ({ H with last := ev ++ es } : AI).HV es := by subst h; rfl
end Go.Ing
/- What is said in a land of short names is short: plain laws. -/
namespace Go.Ing
open Go
namespace AG
structure LI (w : AG) : Prop where
 th : ∀ i, (w.AL.at i).name.length ≤ 100
 be : ∀ i, (w.AN.at i).name.length ≤ 100
 ro : ∀ i, (w.BR.at i).name.length ≤ 100
theorem LI.HP {w : AG} (h : w.LI) : w.DE := ⟨fun i => Nat.le_trans (h.th i) (by decide), fun i => Nat.le_trans (h.be i) (by decide), fun i => Nat.le_trans (h.ro i) (by decide)⟩
theorem XA {X : AG} (h : X.LI) {i : Int} {t : Ag} (ht : t.name.length ≤ 100) : (X.Gf i t).LI := ⟨fun j => by
 rcases Vector.Pc X.AL i j t with e | e
 ·show ((X.AL.put i t).at j).name.length ≤ _; rw [e]; exact ht
 ·show ((X.AL.put i t).at j).name.length ≤ _; rw [e]; exact h.th j, h.be, h.ro⟩
theorem IX {X : AG} (h : X.LI) {i : Int} {t : Ak} (ht : t.name.length ≤ 100) : (X.Cz i t).LI := ⟨h.th, fun j => by
 rcases Vector.Pc X.AN i j t with e | e
 ·show ((X.AN.put i t).at j).name.length ≤ _; rw [e]; exact ht
 ·show ((X.AN.put i t).at j).name.length ≤ _; rw [e]; exact h.be j, h.ro⟩
theorem XW {X : AG} (h : X.LI) {r d : Int} {v : Bool} : (X.M6 r d v).LI := ⟨h.th, h.be, fun j => by
 rcases Vector.Pc X.BR r j { X.BR.at r with shut := (X.BR.at r).shut.put d v } with e | e
 ·show ((X.BR.put r _).at j).name.length ≤ _; rw [e]; exact h.ro r
 ·show ((X.BR.put r _).at j).name.length ≤ _; rw [e]; exact h.ro j⟩
end AG
namespace AE
structure Ct (T : AE) : Prop where
 FZ : T.w.LI
 out : ∀ e ∈ T.out, AG.Small e
theorem L5 {w : AG} (hw : w.LI) : ∀ (l : List Int) (s : Ap), (H2 w s l).length ≤ s.length + l.length * 102
 | [], s => by simp [H2]
 | i :: r, s => by
  have hn := hw.th i
  unfold H2
  split
  ·have := L5 hw r (s ++ [32] ++ (w.AL.at i).name ++ [42])
   simp only [List.length_append, List.length_cons, List.length_nil] at this ⊢
   omega
  ·have := L5 hw r (s ++ [32] ++ (w.AL.at i).name)
   simp only [List.length_append, List.length_cons, List.length_nil] at this ⊢
   omega
theorem Mp : (default : Ak).name.length ≤ 100 := by decide
section
variable {T : AE}
theorem Ct.BO (h : Ct T) {e : Event} (h1 : e.Bs.length ≤ 1000000) (h2 : e.text.length ≤ 1000000) (h3 : e.EM.length ≤ 1000000) (h4 : -9223372036854775808 ≤ e.n) (h5 : e.n ≤ 9223372036854775807) : Ct (T.BO e) := by
 refine ⟨h.FZ, fun x hx => ?_⟩
 rcases List.mem_append.1 (show x ∈ T.out ++ [T.w.Hi (T.Di e) 6] from hx) with hx | hx
 ·exact h.out x hx
 ·have hx' : x = T.w.Hi (T.Di e) 6 := by simpa using hx
  subst hx'
  obtain ⟨a1, a2, a3, a4, a5, a6, a7, a8, a9⟩ := AG.KD T.w (T.Di e) 6
  have e2 : (T.Di e).n = e.n ∧ (T.Di e).Hj = T.me.name ∧ (T.Di e).EM.length ≤ 1000000 ∧ (T.Di e).Bs = e.Bs ∧ (T.Di e).text = e.text := by
   unfold Di
   split
   ·exact ⟨rfl, rfl, Nat.le_trans (h.FZ.be _) (by decide), rfl, rfl⟩
   ·exact ⟨rfl, rfl, h3, rfl, rfl⟩
  obtain ⟨b4, b5, b6, b7, b8⟩ := e2
  refine ⟨?_, ?_, ?_, ?_, ?_, ?_⟩
  ·rw [a6, b5]; exact Nat.le_trans (h.FZ.be T.b) (by decide)
  ·rw [a7]; exact Nat.le_trans b6 (by decide)
  ·rw [a8, b7]; exact Nat.le_trans h1 (by decide)
  ·rw [a9, b8]; exact Nat.le_trans h2 (by decide)
  ·rw [a5, b4]; exact h4
  ·rw [a5, b4]; exact h5
theorem Ct.tell (h : Ct T) {s : Ap} (hs : s.length ≤ 1000000) : Ct (T.tell s) := h.BO (Nat.zero_le _) hs (Nat.zero_le _) (show (-9223372036854775808 : Int) ≤ 0 by decide) (show (0 : Int) ≤ 9223372036854775807 by decide)
theorem Ct.kind (h : Ct T) (k : Int) : Ct (T.kind k) := h.BO (Nat.zero_le _) (Nat.zero_le _) (Nat.zero_le _) (show (-9223372036854775808 : Int) ≤ 0 by decide) (show (0 : Int) ≤ 9223372036854775807 by decide)
theorem Ct.Bs (h : Ct T) (k i : Int) : Ct (T.Bs k i) := h.BO (Nat.le_trans (h.FZ.th i) (by decide)) (Nat.zero_le _) (Nat.zero_le _) (show (-9223372036854775808 : Int) ≤ 0 by decide) (show (0 : Int) ≤ 9223372036854775807 by decide)
theorem Ct.land (h : Ct T) {w' : AG} (ht : w'.LI) : Ct { T with w := w' } := ⟨ht, h.out⟩
theorem Ct.C3 (h : Ct T) {i : Int} {t : Ag} (ht : t.name = (T.w.AL.at i).name) : Ct (T.C3 i t) := h.land (w' := T.w.Gf i t) (AG.XA h.FZ (by rw [ht]; exact h.FZ.th i))
theorem Ct.place (h : Ct T) (i CJ at_ : Int) : Ct (T.place i CJ at_) := h.C3 rfl
theorem Ct.Ch (h : Ct T) (k f : Int) : Ct (T.Ch k f) := h.land (w' := T.w.Cz k { T.w.AN.at k with Bx := f }) (AG.IX h.FZ (h.FZ.be k))
theorem Ct.DP (h : Ct T) (k : Int) {x : Ak} (hx : x.name.length ≤ 100) : Ct (T.DP k x) := h.land (w' := T.w.Cz k x) (AG.IX h.FZ hx)
theorem Ct.C2 (h : Ct T) (r d : Int) (v : Bool) : Ct (T.C2 r d v) := h.land (w' := T.w.M6 r d v) (AG.XW h.FZ)
theorem Ct.F2 (h : Ct T) (r : Int) : Ct (T.F2 r) := h.land (w' := T.w.Cz T.b { T.me with room := r, Bx := 0 }) (AG.IX h.FZ (h.FZ.be T.b))
theorem Ct.list (h : Ct T) {s : Ap} (hs : s.length ≤ 100) {l : List Int} (hl : l.length ≤ 9) : Ct (T.list s l) := by
 refine h.tell ?_
 have := L5 h.FZ l s
 unfold SR
 split <;> simp only [List.length_append, List.length_cons, List.length_nil] <;> omega
theorem Ct.look (h : Ct T) : Ct T.look := by
 have hk : ∀ {T' : AE}, Ct T' → ∀ k : Nat, Ct (T'.FQ k) := fun {T'} h' k => by
  induction k with
  | zero => exact h'
  | succ k ih =>
   unfold FQ
   split
   ·exact ih.tell (by
     have := ih.FZ.be k
     have e : (T'.FQ k).w = T'.w := (KK T' k).1
     rw [e] at this
     simp only [List.length_append, List.length_cons, List.length_nil]; omega)
   ·exact ih
 unfold AE.look
 split
 ·exact h.tell (by show ([73, 116, 32, 105, 115, 32, 100, 97, 114, 107, 46] : Ap).length ≤ _; decide)
 ·refine hk ?_ 6
  have ha : Ct T.JZ := (h.tell (by
   have := h.FZ.ro T.me.room
   simp only [List.length_append, List.length_cons, List.length_nil]; omega)).tell (by
   have := MM (T.w.BR.at T.me.room) 6
   omega)
  unfold D4
  split
  ·exact ha.list (by decide) (AG.IB ..)
  ·exact ha
theorem Ct.walk (h : Ct T) (d : Int) : Ct (T.walk d) := by
 unfold AE.walk
 split
 ·exact h.tell (by decide)
 ·split
  ·exact h.tell (by decide)
  ·have i1 : Ct (T.BO { Fj 1 with dir := d }) := h.BO (Nat.zero_le _) (Nat.zero_le _) (Nat.zero_le _) (show (-9223372036854775808 : Int) ≤ 0 by decide) (show (0 : Int) ≤ 9223372036854775807 by decide)
   exact ((i1.F2 _).BO (e := { Fj 2 with dir := AG.opposite d }) (Nat.zero_le _) (Nat.zero_le _) (Nat.zero_le _) (show (-9223372036854775808 : Int) ≤ 0 by decide) (show (0 : Int) ≤ 9223372036854775807 by decide)).look
theorem Ct.box (h : Ct T) (u : Ap) : Ct (T.box u).1 := by
 unfold AE.box
 split
 ·exact h.tell (by decide)
 ·split
  ·exact h.tell (by decide)
  ·exact h
theorem Ct.A6 (h : Ct T) (u : Ap) : Ct (T.A6 u).1 := by
 unfold AE.A6
 split
 ·split
  ·exact h
  ·exact h.tell (by decide)
 ·exact h.tell (by decide)
theorem Ct.DA (l : List Int) : ∀ {T' : AE}, Ct T' → Ct (T'.DA l) := by
 induction l with
 | nil => exact fun h => h
 | cons i r ih => exact fun {T'} h => ih ((h.place i 1 T'.b).Bs 3 i)
theorem Ct.KU (h : Ct T) (l : List Int) (o : Order) : Ct (T.KU l o) := by
 unfold AE.KU
 refine Ct.DA _ ?_
 split
 ·exact h.tell (by decide)
 ·exact h
theorem Ct.get (h : Ct T) (o : Order) : Ct (T.get o) := by
 unfold AE.get
 split
 ·split
  ·exact h.box _
  ·exact (h.box _).KU _ _
 ·exact h.KU _ _
theorem Ct.Cn (h : Ct T) (v to i : Int) : Ct (T.Cn v to i) := by
 unfold AE.Cn
 split
 ·exact h.tell (by decide)
 ·split
  ·exact (h.place _ _ _).Bs _ _
  ·split
   ·exact (h.place i 1 to).BO (e := { Fj 6 with other := to, Bs := (T.w.AL.at i).name }) (Nat.le_trans (h.FZ.th i) (by decide)) (Nat.zero_le _) (Nat.zero_le _) (show (-9223372036854775808 : Int) ≤ 0 by decide) (show (0 : Int) ≤ 9223372036854775807 by decide)
   ·split
    ·exact h.tell (by decide)
    ·exact (h.place i 2 to).BO (e := { Fj 5 with Bs := (T.w.AL.at i).name, text := (T.w.AL.at to).name }) (Nat.le_trans (h.FZ.th i) (by decide)) (Nat.le_trans (h.FZ.th to) (by decide)) (Nat.zero_le _) (show (-9223372036854775808 : Int) ≤ 0 by decide) (show (0 : Int) ≤ 9223372036854775807 by decide)
theorem Ct.Ee {v to : Int} (l : List Int) : ∀ {T' : AE}, Ct T' → Ct (T'.Ee v to l) := by
 induction l with
 | nil => exact fun h => h
 | cons i r ih => exact fun h => ih (h.Cn v to i)
theorem Ct.E3 (h : Ct T) (o : Order) : Ct (T.E3 o) := by
 have ht : Ct (T.Cq o).1 := by
  unfold Cq
  split
  ·exact h.box _
  ·split
   ·exact h.A6 _
   ·exact h
 unfold AE.E3
 split
 ·exact ht
 ·unfold SJ
  refine Ct.Ee _ ?_
  split
  ·exact ht.tell (by decide)
  ·exact ht
theorem Ct.Ew (h : Ct T) (o : Order) : Ct (T.Ew o) := by
 unfold AE.Ew
 generalize (if (!decide (o.nth = 1) || o.Bi) = true then [] else o.name) = nm
 have hs := h.A6 nm
 split
 ·exact hs
 ·refine Ct.tell ?_ (by decide)
  split
  ·exact (hs.Ch _ _).Ch _ _
  ·exact hs.Ch _ _
theorem Ct.before (h : Ct T) (first : Bool) (i : Int) (v : Bool) (k : Int) : Ct (T.before first i v k) := by
 unfold AE.before
 split
 ·exact (Ct.C3 h (i := i) (t := { T.w.AL.at i with on := v }) rfl).Bs _ _
 ·exact (h.Bs k i).C3 rfl
theorem Ct.Gx (h : Ct T) (d : Int) (on : Bool) (k : Int) : Ct (T.Gx d on k) := by
 unfold AE.Gx
 split
 ·exact h.tell (by decide)
 ·split
  ·exact h.tell (by decide)
  ·refine Ct.BO ?_ (by show ([100, 111, 111, 114] : Ap).length ≤ 1000000; decide) (Nat.zero_le _) (Nat.zero_le _) (show (-9223372036854775808 : Int) ≤ 0 by decide) (show (0 : Int) ≤ 9223372036854775807 by decide)
   split
   ·exact (h.C2 _ _ _).C2 _ _ _
   ·exact h.C2 _ _ _
theorem Ct.set (h : Ct T) (o : Order) : Ct (T.set o) := by
 unfold AE.set
 split
 ·exact h.Gx _ _ _
 ·split
  ·exact h.tell (by decide)
  ·split
   ·exact h.tell (by decide)
   ·split
    ·exact h.before _ _ _ _
    ·exact h.before _ _ _ _
theorem Ct.CX (l : List Int) : ∀ {T' : AE}, Ct T' → Ct (T'.CX l) := by
 induction l with
 | nil => exact fun h => h
 | cons i r ih => exact fun {T'} h => ih (Ct.C3 h (i := i) rfl)
theorem Ct.DN (h : Ct T) : ∀ k : Nat, Ct (T.DN k)
 | 0 => h
 | k + 1 => by
  unfold AE.DN
  split
  ·exact (Ct.DN h k).Ch _ _
  ·exact Ct.DN h k
theorem Ct.E0 (h : Ct T) : Ct T.E0 := by
 rw [Lz]
 exact ((Ct.CX _ h).DN 6).Ch _ _
theorem Ct.GZ (h : Ct T) : Ct T.GZ := by
 have hf := Ct.E0 (h.kind 18)
 unfold AE.GZ
 generalize (T.kind 18).E0 = F at *
 exact hf.DP T.b (x := default) Mp
theorem Ct.act (h : Ct T) {o : Order} (hx : o.text.length ≤ 1000000) : Ct (T.act o) := by
 unfold AE.act
 split
 ·exact h.walk _
 ·split
  ·exact h.look
  ·split
   ·exact h.list (by decide) (AG.IB ..)
   ·split
    ·exact h.BO (e := { Fj 7 with text := o.text }) (Nat.zero_le _) hx (Nat.zero_le _) (show (-9223372036854775808 : Int) ≤ 0 by decide) (show (0 : Int) ≤ 9223372036854775807 by decide)
    ·split
     ·exact h.GZ
     ·split
      ·exact h.Ew _
      ·split
       ·exact h.get _
       ·split
        ·exact h.E3 _
        ·exact h.set _
end
theorem J7 {X : AG} {b : Int} {o : Order} (hw : X.LI) (hx : o.text.length ≤ 1000000) : (D7 X b o).1.LI ∧ ∀ e ∈ (D7 X b o).2.1, AG.Small e := by
 unfold D7
 split
 ·exact ⟨hw, fun e h => by cases h⟩
 ·split
  ·exact ⟨hw, fun e h => by cases h⟩
  ·split
   ·exact ⟨hw, fun e h => by cases h⟩
   ·have := Ct.act (T := ⟨X, b, []⟩) ⟨hw, fun e h => by cases h⟩ hx
    exact ⟨this.FZ, this.out⟩
theorem Iq {X : AG} {s : Ap} (hw : X.LI) : (BW X s).1.LI ∧ ∀ e ∈ (BW X s).2.2.1, AG.Small e := by
 unfold BW
 split
 ·exact ⟨hw, fun e h => by cases h⟩
 ·split
  ·exact ⟨hw, fun e h => by cases h⟩
  ·rename_i h1
   split
   ·exact ⟨hw, fun e h => by cases h⟩
   ·split
    ·exact ⟨hw, fun e h => by cases h⟩
    ·have hn : s.length ≤ 8 := by
      have h2 : FE s = true := by simpa using h1
      simp only [FE, Bool.and_eq_true, decide_eq_true_eq] at h2
      omega
     have h0 : Ct ⟨X.Cz (CI X 6) (JW s), CI X 6, []⟩ := ⟨AG.IX hw (by show s.length ≤ 100; omega), fun e h => by cases h⟩
     have := (h0.kind 17).look
     exact ⟨this.FZ, this.out⟩
theorem S2 {w : AG} {b Bx n : Int} (hw : w.LI) (h0 : 1 ≤ n) (h1 : n ≤ 3) : Ct (B9 w b Bx n) := by
 have hs : Ct ⟨w, b, []⟩ := ⟨hw, fun e h => by cases h⟩
 unfold B9
 exact (hs.BO (e := { Fj 14 with other := Bx, n := n }) (Nat.zero_le _) (Nat.zero_le _) (Nat.zero_le _) (show -9223372036854775808 ≤ n by omega) (show n ≤ 9223372036854775807 by omega)).DP _ (hw.be Bx)
theorem Ct.dG {T : AE} (h : Ct T) (b : Int) : Ct (T.DP b { T.w.AN.at b with room := 0, BH := 10 }) := h.DP b (h.FZ.be b)
theorem XE {w : AG} {b : Int} (hw : w.LI) : Ct (Hm w b) := by
 have h0 : Ct (FG w b) := ⟨AG.IX hw (hw.be b), fun e h => by cases h⟩
 have h1 : Ct (Fy w b) := by unfold Fy; exact (h0.kind 15).E0
 unfold Hm
 split
 ·generalize Fy w b = F at *
  exact h1.DP b (x := default) Mp
 ·have h2 : Ct (I4 w b) := by unfold I4; exact h1.dG b
  exact (h2.kind 17).look
theorem Sx {draw b : Int} (hb : 0 ≤ b) {s : AG × List Event} (h : s.1.LI ∧ ∀ e ∈ s.2, AG.Small e) : (EH draw b s).1.LI ∧ ∀ e ∈ (EH draw b s).2, AG.Small e := by
 have hh := LJ (draw := draw) hb
 unfold EH
 split
 ·exact h
 ·split
  ·exact ⟨AG.IX h.1 (h.1.be b), h.2⟩
  ·have hk := S2 (b := b) (Bx := (s.1.AN.at b).Bx - 1) h.1 hh.1 hh.2
   split
   ·have hd := XE (b := (s.1.AN.at b).Bx - 1) hk.FZ
    refine ⟨hd.FZ, fun e he => ?_⟩
    rcases List.mem_append.1 he with he | he
    ·rcases List.mem_append.1 he with he | he
     ·exact h.2 e he
     ·exact hk.out e he
    ·exact hd.out e he
   ·refine ⟨hk.FZ, fun e he => ?_⟩
    rcases List.mem_append.1 he with he | he
    ·exact h.2 e he
    ·exact hk.out e he
theorem NY {X : AG} {draw : Int} (hw : X.LI) : ∀ k : Nat, (DR X draw k).1.LI ∧ ∀ e ∈ (DR X draw k).2, AG.Small e
 | 0 => ⟨hw, fun e h => by cases h⟩
 | k + 1 => Sx (by omega) (NY hw k)
theorem LA {X : AG} {draw : Int} (hw : X.LI) : (CS X draw).1.LI ∧ ∀ e ∈ (CS X draw).2.1, AG.Small e := by
 unfold CS
 split
 ·exact ⟨hw, fun e h => by cases h⟩
 ·have h := NY (draw := draw) hw 6
  generalize DR X draw 6 = r at *
  exact h
end AE
end Go.Ing
/- What a house keeps: plain laws. -/
namespace Go.Ing
open Go
namespace AI
def Zy (q : List Ap) : Prop := q.length ≤ 6 ∧ ∀ s ∈ q, s.length ≤ 60
structure Fit (H : AI) (n m : Nat) : Prop where
 FZ : H.w.LI
 told : ∀ k : Int, 0 ≤ k → k < 4 → (H.at_ k).told.length ≤ n
 last : H.last.length ≤ m
 Ay : ∀ k : Int, 0 ≤ k → k < 4 → (H.at_ k).state = 2 → 0 ≤ (H.at_ k).Ay ∧ (H.at_ k).Ay < 6
 wait : ∀ k : Int, 0 ≤ k → k < 4 → ∀ s ∈ (H.at_ k).wait, s.length ≤ 70368744000000
 queue : ∀ k : Int, 0 ≤ k → k < 4 → Zy (H.at_ k).queue
variable {H : AI} {n m : Nat}
theorem Fit.mono (h : H.Fit n m) {n' m' : Nat} (hn : n ≤ n') (hm : m ≤ m') : H.Fit n' m' := ⟨h.FZ, fun k a b => Nat.le_trans (h.told k a b) hn, Nat.le_trans h.last hm, h.Ay, h.wait, h.queue⟩
theorem Fit.set (h : H.Fit n m) {k : Int} (h0 : 0 ≤ k) (h1 : k < 4) {s : Ax} (ht : s.told.length ≤ n) (hb : s.state = 2 → 0 ≤ s.Ay ∧ s.Ay < 6) (hw : ∀ u ∈ s.wait, u.length ≤ 70368744000000) (hq : Zy s.queue) : (H.set k s).Fit n m := by
 have e : ∀ j : Int, 0 ≤ j → (H.set k s).at_ j = if j = k then s else H.at_ j := fun j j0 => AI.De H h0 h1 j0 s
 refine ⟨h.FZ, fun j a b => ?_, h.last, fun j a b => ?_, fun j a b => ?_, fun j a b => ?_⟩ <;> rw [e j a] <;> split
 ·exact ht
 ·exact h.told j a b
 ·exact hb
 ·exact h.Ay j a b
 ·exact hw
 ·exact h.wait j a b
 ·exact hq
 ·exact h.queue j a b
theorem Fit.land (h : H.Fit n m) {w : AG} (hw : w.LI) : ({ H with w := w } : AI).Fit n m := ⟨hw, h.told, h.last, h.Ay, h.wait, h.queue⟩
theorem Pu (s : Ax) (u : Ap) : (s.line u).wait = s.wait ∨ (s.line u).wait = s.wait ++ [u] := by
 unfold Ax.line
 split
 ·exact .inl rfl
 ·split
  ·exact .inl rfl
  ·split
   ·exact .inl rfl
   ·exact .inr rfl
theorem Vw (s : Ax) (u : Ap) : (s.line u).state = s.state ∧ (s.line u).Ay = s.Ay ∧ (s.line u).queue = s.queue ∧ (s.line u).told = s.told := by
 unfold Ax.line
 split
 ·exact ⟨rfl, rfl, rfl, rfl⟩
 ·split
  ·exact ⟨rfl, rfl, rfl, rfl⟩
  ·split <;> exact ⟨rfl, rfl, rfl, rfl⟩
theorem GC (s : Ax) (u : Ap) : (s.tell u).state = s.state ∧ (s.tell u).Ay = s.Ay ∧ (s.tell u).queue = s.queue ∧ (s.tell u).wait = (s.line u).wait := by
 obtain ⟨a, b, c, _⟩ := Vw s u
 unfold Ax.tell Ax.note
 split
 ·exact ⟨a, b, c, rfl⟩
 ·exact ⟨a, b, c, rfl⟩
theorem Fit.tell (h : H.Fit n m) {k : Int} (h0 : 0 ≤ k) (h1 : k < 4) {u : Ap} (hu : u.length ≤ 70368744000000) : (H.tell k u).Fit (n + 1) m := by
 obtain ⟨a, b, c, d⟩ := GC (H.at_ k) u
 refine (h.mono (Nat.le_succ n) (Nat.le_refl m)).set h0 h1 (Nat.le_trans (CC _ _) (Nat.succ_le_succ (h.told k h0 h1))) (by rw [a, b]; exact h.Ay k h0 h1) (fun s hs => ?_) (by rw [c]; exact h.queue k h0 h1)
 rw [d] at hs
 rcases Pu (H.at_ k) u with e | e <;> rw [e] at hs
 ·exact h.wait k h0 h1 s hs
 ·rcases List.mem_append.1 hs with hs | hs
  ·exact h.wait k h0 h1 s hs
  ·rw [List.mem_singleton.1 hs]; exact hu
theorem Yj {e : Event} (he : AG.Small e) (b : Int) : (AG.tell e b).1.length ≤ 70368744000000 := by
 unfold AG.tell
 split
 ·exact Nat.zero_le _
 ·split
  ·exact Nat.zero_le _
  ·refine Nat.le_trans (AG.Od he (AG.PW he b) (AG.OS he b) _ _) ?_
   have := AG.Nk e b
   omega
theorem UZ {k j : Int} (h0 : 0 ≤ k) (h1 : k < 4) (j0 : 0 ≤ j) (hn : j ≠ k) (u : Ap) : (H.tell k u).at_ j = H.at_ j := by
 unfold AI.tell
 rw [AI.De H h0 h1 j0, if_neg hn]
theorem K0 (e : Event) (H : AI) : ∀ k : Nat, k ≤ 4 → ∀ j : Int, (k : Int) ≤ j → j < 4 → (CV e H k).at_ j = H.at_ j
 | 0, _, _, _, _ => rfl
 | k + 1, hk, j, h0, h1 => by
  have ih := K0 e H k (by omega) j (by omega) h1
  unfold CV
  split
  ·exact ih
  ·split
   ·rw [UZ (by omega) (by omega) (by omega) (by omega)]; exact ih
   ·exact ih
theorem Ob {e : Event} (he : AG.Small e) (h : H.Fit n m) : ∀ k : Nat, k ≤ 4 → (CV e H k).Fit (n + 1) m
 | 0, _ => h.mono (Nat.le_succ n) (Nat.le_refl m)
 | k + 1, hk => by
  have ih := Ob he h k (by omega)
  unfold CV
  split
  ·exact ih
  ·split
   ·have hr := K0 e H k (by omega) k (Int.le_refl _) (by omega)
    obtain ⟨a, b, c, d⟩ := GC ((CV e H k).at_ k) (AG.tell e ((CV e H k).at_ k).Ay).1
    unfold AI.tell
    refine ih.set (by omega) (by omega) ?_ (by rw [a, b]; exact ih.Ay k (by omega) (by omega)) (fun s hs => ?_) (by rw [c]; exact ih.queue k (by omega) (by omega))
    ·refine Nat.le_trans (CC _ _) ?_
     rw [hr]; exact Nat.succ_le_succ (h.told k (by omega) (by omega))
    ·rw [d] at hs
     rcases Pu ((CV e H k).at_ k) (AG.tell e ((CV e H k).at_ k).Ay).1 with q | q <;> rw [q] at hs
     ·exact ih.wait k (by omega) (by omega) s hs
     ·rcases List.mem_append.1 hs with hs | hs
      ·exact ih.wait k (by omega) (by omega) s hs
      ·rw [List.mem_singleton.1 hs]; exact Yj he _
   ·exact ih
theorem Pt : ∀ (es : List Event) {H : AI} {n : Nat}, (∀ e ∈ es, AG.Small e) → H.Fit n m → (H.HV es).Fit (n + es.length) m
 | [], _, _, _, h => h
 | e :: r, H, n, he, h => by
  have h1 := Ob (he e (List.mem_cons_self ..)) h 4 (Nat.le_refl 4)
  have h2 := Pt r (fun x hx => he x (List.mem_cons_of_mem _ hx)) h1
  rw [List.length_cons, show n + (r.length + 1) = n + 1 + r.length by omega]
  exact h2
theorem Fit.Gl (h : H.Fit n m) {es : List Event} (he : ∀ e ∈ es, AG.Small e) : (H.Gl es).Fit (n + es.length) (m + es.length) := by
 refine Pt (m := m + es.length) es he ?_
 exact ⟨h.FZ, h.told, by show (H.last ++ es).length ≤ _; rw [List.length_append]; exact Nat.add_le_add_right h.last _, h.Ay, h.wait, h.queue⟩
theorem Fit.free (h : H.Fit n m) {k : Int} (h0 : 0 ≤ k) (h1 : k < 4) : (H.set k default).Fit n m :=
 h.set h0 h1 (Nat.zero_le _) (fun e => absurd (show (0 : Int) = 2 from e) (by decide)) (fun u hu => by cases hu) ⟨Nat.zero_le _, fun u hu => by cases hu⟩
theorem MA : D8.text.length ≤ 1000000 := Nat.zero_le _
theorem Fit.leave (h : H.Fit n m) {k : Int} (h0 : 0 ≤ k) (h1 : k < 4) : (H.leave k).Fit (n + 11) (m + 11) := by
 unfold AI.leave
 refine Fit.free ?_ h0 h1
 split
 ·have hd := AE.J7 (b := (H.at_ k).Ay) (o := D8) h.FZ MA
  have hl := AE.NI H.w (H.at_ k).Ay D8
  exact (((h.land hd.1).free h0 h1).Gl hd.2).mono (Nat.add_le_add_left hl n) (Nat.add_le_add_left hl m)
 ·exact h.mono (Nat.le_add_right ..) (Nat.le_add_right ..)
theorem SM (ht : Int) : ∀ (l : List Ap) (x : Page.Pg), ∀ s ∈ (Page.Bb ht l x).2, s ∈ l
 | [], _, s, h => h
 | q :: r, x, s, h => by
  unfold Page.Bb at h
  split at h
  ·exact h
  ·split at h
   ·exact h
   ·exact List.mem_cons_of_mem _ (SM ht r _ s h)
theorem IM (s : Ax) : s.Bb.told = s.told ∧ s.Bb.state = s.state ∧ s.Bb.Ay = s.Ay ∧ s.Bb.queue = s.queue ∧ ∀ u ∈ s.Bb.wait, u ∈ s.wait := by
 unfold Ax.Bb
 split
 ·exact ⟨rfl, rfl, rfl, rfl, fun _ h => h⟩
 ·exact ⟨rfl, rfl, rfl, rfl, SM _ _ _⟩
theorem Fit.WQ (h : H.Fit n m) {k : Int} (h0 : 0 ≤ k) (h1 : k < 4) : (H.set k (H.at_ k).Bb).Fit n m := by
 obtain ⟨a, b, c, d, e⟩ := IM (H.at_ k)
 exact h.set h0 h1 (by rw [a]; exact h.told k h0 h1) (by rw [b, c]; exact h.Ay k h0 h1) (fun u hu => h.wait k h0 h1 u (e u hu)) (by rw [d]; exact h.queue k h0 h1)
theorem MO (h : H.Fit n m) : ∀ k : Nat, k ≤ 4 → (H.Cc k).1.Fit (n + 11 * k) (m + 11 * k)
 | 0, _ => h
 | k + 1, hk => by
  have ih := MO h k (by omega)
  unfold Cc
  split
  ·exact ih.mono (by omega) (by omega)
  ·split
   ·exact ((ih.WQ (by omega) (by omega)).leave (by omega) (by omega)).mono (by omega) (by omega)
   ·exact (ih.WQ (by omega) (by omega)).mono (by omega) (by omega)
theorem Pp : ∀ (r : Nat) {H : AI} {n m : Nat}, H.Fit n m → (H.HW r).Fit (n + 44 * r) (m + 44 * r)
 | 0, _, _, _, h => h
 | r + 1, H, n, m, h => by
  have h1 := MO h 4 (Nat.le_refl 4)
  unfold HW
  split
  ·exact h1.mono (by omega) (by omega)
  ·exact (Pp r h1).mono (by omega) (by omega)
theorem Fit.Bb (h : H.Fit n m) : H.Bb.Fit (n + 220) (m + 220) := Pp 5 h
end AI
end Go.Ing
/- A house: plain laws for the walks, on. -/
namespace Go.Ing
open Go
theorem Ih {V : AO} {ls : Vector BI 4} {ev : List Event} {k : Int} (h0 : 0 ≤ k) (h1 : k < 4) : A5 (V.BL k default) (ls.put k ⟨[], [], []⟩) ev = (A5 V ls ev).set k default := Ik V ls ev h0 h1 _ _
theorem Oo {V : AO} {ls : Vector BI 4} {ev : List Event} {w : AG} : A5 { V with w := w } ls ev = { A5 V ls ev with w := w } := rfl
theorem Qu {V V4 : AO} {ls ls4 : Vector BI 4} {ev ev4 : List Event} {k : Int} (h0 : 0 ≤ k) (h1 : k < 4) (c : (decide ((V.Az.at k).state = 2) && (V.w.AN.at (V.Az.at k).Ay).here) = true)
  (e : A5 V4 ls4 ev4 = (A5 (AO.BL { V with w := (AE.D7 V.w (V.Az.at k).Ay AI.D8).1 } k default) (ls.put k ⟨[], [], []⟩) ev).Gl (AE.D7 V.w (V.Az.at k).Ay AI.D8).2.1) :
  A5 (V4.BL k default) (ls4.put k ⟨[], [], []⟩) ev4 = (A5 V ls ev).leave k := by
 rw [Ih h0 h1, e, Ih h0 h1, Oo]
 have ha := Cm V ls ev h0 h1
 unfold AI.leave AI.Te
 rw [ha]
 rw [if_pos (show (decide ((Ck (V.Az.at k) (ls.at k)).state = 2) && ((A5 V ls ev).w.AN.at (Ck (V.Az.at k) (ls.at k)).Ay).here) = true from c)]
 rfl
theorem UT {V : AO} {ls : Vector BI 4} {ev : List Event} {k : Int} (h0 : 0 ≤ k) (h1 : k < 4) (c : (decide ((V.Az.at k).state = 2) && (V.w.AN.at (V.Az.at k).Ay).here) = false) :
  A5 (V.BL k default) (ls.put k ⟨[], [], []⟩) ev = (A5 V ls ev).leave k := by
 rw [Ih h0 h1]
 have ha := Cm V ls ev h0 h1
 unfold AI.leave
 rw [ha]
 rw [if_neg (show ¬ (decide ((Ck (V.Az.at k) (ls.at k)).state = 2) && ((A5 V ls ev).w.AN.at (Ck (V.Az.at k) (ls.at k)).Ay).here) = true by rw [show (decide ((Ck (V.Az.at k) (ls.at k)).state = 2) && ((A5 V ls ev).w.AN.at (Ck (V.Az.at k) (ls.at k)).Ay).here) = false from c]; decide)]
theorem Gi {V : AO} {ls : Vector BI 4} {ev : List Event} {n m : Nat} (h : (A5 V ls ev).Fit n m) : XR ls n := fun j j0 j1 => by
 have := h.told j j0 j1
 rw [Cm V ls ev j0 j1] at this
 exact this
theorem VS {V : AO} {ls : Vector BI 4} {ev : List Event} {n m : Nat} (h : (A5 V ls ev).Fit n m) {k : Int} (h0 : 0 ≤ k) (h1 : k < 4) : (V.Az.at k).state ≠ 2 ∨ (0 ≤ (V.Az.at k).Ay ∧ (V.Az.at k).Ay < 6) := by
 have := h.Ay k h0 h1
 rw [Cm V ls ev h0 h1] at this
 by_cases c : (V.Az.at k).state = 2
 ·exact .inr (this c)
 ·exact .inl c
theorem St.or {w0 w : World} {M : List Nat} {L : List Ad} {T TS : Nat} {h f g : Hd} {xs qs zs : List Ap} (ho : Z8 T h xs TS f qs TS g zs) (hS : St w0 M w (Ad.own g TS 1 (zs.flatMap A7) :: Ad.own f TS 1 (qs.flatMap A7) :: L)) : St w0 M w (Ad.own h TS 1 (xs.flatMap A7) :: L) := by
 rcases ho with ⟨_, rfl, rfl, _, _⟩ | ⟨_, rfl, rfl⟩
 ·exact hS.sub (List.sublist_cons_self ..)
 ·exact hS.sub (List.Sublist.cons_cons _ (List.sublist_cons_self ..))
theorem bq {n : Nat} {w0 : World} {M : List Nat} {Q : Exit → Go.Act → World → Prop} {F : List (Nat × Value)} {L : List Ad} {x : Exit} {T TS : Nat} {h f g : Hd} {xs qs zs : List Ap} (ho : Z8 T h xs TS f qs TS g zs) (k : GQ n w0 M Q x F (Ad.own h TS 1 (xs.flatMap A7) :: L)) : GQ n w0 M Q x F (Ad.own g TS 1 (zs.flatMap A7) :: Ad.own f TS 1 (qs.flatMap A7) :: L) := fun a w hF hS => k a w hF (St.or ho hS)
theorem Lr {v : A2} {l : BI} (hw : v.out.wait.len = l.wait.length) (h : (!Page.BZ v.out || decide (v.Ds.B0 < 0) || decide (200 < v.Ds.B0)) = true) : Ck v l = (Ck v l).Bb :=
 (if_pos (show (!(Ck v l).LP || decide (v.Ds.B0 < 0) || decide (200 < v.Ds.B0)) = true by rw [Iz hw]; exact h)).symm
theorem X2 {v : A2} {l : BI} (hw : v.out.wait.len = l.wait.length) (h : (!Page.BZ v.out || decide (v.Ds.B0 < 0) || decide (200 < v.Ds.B0)) = false) (w : Hd) :
  Ck { v with out := ⟨w, (Page.Bb v.Ds.B0 l.wait (Page.of v.out)).1.shown, (Page.Bb v.Ds.B0 l.wait (Page.of v.out)).1.B7, (Page.Bb v.Ds.B0 l.wait (Page.of v.out)).1.ring, (Page.Bb v.Ds.B0 l.wait (Page.of v.out)).1.cut⟩ } ⟨l.queue, (Page.Bb v.Ds.B0 l.wait (Page.of v.out)).2, l.told⟩ = (Ck v l).Bb :=
 ((if_neg (show ¬ (!(Ck v l).LP || decide (v.Ds.B0 < 0) || decide (200 < v.Ds.B0)) = true by rw [Iz hw, h]; decide)).trans rfl).symm
theorem Kl {V : AO} {ls : Vector BI 4} {ev : List Event} {c : Bool} {H : AI} {i : Int} (h0 : 0 ≤ i) (h1 : i < 4) (h : (A5 V ls ev, c) = H.Cc i.toNat) :
  H.Cc (i + 1).toNat = if decide ((V.Az.at i).state = 0) = true then (A5 V ls ev, c) else if (((A5 V ls ev).at_ i).Bb).pg.cut = true then (((A5 V ls ev).set i ((A5 V ls ev).at_ i).Bb).leave i, true) else ((A5 V ls ev).set i ((A5 V ls ev).at_ i).Bb, c) := by
 obtain ⟨m, rfl⟩ := Int.eq_ofNat_of_zero_le h0
 have ha := Cm V ls ev h0 h1
 rw [show ((m : Int) + 1).toNat = m + 1 by omega, AI.Cc]
 rw [show ((m : Int)).toNat = m by omega] at h
 rw [← h]
 rw [show decide (((A5 V ls ev).at_ (m : Int)).state = 0) = decide ((V.Az.at (m : Int)).state = 0) by rw [ha]; rfl]
theorem UO {V V' : AO} {ls ls' : Vector BI 4} {ev ev' : List Event} {i : Int} (h0 : 0 ≤ i) (h1 : i < 4) {s : Ax} (e : A5 V' ls' ev' = (A5 V ls ev).set i s) : (V'.Az.at i).out.cut = s.pg.cut := by
 have h := congrArg (fun H => (AI.at_ H i).pg.cut) e
 rw [Cm V' ls' ev' h0 h1, AI.De _ h0 h1 h0, if_pos rfl] at h
 exact h
theorem Nj {X : AI} {k : Int} (h0 : 0 ≤ k) (h1 : k < 5) : X.HW (5 - k).toNat = if (!(X.Cc 4).2) = true then (X.Cc 4).1 else (X.Cc 4).1.HW (5 - (k + 1)).toNat := by
 rw [show (5 - k).toNat = (5 - (k + 1)).toNat + 1 by omega, AI.HW]
theorem P7 {H : AI} {n m : Nat} (h : H.Fit n m) {V : AO} {ls : Vector BI 4} {ev : List Event} {c : Bool} {i : Int} (h0 : 0 ≤ i) (h1 : i ≤ 4) (e : (A5 V ls ev, c) = H.Cc i.toNat) : (A5 V ls ev).Fit (n + 44) (m + 44) := by
 have := AI.MO h i.toNat (by omega)
 rw [← e] at this
 exact this.mono (by omega) (by omega)
theorem Xq {V : AO} {ls : Vector BI 4} {ev : List Event} {n m : Nat} (h : (A5 V ls ev).Fit n m) {k : Int} (h0 : 0 ≤ k) (h1 : k < 4) : ∀ s ∈ (ls.at k).wait, s.length ≤ 70368744000000 := by
 have := h.wait k h0 h1
 rw [Cm V ls ev h0 h1] at this
 exact this
end Go.Ing
/- A house: who comes, and what is typed: plain laws for the walks. -/
namespace Go.Ing
open Go
namespace Words
def NW (N : Nat) (o : Order) : Prop := o.name.length ≤ N ∧ o.second.length ≤ N ∧ o.text.length ≤ N
theorem FV (N : Nat) : NW N default := ⟨Nat.zero_le _, Nat.zero_le _, Nat.zero_le _⟩
theorem Ww (u p : Ap) : (Mq u p).1.length ≤ u.length := by
 unfold Mq
 split
 ·exact Nat.le_refl _
 ·show (List.drop _ u).length ≤ _
  rw [List.length_drop]; omega
theorem Xd (u : Ap) : (ED u).2.1.length ≤ u.length := by
 unfold ED
 split
 ·exact Nat.zero_le _
 ·split
  ·exact Ww u _
  ·split
   ·split
    ·exact Nat.zero_le _
    ·exact Nat.le_refl _
   ·unfold PN
    have := (ND 46 u).2
    split
    ·split
     ·exact Nat.zero_le _
     ·exact this
    ·exact Nat.zero_le _
theorem W4 {N : Nat} {o : Order} {j : Ap × Bool} {W : List Ap} {m : Nat} (h : NW N o) (hw : (W.getD 0 []).length ≤ N) : NW N (Q7 o j W m).1 := by
 unfold Q7
 split
 ·exact h
 ·split
  ·exact FV N
  ·exact ⟨h.1, hw, h.2.2⟩
theorem Zf {N : Nat} {o : Order} {j : Ap × Bool} {W : List Ap} {m : Nat} (h : NW N o) (hw : ∀ i, (W.getD i []).length ≤ N) : NW N (To o j W m).1 := by
 unfold To
 split
 ·split
  ·exact FV N
  ·refine W4 h ?_
   have := hw 1
   rw [List.getD_eq_getElem?_getD, List.getElem?_drop, ← List.getD_eq_getElem?_getD]
   exact this
 ·exact W4 h (hw 0)
theorem WW {N : Nat} {v : Int} {W : List Ap} {m : Nat} (hw : ∀ i, (W.getD i []).length ≤ N) : NW N (QP v W m).1 := by
 unfold QP
 split
 ·exact FV N
 ·refine Zf ⟨Nat.le_trans (Xd _) (hw 0), Nat.zero_le _, Nat.zero_le _⟩ (fun i => ?_)
  rw [List.getD_eq_getElem?_getD, List.getElem?_drop, ← List.getD_eq_getElem?_getD]
  exact hw (1 + i)
theorem SD (i : Nat) : (AG.GS.getD i []).length ≤ 20 := by
 rw [List.getD_eq_getElem?_getD]
 cases h : AG.GS[i]? with
 | none => exact Nat.zero_le _
 | some w =>
  have hm : w ∈ AG.GS := List.mem_of_getElem? h
  have : ∀ w ∈ AG.GS, w.length ≤ 20 := by decide
  exact this w hm
theorem JV (s : Ap) : NW (s.length + 20) (parse s).1 := by
 have hw : ∀ i, (((words s).drop 1).getD i []).length ≤ s.length + 20 := fun i => Nat.le_trans (MU s i 1) (by omega)
 unfold parse
 split
 ·exact FV _
 ·split
  ·exact FV _
  ·unfold Xj
   split
   ·split
    ·exact FV _
    ·refine ⟨Nat.zero_le _, Nat.zero_le _, ?_⟩
     show (said s).length ≤ _
     unfold said
     have h1 := Lv 32 (Re 32 (cut 32 (P5 32 s)).2.1)
     have h2 := QO 32 (cut 32 (P5 32 s)).2.1
     have h3 := (ND 32 (P5 32 s)).2
     have h4 := Lv 32 s
     omega
   ·split
    ·split
     ·exact FV _
     ·exact ⟨Nat.zero_le _, Nat.zero_le _, Nat.zero_le _⟩
    ·split
     ·exact FV _
     ·split
      ·split
       ·exact ⟨Nat.le_trans (SD _) (by omega), Nat.zero_le _, Nat.zero_le _⟩
       ·exact WW hw
      ·exact WW hw
end Words
theorem VY {V : AO} {ls : Vector BI 4} {ev : List Event} {n m : Nat} (h : (A5 V ls ev).Fit n m) {k : Int} (h0 : 0 ≤ k) (h1 : k < 4) : AI.Zy (ls.at k).queue := by
 have := h.queue k h0 h1
 rw [Cm V ls ev h0 h1] at this
 exact this
theorem AI.LS (H : AI) {k : Int} (h0 : 0 ≤ k) (h1 : k < 4) : H.set k (H.at_ k) = H := by
 unfold AI.set AI.at_
 rw [Vector.RF _ h0 h1]
theorem R0 {X : AG} {s : Ap} (h : (AE.BW X s).2.2.2 = 0) : 0 ≤ (AE.BW X s).2.1 ∧ (AE.BW X s).2.1 < 6 := by
 have hf := AE.MZ X 6 (Nat.le_refl 6)
 unfold AE.BW at h ⊢
 split
 ·exact ⟨Int.le_refl 0, show (0 : Int) < 6 by decide⟩
 ·split
  ·exact ⟨Int.le_refl 0, show (0 : Int) < 6 by decide⟩
  ·split
   ·exact ⟨Int.le_refl 0, show (0 : Int) < 6 by decide⟩
   ·split
    ·rename_i h1 h2 h3 h4
     rw [if_neg h1, if_neg h2, if_neg h3, if_pos h4] at h
     exact absurd h (show ¬ (4 : Int) = 0 by decide)
    ·rename_i h4
     show 0 ≤ AE.CI X 6 ∧ AE.CI X 6 < 6
     rw [decide_eq_true_eq] at h4
     omega
namespace AI
variable {H : AI} {n m : Nat}
theorem Fit.enters (h : H.Fit n m) {k : Int} (h0 : 0 ≤ k) (h1 : k < 4) {u : Ap} (c : (AE.BW H.w u).2.2.2 = 0) : (({ H with w := (AE.BW H.w u).1 } : AI).set k { H.at_ k with state := 2, Ay := (AE.BW H.w u).2.1 }).Fit n m := by
 have hs := AE.Iq (s := u) h.FZ
 exact (h.land hs.1).set h0 h1 (h.told k h0 h1) (fun _ => R0 c) (h.wait k h0 h1) (h.queue k h0 h1)
theorem Fit.named (h : H.Fit n m) {k : Int} (h0 : 0 ≤ k) (h1 : k < 4) (u : Ap) : (H.named k u).Fit (n + 11) (m + 11) := by
 unfold AI.named
 split
 ·rename_i c
  have hs := AE.Iq (s := u) h.FZ
  have hl := AE.P1 H.w u
  exact ((h.enters h0 h1 (of_decide_eq_true c)).Gl hs.2).mono (by omega) (by omega)
 ·split
  ·exact (h.tell h0 h1 (show noRoom.length ≤ _ by decide)).mono (by omega) (by omega)
  ·exact (h.tell h0 h1 (show Qj.length ≤ _ by decide)).mono (by omega) (by omega)
theorem Fit.order (h : H.Fit n m) {k : Int} (h0 : 0 ≤ k) (h1 : k < 4) {u : Ap} (hu : u.length ≤ 1000) : (H.order k u).Fit (n + 11) (m + 11) := by
 unfold AI.order
 split
 ·exact (h.tell h0 h1 (show Z0.length ≤ _ by decide)).mono (by omega) (by omega)
 ·split
  ·exact h.leave h0 h1
  ·have hp := Words.JV u
   have hd := AE.J7 (b := (H.at_ k).Ay) (o := (Words.parse u).1) h.FZ (by have := hp.2.2; omega)
   have hl := AE.NI H.w (H.at_ k).Ay (Words.parse u).1
   exact ((h.land hd.1).Gl hd.2).mono (by omega) (by omega)
theorem Fit.Fh (h : H.Fit n m) {k : Int} (h0 : 0 ≤ k) (h1 : k < 4) {q : Ap} {r : List Ap} (e : (H.at_ k).queue = q :: r) : (H.set k { H.at_ k with queue := r }.Fh).Fit n m :=
 h.set h0 h1 (h.told k h0 h1) (h.Ay k h0 h1) (h.wait k h0 h1) (by
  have hq := h.queue k h0 h1
  rw [e] at hq
  exact ⟨Nat.le_of_succ_le hq.1, fun u hu => hq.2 u (List.mem_cons_of_mem _ hu)⟩)
theorem Fit.EI (h : H.Fit n m) {k : Int} (h0 : 0 ≤ k) (h1 : k < 4) : (H.EI k).Fit (n + 11) (m + 11) := by
 unfold AI.EI
 split
 ·exact h.mono (by omega) (by omega)
 ·split
  ·exact h.mono (by omega) (by omega)
  ·rename_i q r e
   have ht := h.Fh h0 h1 e
   have hq := (h.queue k h0 h1).2 q (by rw [e]; exact List.mem_cons_self ..)
   simp only []
   split
   ·exact ht.mono (by omega) (by omega)
   ·split
    ·exact ht.named h0 h1 _
    ·exact ht.order h0 h1 (by omega)
theorem J6 (h : H.Fit n m) : ∀ k : Nat, k ≤ 4 → (H.turns k).Fit (n + 11 * k) (m + 11 * k)
 | 0, _ => h
 | k + 1, hk => by
  have ih := J6 h k (by omega)
  unfold AI.turns
  exact (ih.EI (by omega) (by omega)).mono (by omega) (by omega)
end AI
theorem Ya {V V3 V4 : AO} {ls ls3 ls4 : Vector BI 4} {ev ev4 : List Event} {k : Int} {u : Ap} (c : decide ((AE.BW V.w u).2.2.2 = 0) = true)
  (e3 : A5 V3 ls3 ev = ({ A5 V ls ev with w := (AE.BW V.w u).1 } : AI).set k { (A5 V ls ev).at_ k with state := 2, Ay := (AE.BW V.w u).2.1 })
  (e : A5 V4 ls4 ev4 = (A5 V3 ls3 ev).Gl (AE.BW V.w u).2.2.1) : A5 V4 ls4 ev4 = (A5 V ls ev).named k u := by
 rw [e, e3]
 exact (if_pos c).symm
theorem YF {V V4 : AO} {ls ls4 : Vector BI 4} {ev ev4 : List Event} {k : Int} {u : Ap} (c : decide ((AE.BW V.w u).2.2.2 = 0) = false) (c2 : decide ((AE.BW V.w u).2.2.2 = 4) = true)
  (e : A5 V4 ls4 ev4 = (A5 V ls ev).tell k AI.noRoom) : A5 V4 ls4 ev4 = (A5 V ls ev).named k u := e.trans ((if_neg (by show ¬ decide ((AE.BW V.w u).2.2.2 = 0) = true; rw [c]; decide)).trans (if_pos c2)).symm
theorem Yc {V V4 : AO} {ls ls4 : Vector BI 4} {ev ev4 : List Event} {k : Int} {u : Ap} (c : decide ((AE.BW V.w u).2.2.2 = 0) = false) (c2 : decide ((AE.BW V.w u).2.2.2 = 4) = false)
  (e : A5 V4 ls4 ev4 = (A5 V ls ev).tell k AI.Qj) : A5 V4 ls4 ev4 = (A5 V ls ev).named k u := e.trans ((if_neg (by show ¬ decide ((AE.BW V.w u).2.2.2 = 0) = true; rw [c]; decide)).trans (if_neg (by show ¬ decide ((AE.BW V.w u).2.2.2 = 4) = true; rw [c2]; decide))).symm
theorem Tx {V V4 : AO} {ls ls4 : Vector BI 4} {ev ev4 : List Event} {k : Int} {u : Ap} (h0 : 0 ≤ k) (h1 : k < 4) (c : (!decide ((Words.parse u).2 = 0)) = false) (c2 : decide ((Words.parse u).1.verb = 20) = false)
  (e : A5 V4 ls4 ev4 = (A5 { V with w := (AE.D7 V.w (V.Az.at k).Ay (Words.parse u).1).1 } ls ev).Gl (AE.D7 V.w (V.Az.at k).Ay (Words.parse u).1).2.1) : A5 V4 ls4 ev4 = (A5 V ls ev).order k u := by
 rw [e, Oo]
 have ha := Cm V ls ev h0 h1
 unfold AI.order
 rw [if_neg (by rw [c]; decide), if_neg (by rw [c2]; decide), ha]
 rfl
theorem Vn {V : AO} {ls : Vector BI 4} {ev : List Event} {k : Int} (h0 : 0 ≤ k) (h1 : k < 4) (c : decide ((V.Az.at k).state = 0) = true) : A5 V ls ev = (A5 V ls ev).EI k := by
 have ha := Cm V ls ev h0 h1
 exact (if_pos (show decide (((A5 V ls ev).at_ k).state = 0) = true by rw [ha]; exact c)).symm
theorem VM {V : AO} {ls : Vector BI 4} {ev : List Event} {k : Int} (h0 : 0 ≤ k) (h1 : k < 4) {sv : A2} {sl : BI} (hs : V.Az.at k = sv) (hl : ls.at k = sl) (hq : sl.queue = []) (c : decide ((V.Az.at k).state = 0) = false) :
  A5 (V.BL k sv) (ls.put k ⟨sl.queue, sl.wait, sl.told⟩) ev = (A5 V ls ev).EI k := by
 have ha := Cm V ls ev h0 h1
 rw [Ec h0 h1 hs hl (f := fun x => x) rfl, AI.LS _ h0 h1]
 unfold AI.EI
 rw [if_neg (show ¬ decide (((A5 V ls ev).at_ k).state = 0) = true by rw [ha]; show ¬ decide ((V.Az.at k).state = 0) = true; rw [c]; decide)]
 have e : ((A5 V ls ev).at_ k).queue = [] := by rw [ha, hl]; exact hq
 split
 ·rfl
 ·rename_i q r e2; rw [e] at e2; cases e2
theorem DZ {V : AO} {ls : Vector BI 4} {ev : List Event} {k : Int} (h0 : 0 ≤ k) (h1 : k < 4) {sv : A2} {sl : BI} (hs : V.Az.at k = sv) (hl : ls.at k = sl) {q : Ap} {r : List Ap} (hq : sl.queue = q :: r) (c : decide ((V.Az.at k).state = 0) = false) (h' : Hd) :
  A5 (V.BL k { sv with EW := ⟨sv.EW.now, sv.EW.Cs, sv.EW.ret, h'⟩, out := ⟨sv.out.wait, 0, false, sv.out.ring, sv.out.cut⟩ }) (ls.put k ⟨r, sl.wait, sl.told⟩) ev = (A5 V ls ev).set k { (A5 V ls ev).at_ k with queue := r }.Fh ∧ ((A5 V ls ev).at_ k).queue = q :: r ∧
  (A5 V ls ev).EI k = if sv.out.B7 = true then (A5 V ls ev).set k { (A5 V ls ev).at_ k with queue := r }.Fh else if decide (sv.state = 1) = true then ((A5 V ls ev).set k { (A5 V ls ev).at_ k with queue := r }.Fh).named k (Words.P5 32 (Words.Re 32 q)) else ((A5 V ls ev).set k { (A5 V ls ev).at_ k with queue := r }.Fh).order k q := by
 have ha := Cm V ls ev h0 h1
 have e : ((A5 V ls ev).at_ k).queue = q :: r := by rw [ha, hl]; exact hq
 refine ⟨Ec h0 h1 hs hl (f := fun x => { x with queue := r }.Fh) rfl, e, ?_⟩
 unfold AI.EI
 rw [if_neg (show ¬ decide (((A5 V ls ev).at_ k).state = 0) = true by rw [ha]; show ¬ decide ((V.Az.at k).state = 0) = true; rw [c]; decide)]
 split
 ·rename_i e2; rw [e] at e2; cases e2
 ·rename_i q' r' e2
  rw [e] at e2
  obtain ⟨rfl, rfl⟩ := List.cons.inj e2
  have e3 : ((A5 V ls ev).at_ k).pg.B7 = sv.out.B7 := by rw [ha, hs]; rfl
  have e4 : ((A5 V ls ev).at_ k).state = sv.state := by rw [ha, hs]; rfl
  simp only [e3, e4]
theorem TB {H : AI} {i : Int} (h0 : 0 ≤ i) : H.turns (i + 1).toNat = (H.turns i.toNat).EI i := by
 obtain ⟨m, rfl⟩ := Int.eq_ofNat_of_zero_le h0
 rfl
end Go.Ing
/- A house: who comes, bytes that come: plain laws for the walks. -/
namespace Go.Ing
open Go
def Ye : Hd := ⟨none, 0, 0⟩
def EL (t : AP) (g : Page.Pg) : A2 := ⟨1, -1, t, ⟨[], false, false, Ye⟩, ⟨Ye, g.shown, g.B7, g.ring, g.cut⟩, Ye⟩
def YJ : BI := ⟨[], [], []⟩
theorem Rp {v : A2} {l : BI} {u : Ap} (hw : v.out.wait.len = l.wait.length) : (Ck v l).send u = Ck { v with out := ⟨v.out.wait, (Page.send v.out u).1.shown, (Page.send v.out u).1.B7, (Page.send v.out u).1.ring, (Page.send v.out u).1.cut⟩ } l := by
 unfold Ax.send Page.send
 rw [Iz hw]
 cases h : Page.BZ v.out with
 | false => rfl
 | true =>
  have e : (Ck v l).pg.cut = v.out.cut := rfl
  cases hc : v.out.cut with
  | true => rw [e, hc]; show Ck v l = Ck { v with out := ⟨v.out.wait, v.out.shown, v.out.B7, v.out.ring, v.out.cut⟩ } l; rfl
  | false => rw [e, hc]; rfl
def H4 (t : AP) (opt : Int) : AP := if decide ((t.DG opt).2.1 = []) = true then ((t.DG opt).1.Ask opt).1 else (t.DG opt).1
def MG (t : AP) (opt : Int) : Ap := if decide ((t.DG opt).2.1 = []) = true then (t.DG opt).2.1 ++ ((t.DG opt).1.Ask opt).2.1 else (t.DG opt).2.1 ++ []
def K6 (t : AP) (g : Page.Pg) (opt : Int) : Page.Pg := (Page.send ⟨Ye, g.shown, g.B7, g.ring, g.cut⟩ (MG t opt)).1
theorem Mi (t : AP) (g : Page.Pg) (opt : Int) : (Ck (EL t g) YJ).offer opt = Ck (EL (H4 t opt) (K6 t g opt)) YJ := by
 have h := Rp (v := EL (H4 t opt) g) (l := YJ) (u := MG t opt) rfl
 unfold Ax.offer
 have e : (Ck (EL t g) YJ).Ds = t := rfl
 rw [e]
 by_cases c : decide ((t.DG opt).2.1 = []) = true
 ·rw [if_pos c]
  have e1 : H4 t opt = ((t.DG opt).1.Ask opt).1 := if_pos c
  have e2 : MG t opt = [] ++ ((t.DG opt).1.Ask opt).2.1 := (if_pos c).trans (by rw [of_decide_eq_true c])
  rw [← e1, ← e2]
  exact h
 ·rw [if_neg c]
  have e1 : H4 t opt = (t.DG opt).1 := if_neg c
  have e2 : MG t opt = (t.DG opt).2.1 ++ [] := if_neg c
  rw [← e1, ← e2]
  exact h
def Dp (j : Int) : Int := (((Vector.replicate 2 (default : Int)).put 0 3).put 1 31).at j
def El : Nat → AP × Page.Pg
 | 0 => (default, ⟨0, false, [], false⟩)
 | j + 1 => (H4 (El j).1 (Dp j), K6 (El j).1 (El j).2 (Dp j))
theorem HC {j : Int} (h0 : 0 ≤ j) : El (j + 1).toNat = (H4 (El j.toNat).1 (Dp j), K6 (El j.toNat).1 (El j.toNat).2 (Dp j)) := by
 obtain ⟨m, rfl⟩ := Int.eq_ofNat_of_zero_le h0
 rfl
theorem OJ : Ck (EL (El 2).1 (El 2).2) YJ = (({ (default : Ax) with state := 1, Ay := -1 }).offer 3).offer 31 := by
 have h0 : ({ (default : Ax) with state := 1, Ay := -1 } : Ax) = Ck (EL (El 0).1 (El 0).2) YJ := rfl
 rw [h0, Mi, Mi]
 rfl
theorem FU (t : AP) (opt : Int) : (t.DG opt).2.1.length ≤ 3 := by
 unfold AP.DG
 split
 ·exact Nat.zero_le _
 ·split
  ·exact Nat.zero_le _
  ·split
   ·exact Nat.zero_le _
   ·exact Nat.le_refl 3
theorem Hv (t : AP) (opt : Int) : (t.Ask opt).2.1.length ≤ 3 := by
 unfold AP.Ask
 split
 ·exact Nat.zero_le _
 ·split
  ·exact Nat.zero_le _
  ·split
   ·exact Nat.zero_le _
   ·exact Nat.le_refl 3
theorem AI.Fit.comes {H : AI} {n m : Nat} (h : H.Fit n m) {k : Int} (h0 : 0 ≤ k) (h1 : k < 4) (t : AP) (g : Page.Pg) : (H.set k (Ck (EL t g) YJ)).Fit n m :=
 h.set h0 h1 (Nat.zero_le _) (fun e => absurd (show (1 : Int) = 2 from e) (by decide)) (fun u hu => by cases hu) ⟨Nat.zero_le _, fun u hu => by cases hu⟩
theorem AI.Fit.Jw {H : AI} {n m : Nat} (h : H.Fit n m) {k : Int} (h0 : 0 ≤ k) (h1 : k < 4) : (H.Jw k).Fit (n + 221) (m + 220) := by
 unfold AI.Jw
 rw [← OJ]
 exact ((h.comes h0 h1 _ _).tell h0 h1 (show AI.Hj.length ≤ _ by decide)).Bb.mono (by omega) (by omega)
end Go.Ing
/- A house: an act: plain laws for the walks. -/
namespace Go.Ing
open Go
theorem Pa {v : A2} {l : BI} (h : v.EW.queue.len = l.queue.length) : (Ck v l).K9 = Bf.BZ v.EW l.queue := by
 unfold Ax.K9 Bf.BZ Bf.I3
 rw [h]; rfl
theorem Ux {v : A2} {l : BI} {u : Ap} (h : v.EW.queue.len = l.queue.length) (c : Bf.BZ v.EW l.queue = false) : (Ck v l).typed u = (Ck v l, 0) := if_pos (by rw [Pa h, c]; rfl)
theorem Xi {v : A2} {l : BI} {u : Ap} (h : v.EW.queue.len = l.queue.length) (c : Bf.BZ v.EW l.queue = true) (q : Hd) :
  (Ck v l).typed u = (Ck { v with EW := ⟨(Bf.feed (Bf.start v.EW l.queue) u).now, (Bf.feed (Bf.start v.EW l.queue) u).Cs, (Bf.feed (Bf.start v.EW l.queue) u).ret, q⟩ } ⟨(Bf.feed (Bf.start v.EW l.queue) u).queue, l.wait, l.told⟩, (Bf.feed (Bf.start v.EW l.queue) u).lost) :=
 (if_neg (by rw [Pa h, c]; decide)).trans rfl
theorem SC (s : Ax) (u : Ap) : (s.typed u).1.told = s.told ∧ (s.typed u).1.state = s.state ∧ (s.typed u).1.Ay = s.Ay ∧ (s.typed u).1.wait = s.wait ∧ (AI.Zy s.queue → AI.Zy (s.typed u).1.queue) := by
 unfold Ax.typed
 split
 ·exact ⟨rfl, rfl, rfl, rfl, fun h => h⟩
 ·rename_i c
  refine ⟨rfl, rfl, rfl, rfl, fun _ => ?_⟩
  have hg : Bf.BZ ⟨s.now, s.Cs, s.ret, ⟨none, s.queue.length, 0⟩⟩ s.queue = true := by
   have : s.K9 = true := by simpa using c
   exact this
  have ho := Bf.UM u ((Bf.HI (l := ⟨s.now, s.Cs, s.ret, ⟨none, s.queue.length, 0⟩⟩) rfl).1 hg)
  exact ⟨ho.len, fun q hq => ((Bf.F5 q).1 (ho.queue q hq)).1⟩
theorem Ny (s : Ax) (u : Ap) : (s.send u).told = s.told ∧ (s.send u).state = s.state ∧ (s.send u).Ay = s.Ay ∧ (s.send u).wait = s.wait ∧ (s.send u).queue = s.queue := by
 unfold Ax.send
 split
 ·exact ⟨rfl, rfl, rfl, rfl, rfl⟩
 ·split <;> exact ⟨rfl, rfl, rfl, rfl, rfl⟩
def C1 (s : Ax) (u : Ap) : Ax × Int := (s.bytes u).1.typed (s.bytes u).2
theorem Ff (s : Ax) (u : Ap) : (C1 s u).1.told = s.told ∧ (C1 s u).1.state = s.state ∧ (C1 s u).1.Ay = s.Ay ∧ (C1 s u).1.wait = s.wait ∧ (AI.Zy s.queue → AI.Zy (C1 s u).1.queue) := by
 have h1 := SC (s.bytes u).1 (s.bytes u).2
 have h2 := Ny { s with Ds := (s.Ds.Db u).1 } (s.Ds.Db u).2.2.1
 obtain ⟨a, b, c, d, e⟩ := h1
 obtain ⟨a', b', c', d', e'⟩ := h2
 exact ⟨a.trans a', b.trans b', c.trans c', d.trans d', fun hq => e (by rw [show (s.bytes u).1.queue = s.queue from e']; exact hq)⟩
theorem Ij (H : AI) (k : Int) (u : Ap) : H.byte k u = (if decide (0 < (C1 (H.at_ k) u).2) = true then (H.set k (C1 (H.at_ k) u).1).tell k AI.Ox else H.set k (C1 (H.at_ k) u).1).Bb := rfl
def heard (v : A2) (u : Ap) : A2 := { v with Ds := (v.Ds.Db u).1, out := ⟨v.out.wait, (Page.send v.out (v.Ds.Db u).2.2.1).1.shown, (Page.send v.out (v.Ds.Db u).2.2.1).1.B7, (Page.send v.out (v.Ds.Db u).2.2.1).1.ring, (Page.send v.out (v.Ds.Db u).2.2.1).1.cut⟩ }
theorem Pb {v : A2} {l : BI} {u : Ap} (hw : v.out.wait.len = l.wait.length) : (Ck v l).bytes u = (Ck (heard v u) l, (v.Ds.Db u).2.1) := by
 unfold Ax.bytes
 exact congrArg (fun x => (x, _)) (Rp (v := { v with Ds := (v.Ds.Db u).1 }) (l := l) (u := (v.Ds.Db u).2.2.1) hw)
theorem HZ {v : A2} {l : BI} {u : Ap} (hw : v.out.wait.len = l.wait.length) (h : v.EW.queue.len = l.queue.length) (c : Bf.BZ v.EW l.queue = false) : C1 (Ck v l) u = (Ck (heard v u) l, 0) := by
 unfold C1
 rw [Pb hw]
 exact Ux (v := heard v u) h c
theorem IJ {v : A2} {l : BI} {u : Ap} (hw : v.out.wait.len = l.wait.length) (h : v.EW.queue.len = l.queue.length) (c : Bf.BZ v.EW l.queue = true) (q : Hd) :
  C1 (Ck v l) u = (Ck { heard v u with EW := ⟨(Bf.feed (Bf.start v.EW l.queue) (v.Ds.Db u).2.1).now, (Bf.feed (Bf.start v.EW l.queue) (v.Ds.Db u).2.1).Cs, (Bf.feed (Bf.start v.EW l.queue) (v.Ds.Db u).2.1).ret, q⟩ } ⟨(Bf.feed (Bf.start v.EW l.queue) (v.Ds.Db u).2.1).queue, l.wait, l.told⟩, (Bf.feed (Bf.start v.EW l.queue) (v.Ds.Db u).2.1).lost) := by
 unfold C1
 rw [Pb hw]
 exact Xi (v := heard v u) h c q
namespace AI
variable {H : AI} {n m : Nat}
theorem RJ {i : Int} (h0 : 0 ≤ i) : H.EY (i + 1).toNat = (H.EY i.toNat).set i { (H.EY i.toNat).at_ i with told := [] } := by
 obtain ⟨k, rfl⟩ := Int.eq_ofNat_of_zero_le h0
 rfl
theorem G6 : ∀ k : Nat, (H.EY k).w = H.w ∧ (H.EY k).last = H.last ∧ (H.EY k).B8 = H.B8
 | 0 => ⟨rfl, rfl, rfl⟩
 | k + 1 => G6 k
theorem Oz : ∀ k : Nat, k ≤ 4 → ∀ j : Int, 0 ≤ j → j < 4 → (H.EY k).at_ j = if j < k then { H.at_ j with told := [] } else H.at_ j
 | 0, _, j, j0, _ => by rw [if_neg (by omega)]; rfl
 | k + 1, hk, j, j0, j1 => by
  have ih := Oz k (by omega)
  show (((H.EY k).set k _).at_ j) = _
  rw [De _ (by omega) (by omega) j0]
  by_cases c : j = (k : Int)
  ·subst c
   rw [if_pos rfl, if_pos (by omega), ih _ j0 j1, if_neg (by omega)]
  ·rw [if_neg c, ih j j0 j1]
   by_cases c2 : j < (k : Int)
   ·rw [if_pos c2, if_pos (by omega)]
   ·rw [if_neg c2, if_neg (by omega)]
theorem JN {j : Int} (j0 : 0 ≤ j) (j1 : j < 4) : H.begun.at_ j = { H.at_ j with told := [] } := by
 have := Oz (H := { H with B8 := H.B8 + 1, last := [] }) 4 (Nat.le_refl 4) j j0 j1
 rw [if_pos (by omega)] at this
 exact this
theorem Fit.begun (h : H.Fit n m) : H.begun.Fit 0 0 := by
 have hs := G6 (H := { H with B8 := H.B8 + 1, last := [] }) 4
 refine ⟨by show (EY _ 4).w.LI; rw [hs.1]; exact h.FZ, fun j a b => ?_, by show (EY _ 4).last.length ≤ 0; rw [hs.2.1]; exact Nat.le_refl 0, fun j a b => ?_, fun j a b => ?_, fun j a b => ?_⟩ <;> rw [JN a b]
 ·exact Nat.le_refl 0
 ·exact h.Ay j a b
 ·exact h.wait j a b
 ·exact h.queue j a b
theorem Fit.typed (h : H.Fit n m) {k : Int} (h0 : 0 ≤ k) (h1 : k < 4) (u : Ap) : (H.set k (C1 (H.at_ k) u).1).Fit n m := by
 obtain ⟨a, b, c, d, e⟩ := Ff (H.at_ k) u
 exact h.set h0 h1 (by rw [a]; exact h.told k h0 h1) (by rw [b, c]; exact h.Ay k h0 h1) (by rw [d]; exact h.wait k h0 h1) (e (h.queue k h0 h1))
theorem Fit.Gy (h : H.Fit n m) {k : Int} (h0 : 0 ≤ k) (h1 : k < 4) (z : Int) : (H.set k ((H.at_ k).Gy z)).Fit n m :=
 h.set h0 h1 (h.told k h0 h1) (h.Ay k h0 h1) (h.wait k h0 h1) (h.queue k h0 h1)
theorem Fit.N1 (h : H.Fit n m) (d : Int) : (H.N1 d).Fit (n + 400) (m + 400) := by
 have h1 := J6 h 4 (Nat.le_refl 4)
 have hr := AE.LA (draw := d) h1.FZ
 have hl := AE.QH h1.FZ.HP d
 exact (((h1.land hr.1).Gl hr.2).Bb).mono (by omega) (by omega)
theorem Fit.byte (h : H.Fit 0 0) {k : Int} (h0 : 0 ≤ k) (h1 : k < 4) (u : Ap) : (H.byte k u).Fit 1000 1000 := by
 rw [Ij]
 refine (Fit.Bb (n := 1) (m := 0) ?_).mono (by omega) (by omega)
 split
 ·exact (h.typed h0 h1 _).tell h0 h1 (show Ox.length ≤ _ by decide)
 ·exact (h.typed h0 h1 _).mono (by omega) (by omega)
theorem JB (P : AI → Prop) (h0 : P H) (hp : ∀ d, P (H.N1 d)) (hc : ∀ k, 0 ≤ k → k < 4 → P (H.Jw k)) (hb : ∀ k u, 0 ≤ k → k < 4 → P (H.byte k u)) (ht : ∀ k z, 0 ≤ k → k < 4 → P ((H.set k ((H.at_ k).Gy z)).Bb)) (hl : ∀ k, 0 ≤ k → k < 4 → P (H.leave k).Bb) (a : Bz) : P (H.Dy a).1 := by
 unfold AI.Dy
 split
 ·dsimp only; exact hp a.n
 ·split
  ·dsimp only; exact h0
  ·split
   ·dsimp only; exact h0
   ·rename_i c
    have hs : 0 ≤ a.BL ∧ a.BL < 4 := by simp only [Bool.or_eq_true, decide_eq_true_eq] at c; omega
    split
    ·dsimp only; exact h0
    ·split
     ·dsimp only; exact hc _ hs.1 hs.2
     ·split
      ·dsimp only; exact hb _ _ hs.1 hs.2
      ·split
       ·dsimp only; exact ht _ _ hs.1 hs.2
       ·dsimp only; exact hl _ hs.1 hs.2
theorem Fit.Dy (h : H.Fit 0 0) (a : Bz) : (H.Dy a).1.Fit 1000 1000 :=
 JB (fun X => X.Fit 1000 1000) (h.mono (by omega) (by omega)) (fun d => (h.N1 d).mono (by omega) (by omega)) (fun k h0 h1 => (h.Jw h0 h1).mono (by omega) (by omega)) (fun k u h0 h1 => h.byte h0 h1 u)
  (fun k z h0 h1 => ((h.Gy h0 h1 z).Bb).mono (by omega) (by omega)) (fun k h0 h1 => ((h.leave h0 h1).Bb).mono (by omega) (by omega)) a
theorem Fit.act (h : H.Fit n m) (a : Bz) : (H.act a).1.Fit (n + 1000) (m + 1000) := by
 unfold AI.act
 split
 ·exact h.mono (by omega) (by omega)
 ·exact (h.begun.Dy a).mono (by omega) (by omega)
theorem Gq {H : AI} (c : decide (400 ≤ H.B8) = false) (a : Bz) : H.act a = H.begun.Dy a := if_neg (by rw [c]; decide)
end AI
theorem GW (V : AO) (ls : Vector BI 4) (ev : List Event) {k : Int} (h0 : 0 ≤ k) (h1 : k < 4) : decide (((A5 V ls ev).at_ k).state = 0) = decide ((V.Az.at k).state = 0) := by rw [Cm V ls ev h0 h1]; rfl
theorem E6 {V : AO} {ls : Vector BI 4} {ev : List Event} {k : Int} (h0 : 0 ≤ k) (h1 : k < 4) {sv v : A2} {sl l : BI} (hs : V.Az.at k = sv) (hl : ls.at k = sl) {u : Ap} {z : Int} (e : C1 (Ck sv sl) u = (Ck v l, z)) :
  A5 (V.BL k v) (ls.put k l) ev = (A5 V ls ev).set k (C1 ((A5 V ls ev).at_ k) u).1 ∧ (C1 ((A5 V ls ev).at_ k) u).2 = z := by
 have ha : C1 ((A5 V ls ev).at_ k) u = (Ck v l, z) := by rw [Cm V ls ev h0 h1, hs, hl]; exact e
 rw [Ik V ls ev h0 h1, ha]
 exact ⟨rfl, rfl⟩
theorem Ie {V V2 : AO} {ls ls2 : Vector BI 4} {ev : List Event} {k : Int} (h0 : 0 ≤ k) (h1 : k < 4) {u : Ap} {z : Int} (e : A5 V2 ls2 ev = (A5 V ls ev).set k (C1 ((A5 V ls ev).at_ k) u).1 ∧ (C1 ((A5 V ls ev).at_ k) u).2 = z) (hF : (A5 V ls ev).Fit 0 0) : (A5 V2 ls2 ev).Fit 0 0 := by
 rw [e.1]; exact hF.typed h0 h1 u
theorem Lc {V V2 V3 V4 : AO} {ls ls2 ls3 ls4 : Vector BI 4} {ev ev3 ev4 : List Event} {k : Int} (_ : 0 ≤ k) (_ : k < 4) {u : Ap} {z : Int} (e : A5 V2 ls2 ev = (A5 V ls ev).set k (C1 ((A5 V ls ev).at_ k) u).1 ∧ (C1 ((A5 V ls ev).at_ k) u).2 = z)
  (e3 : (decide (0 < z) = true ∧ A5 V3 ls3 ev3 = (A5 V2 ls2 ev).tell k AI.Ox) ∨ (decide (0 < z) = false ∧ A5 V3 ls3 ev3 = A5 V2 ls2 ev)) (e4 : A5 V4 ls4 ev4 = (A5 V3 ls3 ev3).Bb) : A5 V4 ls4 ev4 = (A5 V ls ev).byte k u := by
 rw [e4, Ij, e.2]
 rcases e3 with ⟨c, e3⟩ | ⟨c, e3⟩
 ·rw [e3, if_pos c, e.1]
 ·rw [e3, if_neg (by rw [c]; decide), e.1]
theorem XT (V : AO) (ls : Vector BI 4) (ev : List Event) {k : Int} (h0 : 0 ≤ k) (h1 : k < 4) {sv : A2} (hs : V.Az.at k = sv) (n : Int) : sv.out.ring.take (max 0 (min n (sv.out.ring.length : Int))).toNat = ((A5 V ls ev).at_ k).out n := by
 rw [Cm V ls ev h0 h1, hs]; rfl
theorem Vg (t : AP) (u : Ap) : (t.Db u).2.1.length ≤ u.length := by
 unfold AP.Db
 split
 ·exact Nat.zero_le _
 ·exact (AP.W1 u t).1
end Go.Ing
/- A house, from outside: plain laws for the walks. -/
namespace Go.Ing
open Go
namespace AI
def Iw (H : AI) (i : Int) : Int × Int := if decide ((H.at_ i).state = 2) = true then (2, (H.at_ i).Ay) else ((H.at_ i).state, -1)
theorem RV : ∀ (l : List Bz) (H : AI) (a : Bz), run H (l ++ [a]) = (((run H l).1.act a).1, (run H l).2 ++ [((run H l).1.act a).2])
 | [], _, _ => rfl
 | b :: r, H, a => by
  have ih := RV r (H.act b).1 a
  show ((run (H.act b).1 (r ++ [a])).1, (H.act b).2 :: (run (H.act b).1 (r ++ [a])).2) = _
  rw [ih]; rfl
theorem W6 {H : AI} {xs : List Bz} {k : Int} (h0 : 0 ≤ k) (h1 : k < xs.length) : run H (xs.take (k + 1).toNat) = (((run H (xs.take k.toNat)).1.act (xs.getD k.toNat default)).1, (run H (xs.take k.toNat)).2 ++ [((run H (xs.take k.toNat)).1.act (xs.getD k.toNat default)).2]) := by
 obtain ⟨m, rfl⟩ := Int.eq_ofNat_of_zero_le h0
 have hm : m < xs.length := by omega
 show run H (xs.take (m + 1)) = (((run H (xs.take m)).1.act (xs.getD m default)).1, (run H (xs.take m)).2 ++ [((run H (xs.take m)).1.act (xs.getD m default)).2])
 rw [List.take_add_one, List.getElem?_eq_getElem hm, List.getD_eq_getElem?_getD, List.getElem?_eq_getElem hm]
 exact RV _ _ _
def Fits (H : AI) : Prop := ∃ n m, H.Fit n m
theorem Fits.act {H : AI} (h : H.Fits) (a : Bz) : (H.act a).1.Fits := by
 obtain ⟨n, m, h⟩ := h
 exact ⟨_, _, h.act a⟩
theorem Fits.run : ∀ (l : List Bz) {H : AI}, H.Fits → (run H l).1.Fits
 | [], _, h => h
 | a :: r, _, h => Fits.run r (h.act a)
theorem UN : AG.new.LI := by
 refine ⟨fun i => ?_, fun i => ?_, fun i => ?_⟩
 ·rcases Vector.OO AG.new.AL i with e | ⟨j, j0, j1, e⟩
  ·rw [e]; exact Nat.zero_le _
  ·rw [e]
   have : j = 0 ∨ j = 1 ∨ j = 2 ∨ j = 3 ∨ j = 4 ∨ j = 5 ∨ j = 6 ∨ j = 7 ∨ j = 8 := by omega
   rcases this with h | h | h | h | h | h | h | h | h <;> subst h <;> decide
 ·rcases Vector.OO AG.new.AN i with e | ⟨j, j0, j1, e⟩
  ·rw [e]; exact Nat.zero_le _
  ·rw [e]
   have : j = 0 ∨ j = 1 ∨ j = 2 ∨ j = 3 ∨ j = 4 ∨ j = 5 := by omega
   rcases this with h | h | h | h | h | h <;> subst h <;> decide
 ·rcases Vector.OO AG.new.BR i with e | ⟨j, j0, j1, e⟩
  ·rw [e]; exact Nat.zero_le _
  ·rw [e]
   have : j = 0 ∨ j = 1 ∨ j = 2 ∨ j = 3 ∨ j = 4 ∨ j = 5 := by omega
   rcases this with h | h | h | h | h | h <;> subst h <;> decide
theorem TV {k : Int} (h0 : 0 ≤ k) (h1 : k < 4) : AI.new.at_ k = default := by
 rcases four h0 h1 with e | e | e | e <;> subst e <;> rfl
theorem X3 : AI.new.Fit 0 0 := by
 refine ⟨UN, fun k a b => ?_, Nat.le_refl 0, fun k a b => ?_, fun k a b => ?_, fun k a b => ?_⟩ <;> rw [TV a b]
 ·exact Nat.le_refl 0
 ·exact fun e => absurd (show (0 : Int) = 2 from e) (by decide)
 ·exact fun u hu => by cases hu
 ·exact ⟨Nat.zero_le _, fun u hu => by cases hu⟩
end AI
theorem St.Yk {w0 w : World} {M : List Nat} {L l : List Ad} (h : St w0 M w L) (hl : ∀ r ∈ l, r.CP = [] ∧ r.ok w) : St w0 M w (Ad.D6 l :: L) := by
 have hf : (Ad.D6 l).CP = [] := by
  show l.flatMap Ad.CP = []
  rw [List.flatMap_eq_nil_iff]
  exact fun r hr => (hl r hr).1
 refine ⟨h.os, h.tape, h.output, h.size, h.I7, fun r hr => ?_, fun r hr => ?_, List.pairwise_cons.2 ⟨fun s hs b hb => ?_, h.JC⟩⟩
 ·rcases List.mem_cons.1 hr with rfl | hr
  ·refine ⟨fun r hr => (hl r hr).2, ?_⟩
   refine List.Pairwise.imp_of_mem (R := fun _ _ => True) (fun {a b} ha hb _ x hx => ?_) (List.pairwise_of_forall (fun _ _ => trivial))
   rw [(hl a ha).1] at hx; cases hx
  ·exact h.ok r hr
 ·rcases List.mem_cons.1 hr with rfl | hr
  ·rw [hf]; exact fun b hb => by cases hb
  ·exact h.CP r hr
 ·rw [hf] at hb; cases hb
def NC : Vector A2 4 := Vector.replicate 4 default
def NG : Vector BI 4 := Vector.replicate 4 ⟨[], [], []⟩
theorem Xb (T : Nat) (w : World) : ∀ r ∈ CR T NC NG, r.CP = [] ∧ r.ok w := by
 have hs : ∀ r ∈ FY T default ⟨[], [], []⟩, r.CP = [] ∧ r.ok w := fun r hr => by
  unfold FY at hr
  simp only [List.mem_cons, List.mem_nil_iff, or_false] at hr
  rcases hr with rfl | rfl | rfl <;> exact ⟨rfl, .inl ⟨rfl, rfl⟩⟩
 intro r hr
 have e : CR T NC NG = FY T default ⟨[], [], []⟩ ++ (FY T default ⟨[], [], []⟩ ++ (FY T default ⟨[], [], []⟩ ++ FY T default ⟨[], [], []⟩)) := rfl
 rw [e] at hr
 simp only [List.mem_append] at hr
 rcases hr with h | h | h | h <;> exact hs r h
def IT (v : A2) : Int × Int := if decide (v.state = 2) = true then (2, v.Ay) else (v.state, -1)
theorem QV (V : AO) (ls : Vector BI 4) (ev : List Event) {i : Int} (h0 : 0 ≤ i) (h1 : i < 4) : IT (V.Az.at i) = (A5 V ls ev).Iw i := by
 unfold AI.Iw
 rw [Cm V ls ev h0 h1]
 rfl
end Go.Ing
/- Engine: calls of closures that read what they are handed; slices that are only read, beside boxes. -/
namespace Go.Ing
open Go
section
variable {P : Program} {n : Nat} {w0 : World} {M : List Nat} {Q : Exit → Go.Act → World → Prop} {F : List (Nat × Value)} {L : List Ad} {ops : Array Oper} {rest : List Oper}
def cW (w : World) (M : List Nat) (h : Hd) (T sz : Nat) (cs : List Value) : Prop := Rd w h T sz cs ∧ (cs ≠ [] → ∀ b o, h.a = some ⟨b, o, none⟩ → b ∉ M)
theorem Kn.Yh {h : Hd} {T sz : Nat} {cs : List Value} (hr : cW w0 M h T sz cs) : Kn w0 M L h T sz cs := fun w hS => by
 by_cases hc : cs = []
 ·subst hc; exact ⟨hr.1.1, fun h => absurd rfl h⟩
 ·exact hS.dh hr.1 (hr.2 hc)
end
theorem Rd.pull {w0 w : World} {L A K : List Ad} {h : Hd} {T sz : Nat} {cs : List Value} (hr : Rd w0 h T sz cs) (hS : St w0 [] w L) (hp : As L A K) : cW w (Cb A) h T sz cs :=
 ⟨hS.rd hr, fun hne b o e => by
  obtain ⟨b', o', C, fz, h1, h2, _⟩ := hr.2 hne
  rw [e] at h1
  injection h1 with h1
  injection h1 with h1
  subst h1
  exact N6 h2 (by simp) hS hp⟩
instance : Inhabited AO := ⟨⟨default, Vector.replicate 4 default, 0, ⟨none, 0, 0⟩⟩⟩
end Go.Ing
/- Engine: the texts in a slice of acts that came in, and how much they can take. -/
namespace Go.Ing
open Go Go.RowKit Go.ChangeShapes Go.WideShapes Go.ChangeAt
section
variable {H : Type} {enc : TypeId × Value → H} {P : Program} {w : World}
theorem Md {e : TypeId} {d : DataW H} : ∀ {l : List (DataW H)}, d ∈ l → ∀ n ∈ d.weights P e, n ∈ DataW.weightsAll P e l
 | [], h, _, _ => by cases h
 | x :: r, h, n, hn => by
  simp only [DataW.weightsAll]
  rcases List.mem_cons.1 h with rfl | h
  ·exact List.mem_append_left _ hn
  ·exact List.mem_append_right _ (Md h n hn)
theorem TO {t E TS : TypeId} {fs : Array Field} {h : Hd} {d : DataW H} {p : List MemPlace} {T0 : Nat} {xs : List Bz} (hT : P.underlying t = some (.slice E)) (hE : P.underlying E = some (.struct fs)) (hf : (fs[3]?).map (fun f => (f.type, f.offset)) = some (TS, 3)) (hS : P.underlying TS = some .string) (zE : P.cellsOf E = 4) (zS : P.cellsOf TS = 1)
  (hd : DataW.Trod enc P w 0 (fun _ => true) true t h.val d p) (hr : Rd w h T0 4 (xs.flatMap Bz.enc)) (hw : ∀ n ∈ d.weights P t, n ≤ reachBytes) : ∀ a ∈ xs, a.bytes.length ≤ 140737488351232 := by
 have hlen : h.len = xs.length := hr.My Bz.fl (by decide)
 intro a ha
 obtain ⟨i, hi, rfl⟩ := List.getElem_of_mem ha
 have hb : ∃ b o, h.a = some ⟨b, o, none⟩ := by
  have hne : xs.flatMap Bz.enc ≠ [] := fun e => by
   have := congrArg List.length e
   rw [Cx Bz.fl.len] at this
   simp only [List.length_nil] at this
   omega
  obtain ⟨b, o, _, _, e, _⟩ := hr.2 hne
  exact ⟨b, o, e⟩
 obtain ⟨b, o, hb⟩ := hb
 obtain ⟨fuel, hfu⟩ := hd
 have hv : h.val = .slice (some ⟨b, o, none⟩) h.len h.cap := by rw [← hb]; rfl
 have hcs : h.val.cells.toList = [.slice (some ⟨b, o, none⟩) h.len h.cap] := by rw [hv]; rfl
 rw [hcs] at hfu
 rcases DataW.trod_slice hT hfu with ⟨h3, _⟩ | ⟨a', len, cap, elems, rest, m, _, h3, h4, _, hlc, _, h5, hel, _⟩
 ·simp at h3
 ·simp at h3
  obtain ⟨rfl, rfl, rfl⟩ := h3
  have hd' : d = .slice (elems.map (·.1)) (rest.map (·.1)) := congrArg Prod.fst h4
  have h6 := hel i (by omega)
  have hi' : i < elems.length := by omega
  rw [List.getElem?_eq_getElem hi', Option.bind_eq_some_iff] at h6
  obtain ⟨c, h7, h9⟩ := h6
  obtain ⟨ys, q, _, hx, hl, hlen', hfl⟩ := DataW.trod_struct hE h9
  cases hf3 : fs[3]? with
  | none => rw [hf3] at hf; cases hf
  | some f =>
   rw [hf3] at hf
   simp at hf
   obtain ⟨rfl, hoff⟩ := hf
   have h1 := hfl 3 f hf3
   have h3s : 3 < fs.size := by
    rcases Nat.lt_or_ge 3 fs.size with h' | h'
    ·exact h'
    ·rw [Array.getElem?_eq_none h'] at hf3; cases hf3
   have h2 : ys[3]? = some (ys[3]'(by omega)) := List.getElem?_eq_getElem (by omega)
   rw [h2, zS, hoff] at h1
   obtain ⟨s, e1, e2, _⟩ := DataW.trod_string hS h1
   have hc := World.cells?_some h7
   rw [zE] at hc
   have h10 := hc.2.2 3 (by omega)
   have h11 : c[3]? = some (.string s) := by
    have := congrArg (fun l => l[0]?) e1
    simp only [List.getElem?_take, List.getElem?_drop] at this
    simpa using this
   obtain ⟨b', o', C, fz, k1, k2, k3, k4⟩ := O8 Bz.fl Bz.l3 hr hi (by decide)
   have k1' : (some ⟨b, o, none⟩ : Option Addr) = some ⟨b', o', none⟩ := hb.symm.trans k1
   injection k1' with k1'
   injection k1' with kb ko
   subst kb; subst ko
   rw [ES, ES] at h10
   unfold World.cell? at h10
   simp only [k2] at h10
   have k5 : C[o + i * 4 + 3]? = some (BT xs[i].bytes) := by
    have := congrArg (fun l => l[0]?) k4
    simp only [List.getElem?_take, List.getElem?_drop] at this
    simpa [A7] using this
   have k6 : BT xs[i].bytes = .string s := by
    rw [h11] at h10
    have : C[o + i * 4 + 3]? = some (Value.string s) := by simpa using h10
    rw [k5] at this
    injection this
   have k7 : s.data.toList = xs[i].bytes := by
    simp [BT] at k6
    rw [← k6]
   have hmem : xs[i].bytes.length ∈ d.weights P t := by
    rw [hd']
    simp only [DataW.weights, hT]
    refine List.mem_cons_of_mem _ (List.mem_append_left _ (Md (d := elems[i].1) (List.mem_map.2 ⟨elems[i], List.getElem_mem _, rfl⟩) _ ?_))
    have hx' : elems[i].1 = .agg (ys.map (·.1)) := congrArg Prod.fst hx
    rw [hx']
    simp only [DataW.weights, hE]
    refine DataW.weights_mem_each (j := 3) (t := f.type) (d := (ys[3]'(by omega)).1) ?_ ?_ _ ?_
    ·rw [List.getElem?_map]; simp [hf3]
    ·rw [List.getElem?_map, h2]; rfl
    ·rw [e2, k7]; simp [DataW.weights]
   exact hw _ hmem
end
end Go.Ing
/- What every turn keeps: a principle. -/
namespace Go.Ing
open Go
namespace AE
inductive Sq (w : AG) : Ap → Prop
 | word {s : Ap} : s ∈ [MH, Wz, Tb, KC, OP, NM, ay, Y4, ZL, Qy] → Sq w s
 | room (r : Int) : Sq w ([84, 104, 101, 32] ++ (w.BR.at r).name ++ [46])
 | ways (r : Room) : Sq w (IU r 6)
 | list {s : Ap} (l : List Int) : s ∈ [[72, 101, 114, 101, 32, 105, 115], [89, 111, 117, 32, 104, 97, 118, 101]] → Sq w (SR w s l ++ [46])
 | seen (k : Int) : Sq w ((w.AN.at k).name ++ [32, 105, 115, 32, 104, 101, 114, 101, 46])
inductive Shape (x : Ap) (w : AG) : Event → Prop
 | bJ {s : Ap} : Sq w s → Shape x w { Fj 16 with text := s }
 | said : Shape x w { Fj 7 with text := x }
 | kind {k : Int} : k = 15 ∨ k = 17 → Shape x w (Fj k)
 | dir {k d : Int} : k = 1 ∨ k = 2 → Shape x w { Fj k with dir := d }
 | Bs {k i : Int} : k = 3 ∨ k = 4 ∨ (8 ≤ k ∧ k ≤ 13) → Shape x w { Fj k with Bs := (w.AL.at i).name }
 | Gx {k : Int} : k = 8 ∨ k = 9 → Shape x w { Fj k with Bs := QC }
 | ag {i to : Int} : Shape x w { Fj 6 with other := to, Bs := (w.AL.at i).name }
 | WB {i to : Int} : Shape x w { Fj 5 with Bs := (w.AL.at i).name, text := (w.AL.at to).name }
 | B9 {Bx n : Int} : 1 ≤ n → n ≤ 3 → Shape x w { Fj 14 with other := Bx, n := n }
def ev (w : AG) (b : Int) (e : Event) : Event := w.Hi (Di ⟨w, b, []⟩ e) 6
theorem NV (T : AE) (e : Event) : (T.BO e).out = T.out ++ [ev T.w T.b e] := rfl
structure Rel (x : Ap) (q : Prop) (b : Int) (R : AG → List Event → AG → Prop) : Prop where
 refl : ∀ w, R w [] w
 trans : ∀ {X l Y m Z}, R X l Y → R Y m Z → R X (l ++ m) Z
 bA : ∀ {w e}, Shape x w e → R w [ev w b e] w
 Bs : ∀ {w : AG} {i : Int} {t : Ag}, t.name = (w.AL.at i).name → t.kind = (w.AL.at i).kind → R w [] (w.Gf i t)
 Bx : ∀ {w : AG} {k f : Int}, R w [] (w.Cz k { w.AN.at k with Bx := f })
 shut : ∀ {w : AG} {r d : Int} {v : Bool}, R w [] (w.M6 r d v)
 F2 : ∀ {w : AG} {d r : Int}, R w [ev w b { Fj 1 with dir := d }] (w.Cz b { w.AN.at b with room := r, Bx := 0 })
 GZ : q → ∀ {w}, R w [ev w b (Fj 18)] w
 gone : ∀ {X l w}, R X l w → (∃ e ∈ l, (e.kind = 18 ∨ (e.kind = 15 ∧ b < 2)) ∧ e.DV = b) → R X l (w.Cz b default)
structure On (R : AG → List Event → AG → Prop) (X : AG) (b : Int) (T : AE) : Prop where
 b : T.b = b
 r : R X T.out T.w
theorem Om (T : AE) (i j CJ at_ : Int) : ((T.place i CJ at_).w.AL.at j).name = (T.w.AL.at j).name := by
 show ((T.w.AL.put i { T.w.AL.at i with CJ := CJ, at_ := at_ }).at j).name = _
 unfold Vector.put Vector.at
 rw [List.getD_eq_getElem?_getD, List.getD_eq_getElem?_getD, List.getD_eq_getElem?_getD]
 simp only [Vector.toList_setIfInBounds]
 rw [List.getElem?_set]
 split
 ·rename_i h1
  split
  ·rw [h1]; rfl
  ·rename_i h2
   rw [← h1, List.getElem?_eq_none (by omega)]
 ·rfl
theorem G7 (w : AG) (b : Int) (e : Event) : (ev w b e).kind = e.kind ∧ (ev w b e).DV = b := by
 obtain ⟨a1, a2, _⟩ := AG.KD w (Di ⟨w, b, []⟩ e) 6
 refine ⟨a1.trans ?_, a2.trans ?_⟩
 ·unfold Di; split <;> rfl
 ·unfold Di; split <;> rfl
section
variable {x : Ap} {q : Prop} {b : Int} {R : AG → List Event → AG → Prop} (K : Rel x q b R) {X : AG} {T : AE}
include K
theorem On.start (X : AG) : On R X b ⟨X, b, []⟩ := ⟨rfl, K.refl X⟩
theorem On.land (h : On R X b T) {w' : AG} (hr : R T.w [] w') : On R X b { T with w := w' } := ⟨h.b, by have := K.trans h.r hr; rwa [List.append_nil] at this⟩
theorem On.BO (h : On R X b T) {e : Event} (he : Shape x T.w e) : On R X b (T.BO e) := ⟨h.b, by rw [NV, h.b]; exact K.trans h.r (K.bA he)⟩
theorem On.tell (h : On R X b T) {s : Ap} (hs : Sq T.w s) : On R X b (T.tell s) := h.BO K (.bJ hs)
theorem On.kind (h : On R X b T) {k : Int} (hk : k = 15 ∨ k = 17) : On R X b (T.kind k) := h.BO K (.kind hk)
theorem On.cH (h : On R X b T) {k : Int} (i : Int) (hk : k = 3 ∨ k = 4 ∨ (8 ≤ k ∧ k ≤ 13)) : On R X b (T.Bs k i) := h.BO K (.Bs hk)
theorem On.C3 (h : On R X b T) {i : Int} {t : Ag} (hn : t.name = (T.w.AL.at i).name) (hk : t.kind = (T.w.AL.at i).kind) : On R X b (T.C3 i t) := h.land K (w' := T.w.Gf i t) (K.Bs hn hk)
theorem On.place (h : On R X b T) (i CJ at_ : Int) : On R X b (T.place i CJ at_) := h.C3 K rfl rfl
theorem On.Ch (h : On R X b T) (k f : Int) : On R X b (T.Ch k f) := h.land K (w' := T.w.Cz k { T.w.AN.at k with Bx := f }) K.Bx
theorem On.C2 (h : On R X b T) (r d : Int) (v : Bool) : On R X b (T.C2 r d v) := h.land K (w' := T.w.M6 r d v) K.shut
theorem On.list (h : On R X b T) {s : Ap} (hs : s ∈ [[72, 101, 114, 101, 32, 105, 115], [89, 111, 117, 32, 104, 97, 118, 101]]) (l : List Int) : On R X b (T.list s l) := h.tell K (.list l hs)
theorem On.look (h : On R X b T) : On R X b T.look := by
 have hk : ∀ {T' : AE}, On R X b T' → ∀ k : Nat, On R X b (T'.FQ k) := fun {T'} h' k => by
  induction k with
  | zero => exact h'
  | succ k ih =>
   unfold FQ
   split
   ·refine ih.tell K ?_
    rw [(KK T' k).1]
    exact .seen k
   ·exact ih
 unfold AE.look
 split
 ·exact h.tell K (.word (by simp))
 ·refine hk ?_ 6
  have ha : On R X b T.JZ := (h.tell K (.room _)).tell K (.ways _)
  unfold D4
  split
  ·exact ha.list K (by simp) _
  ·exact ha
theorem On.walk (h : On R X b T) (d : Int) : On R X b (T.walk d) := by
 unfold AE.walk
 split
 ·exact h.tell K (.word (by simp))
 ·split
  ·exact h.tell K (.word (by simp))
  ·have i1 : On R X b ((T.BO { Fj 1 with dir := d }).F2 ((T.w.BR.at T.me.room).CK.at d - 1)) := ⟨h.b, by
    have := K.trans h.r (K.F2 (w := T.w) (d := d) (r := (T.w.BR.at T.me.room).CK.at d - 1))
    rw [← h.b] at this
    exact this⟩
   exact (i1.BO K (.dir (.inr rfl))).look K
theorem On.box (h : On R X b T) (u : Ap) : On R X b (T.box u).1 := by
 unfold AE.box
 split
 ·exact h.tell K (.word (by simp))
 ·split
  ·exact h.tell K (.word (by simp))
  ·exact h
theorem On.A6 (h : On R X b T) (u : Ap) : On R X b (T.A6 u).1 := by
 unfold AE.A6
 split
 ·split
  ·exact h
  ·exact h.tell K (.word (by simp))
 ·exact h.tell K (.word (by simp))
theorem On.DA (l : List Int) : ∀ {T' : AE}, On R X b T' → On R X b (T'.DA l) := by
 induction l with
 | nil => exact fun h => h
 | cons i r ih => exact fun {T'} h => ih ((h.place K i 1 T'.b).cH K i (.inl rfl))
theorem On.KU (h : On R X b T) (l : List Int) (o : Order) : On R X b (T.KU l o) := by
 unfold AE.KU
 refine On.DA K _ ?_
 split
 ·exact h.tell K (.word (by simp))
 ·exact h
theorem On.get (h : On R X b T) (o : Order) : On R X b (T.get o) := by
 unfold AE.get
 split
 ·split
  ·exact h.box K _
  ·exact (h.box K _).KU K _ _
 ·exact h.KU K _ _
theorem On.Cn (h : On R X b T) (v to i : Int) : On R X b (T.Cn v to i) := by
 unfold AE.Cn
 split
 ·exact h.tell K (.word (by simp))
 ·split
  ·exact (h.place K _ _ _).cH K _ (.inr (.inl rfl))
  ·split
   ·refine (h.place K i 1 to).BO K ?_
    rw [← Om T i i 1 to]
    exact .ag
   ·split
    ·exact h.tell K (.word (by simp))
    ·refine (h.place K i 2 to).BO K ?_
     rw [← Om T i i 2 to, ← Om T i to 2 to]
     exact .WB
theorem On.Ee {v to : Int} (l : List Int) : ∀ {T' : AE}, On R X b T' → On R X b (T'.Ee v to l) := by
 induction l with
 | nil => exact fun h => h
 | cons i r ih => exact fun h => ih (h.Cn K v to i)
theorem On.E3 (h : On R X b T) (o : Order) : On R X b (T.E3 o) := by
 have ht : On R X b (T.Cq o).1 := by
  unfold Cq
  split
  ·exact h.box K _
  ·split
   ·exact h.A6 K _
   ·exact h
 unfold AE.E3
 split
 ·exact ht
 ·unfold SJ
  refine On.Ee K _ ?_
  split
  ·exact ht.tell K (.word (by simp))
  ·exact ht
theorem On.Ew (h : On R X b T) (o : Order) : On R X b (T.Ew o) := by
 unfold AE.Ew
 generalize (if (!decide (o.nth = 1) || o.Bi) = true then [] else o.name) = nm
 have hs := h.A6 K nm
 split
 ·exact hs
 ·refine On.tell K ?_ (.word (by simp))
  split
  ·exact (hs.Ch K _ _).Ch K _ _
  ·exact hs.Ch K _ _
theorem On.before (h : On R X b T) (first : Bool) (i : Int) (v : Bool) {k : Int} (hk : k = 3 ∨ k = 4 ∨ (8 ≤ k ∧ k ≤ 13)) : On R X b (T.before first i v k) := by
 unfold AE.before
 split
 ·exact (On.C3 K h (i := i) (t := { T.w.AL.at i with on := v }) rfl rfl).cH K _ hk
 ·exact (h.cH K i hk).C3 K rfl rfl
theorem On.Gx (h : On R X b T) (d : Int) (on : Bool) {k : Int} (hk : k = 8 ∨ k = 9) : On R X b (T.Gx d on k) := by
 unfold AE.Gx
 split
 ·exact h.tell K (.word (by simp))
 ·split
  ·exact h.tell K (.word (by simp))
  ·refine On.BO K ?_ (.Gx hk)
   split
   ·exact (h.C2 K _ _ _).C2 K _ _ _
   ·exact h.C2 K _ _ _
theorem On.set (h : On R X b T) {o : Order} (h0 : 12 ≤ o.verb) (h1 : o.verb ≤ 17) : On R X b (T.set o) := by
 unfold AE.set
 split
 ·rename_i c
  rw [Bool.and_eq_true] at c
  have h3 := of_decide_eq_true c.2
  have : o.verb = 12 ∨ o.verb = 13 := by
   unfold setKind at h3
   split at h3
   ·omega
   ·split at h3
    ·omega
    ·rename_i c1 c2
     simp only [Bool.or_eq_true, decide_eq_true_eq, not_or] at c1 c2
     omega
  exact h.Gx K _ _ (by unfold PA; omega)
 ·split
  ·exact h.tell K (.word (by simp))
  ·split
   ·exact h.tell K (.word (by simp))
   ·split
    ·exact h.before K _ _ _ (by unfold PA; omega)
    ·exact h.before K _ _ _ (by unfold PA; omega)
theorem On.CX (l : List Int) : ∀ {T' : AE}, On R X b T' → On R X b (T'.CX l) := by
 induction l with
 | nil => exact fun h => h
 | cons i r ih => exact fun {T'} h => ih (On.C3 K h (i := i) rfl rfl)
theorem On.DN (h : On R X b T) : ∀ k : Nat, On R X b (T.DN k)
 | 0 => h
 | k + 1 => by
  unfold AE.DN
  split
  ·exact (On.DN h k).Ch K _ _
  ·exact On.DN h k
theorem On.E0 (h : On R X b T) : On R X b T.E0 := by
 rw [Lz]
 exact ((On.CX K _ h).DN K 6).Ch K _ _
theorem On.GZ (h : On R X b T) (hq : q) : On R X b T.GZ := by
 have h18 : On R X b (T.kind 18) := ⟨h.b, by show R X (T.BO (Fj 18)).out _; rw [NV, h.b]; exact K.trans h.r (K.GZ hq)⟩
 have hf := On.E0 K h18
 have hb := T.Nw
 refine ⟨hb.1.trans h.b, ?_⟩
 rw [hb.2.1, hb.2.2]
 have h2 := hf.r
 rw [(Q3 (T.kind 18)).2] at h2
 have := K.gone h2 ⟨ev T.w T.b (Fj 18), by show _ ∈ T.out ++ [_]; exact List.mem_append_right _ (List.mem_cons_self ..), .inl (G7 ..).1, (G7 ..).2.trans h.b⟩
 rw [← h.b] at this
 exact this
theorem On.act (h : On R X b T) {o : Order} (hx : o.text = x) (hq : o.verb = 20 → q) (h0 : 0 ≤ o.verb) (h20 : o.verb ≤ 20) : On R X b (T.act o) := by
 unfold AE.act
 split
 ·exact h.walk K _
 ·split
  ·exact h.look K
  ·split
   ·exact h.list K (by simp) _
   ·split
    ·refine h.BO K ?_; rw [hx]; exact .said
    ·split
     ·rename_i c; exact h.GZ K (hq (of_decide_eq_true c))
     ·split
      ·exact h.Ew K _
      ·split
       ·exact h.get K _
       ·split
        ·exact h.E3 K _
        ·rename_i c1 c2 c3 c4 c5 c6 c7 c8
         simp only [Bool.or_eq_true, decide_eq_true_eq, not_or] at c1 c2 c3 c4 c5 c6 c7 c8
         exact h.set K (by omega) (by omega)
theorem MP {o : Order} (hx : o.text = x) (hq : o.verb = 20 → q) : R X (D7 X b o).2.1 (D7 X b o).1 := by
 unfold D7
 split
 ·exact K.refl X
 ·split
  ·exact K.refl X
  ·split
   ·exact K.refl X
   ·rename_i c
    simp only [Bool.or_eq_true, decide_eq_true_eq, not_or] at c
    exact ((On.start K X).act K hx hq (by omega) (by omega)).r
end
end AE
end Go.Ing
/- What every round of fights keeps, and every coming in: a principle. -/
namespace Go.Ing
open Go
namespace AE
structure YN (R : AG → List Event → AG → Prop) : Prop where
 all : ∀ b, 0 ≤ b → b < 6 → Rel [] False b R
 ao : ∀ {w : AG} {k h : Int}, R w [] (w.Cz k { w.AN.at k with BH := h })
 dH : ∀ {X l w} {b : Int}, 2 ≤ b → R X l w → (∃ e ∈ l, e.kind = 15 ∧ e.DV = b) → R X l (w.Cz b { w.AN.at b with room := 0, BH := 10 })
section
variable {R : AG → List Event → AG → Prop} (K : YN R)
include K
theorem Uf {X : AG} : R X [] X := (K.all 0 (Int.le_refl _) (by decide)).refl X
theorem rel_trans {X Y Z : AG} {l m : List Event} (h : R X l Y) (k : R Y m Z) : R X (l ++ m) Z := (K.all 0 (Int.le_refl _) (by decide)).trans h k
theorem Ss {w : AG} {b Bx n : Int} (b0 : 0 ≤ b) (b6 : b < 6) (h1 : 1 ≤ n) (h3 : n ≤ 3) : R w (B9 w b Bx n).out (B9 w b Bx n).w := by
 have a := (On.start (K.all b b0 b6) w).BO (K.all b b0 b6) (e := { Fj 14 with other := Bx, n := n }) (.B9 h1 h3)
 have := rel_trans K a.r (K.ao (k := Bx) (h := max 0 ((w.AN.at Bx).BH - n)))
 rw [List.append_nil] at this
 exact this
theorem Yn {w : AG} {b : Int} (b0 : 0 ≤ b) (b6 : b < 6) : R w (Hm w b).out (Hm w b).w := by
 have KB := K.all b b0 b6
 have h0 : On R w b (FG w b) := ⟨rfl, K.ao⟩
 have h1 := On.E0 KB (h0.kind KB (k := 15) (.inl rfl))
 have e1 : ((FG w b).kind 15).E0 = Fy w b := rfl
 have hm : ∃ e ∈ (Fy w b).out, e.kind = 15 ∧ e.DV = b := by
  rw [(Jk w b).2]
  exact ⟨ev (FG w b).w b (Fj 15), List.mem_append_right _ (List.mem_cons_self ..), (G7 ..).1, (G7 ..).2⟩
 rw [e1] at h1
 clear e1
 unfold Hm
 split
 ·rename_i c
  have c2 := of_decide_eq_true c
  rw [(C5 _ _ _).2.1, (C5 _ _ _).2.2]
  obtain ⟨e, he, hk, ha⟩ := hm
  exact KB.gone h1.r ⟨e, he, .inr ⟨hk, c2⟩, ha⟩
 ·rename_i c
  have h2 : On R w b (I4 w b) := by
   obtain ⟨d1, d2, d3⟩ := Q0 w b
   refine ⟨d1, ?_⟩
   rw [d3, d2, ← (Jk w b).2]
   have hb2 : 2 ≤ b := Int.not_lt.1 fun e => c (decide_eq_true e)
   exact K.dH (b := b) hb2 h1.r hm
  exact ((h2.kind KB (k := 17) (.inr rfl)).look KB).r
theorem TX {X : AG} {s : AG × List Event} {draw b : Int} (b0 : 0 ≤ b) (b6 : b < 6) (hg : s.1.BZ = true) (h : R X s.2 s.1) : R X (EH draw b s).2 (EH draw b s).1 := by
 have hh := LJ (draw := draw) b0
 have kb := (HA hg b0 b6).Bx
 unfold EH
 split
 ·exact h
 ·rename_i c0
  simp only [Bool.or_eq_true, Bool.not_eq_true', decide_eq_true_eq, not_or, Bool.not_eq_false] at c0
  split
  ·have := rel_trans K h ((K.all b b0 b6).Bx (k := b) (f := 0))
   rw [List.append_nil] at this
   exact this
  ·have hk := Ss K (w := s.1) (b := b) (Bx := (s.1.AN.at b).Bx - 1) b0 b6 hh.1 hh.2
   split
   ·exact rel_trans K (rel_trans K h hk) (Yn K (by omega) (by omega))
   ·exact rel_trans K h hk
theorem K3 {X : AG} {draw : Int} (hg : X.BZ = true) (hw : X.DE) : ∀ k : Nat, k ≤ 6 → R X (DR X draw k).2 (DR X draw k).1 ∧ (DR X draw k).1.BZ = true ∧ (DR X draw k).1.DE
 | 0, _ => ⟨Uf K, hg, hw⟩
 | k + 1, hk => by
  obtain ⟨a, b, c⟩ := K3 hg hw k (by omega)
  have := FR (draw := draw) (b := k) b c (by omega) (by omega)
  exact ⟨TX K (by omega) (by omega) b a, this.1, this.2.1⟩
theorem MD {X : AG} {draw : Int} (hw : X.DE) : R X (CS X draw).2.1 (CS X draw).1 := by
 unfold CS
 split
 ·exact Uf K
 ·rename_i c
  have h := (K3 K (draw := draw) (show X.BZ = true by simpa using c) hw 6 (Nat.le_refl 6)).1
  generalize DR X draw 6 = r at *
  exact h
omit K in
theorem Mj (X : AG) (s : Ap) : ((BW X s).2.2.2 ≠ 0 ∧ (BW X s).1 = X ∧ (BW X s).2.2.1 = []) ∨ (BW X s = ((ID X s (CI X 6)).w, CI X 6, (ID X s (CI X 6)).out, 0) ∧ 2 ≤ CI X 6 ∧ CI X 6 ≤ 5 ∧ FE s = true ∧ X.BZ = true ∧ ∀ k, 0 ≤ k → k < 6 → Ig X s k = false) := by
 have bad : ∀ z : Int, z ≠ 0 → BW X s = (X, 0, [], z) → (BW X s).2.2.2 ≠ 0 ∧ (BW X s).1 = X ∧ (BW X s).2.2.1 = [] := fun z hz e => by rw [e]; exact ⟨hz, rfl, rfl⟩
 cases c1 : X.BZ with
 | false => exact .inl (bad 2 (by decide) (if_pos (by rw [c1]; rfl)))
 | true =>
  have e1 : BW X s = if (!FE s) = true then (X, 0, [], 1) else if (!B5 6 (fun k => !Ig X s k) 6) = true then (X, 0, [], 1) else if decide (CI X 6 < 0) = true then (X, 0, [], 4) else ((ID X s (CI X 6)).w, CI X 6, (ID X s (CI X 6)).out, 0) := if_neg (by rw [c1]; decide)
  cases c2 : FE s with
  | false => exact .inl (bad 1 (by decide) (e1.trans (if_pos (by rw [c2]; rfl))))
  | true =>
   have e2 := e1.trans (if_neg (by rw [c2]; decide))
   cases c3 : B5 6 (fun k => !Ig X s k) 6 with
   | false => exact .inl (bad 1 (by decide) (e2.trans (if_pos (by rw [c3]; rfl))))
   | true =>
    have e3 := e2.trans (if_neg (by rw [c3]; decide))
    cases c4 : decide (CI X 6 < 0) with
    | true => exact .inl (bad 4 (by decide) (e3.trans (if_pos c4)))
    | false =>
     have e4 := e3.trans (if_neg (by rw [c4]; decide))
     have hf : 2 ≤ CI X 6 ∧ CI X 6 ≤ 5 := by
      rcases MZ X 6 (Nat.le_refl 6) with e | e
      ·exact absurd (show CI X 6 < 0 by omega) (of_decide_eq_false c4)
      ·exact e
     refine .inr ⟨e4, hf.1, hf.2, rfl, rfl, fun k k0 k6 => ?_⟩
     have := (DX 6).1 c3 k (by omega) k6
     simpa using this
end
end AE
end Go.Ing
/- What happens within an act of a house, in small steps. -/
namespace Go.Ing
open Go
namespace Ax
def CV (s : Ax) (e : Event) : Ax := if (AG.tell e s.Ay).2 = true then s.tell (AG.tell e s.Ay).1 else s
def Fw (s : Ax) (es : List Event) : Ax := if s.state = 2 then es.foldl CV s else s
end Ax
theorem lt_next {j : Int} {k : Nat} (c : ¬ j = (k : Int)) : (j < ((k + 1 : Nat) : Int)) = (j < (k : Int)) := propext ⟨fun _ => by omega, fun _ => by omega⟩
namespace AI
theorem KZ (e : Event) (H : AI) : ∀ k : Nat, k ≤ 4 → ∀ j : Int, 0 ≤ j → j < 4 → (CV e H k).at_ j = if j < k ∧ (H.at_ j).state = 2 then (H.at_ j).CV e else H.at_ j
 | 0, _, j, h0, _ => by rw [if_neg (by omega)]; rfl
 | k + 1, hk, j, h0, h1 => by
  have ih := KZ e H k (by omega) j h0 h1
  have ihk := K0 e H k (by omega) k (Int.le_refl _) (by omega)
  by_cases c : j = (k : Int)
  ·subst c
   unfold CV
   rw [ihk]
   split
   ·rename_i c1
    rw [if_neg (by simp at c1; exact fun h => c1 h.2)]; exact ihk
   ·rename_i c1
    have hr : (if (k : Int) < ((k + 1 : Nat) : Int) ∧ (H.at_ k).state = 2 then (H.at_ k).CV e else H.at_ k) = if (AG.tell e (H.at_ k).Ay).2 = true then (H.at_ k).tell (AG.tell e (H.at_ k).Ay).1 else H.at_ k := if_pos ⟨by omega, by simpa using c1⟩
    rw [hr]
    by_cases c2 : (AG.tell e (H.at_ k).Ay).2 = true
    ·rw [if_pos c2, if_pos c2]
     unfold AI.tell
     rw [AI.De _ (by omega) (by omega) h0, if_pos rfl, ihk]
    ·rw [if_neg c2, if_neg c2]; exact ihk
  ·have e2 : (CV e H (k + 1)).at_ j = (CV e H k).at_ j := by
    rw [CV.eq_2]
    split
    ·rfl
    ·split
     ·exact UZ (by omega) (by omega) h0 c _
     ·rfl
   rw [e2, ih]; simp only [lt_next c]
theorem Nl (e : Event) (H : AI) : ∀ k : Nat, (CV e H k).w = H.w ∧ (CV e H k).last = H.last ∧ (CV e H k).B8 = H.B8
 | 0 => ⟨rfl, rfl, rfl⟩
 | k + 1 => by
  have ih := Nl e H k
  rw [CV.eq_2]
  split
  ·exact ih
  ·split
   ·exact ih
   ·exact ih
theorem Ud (s : Ax) (e : Event) : (s.CV e).state = s.state ∧ (s.CV e).Ay = s.Ay := by
 unfold Ax.CV
 split
 ·exact ⟨(GC _ _).1, (GC _ _).2.1⟩
 ·exact ⟨rfl, rfl⟩
theorem SA {j : Int} (j0 : 0 ≤ j) (j1 : j < 4) : ∀ (es : List Event) (H : AI), (H.HV es).at_ j = (H.at_ j).Fw es
 | [], H => by show H.at_ j = _; unfold Ax.Fw; split <;> rfl
 | e :: r, H => by
  have ih := SA j0 j1 r (CV e H 4)
  show ((CV e H 4).HV r).at_ j = _
  have h1 := KZ e H 4 (Nat.le_refl 4) j j0 j1
  rw [ih, h1]
  by_cases c : (H.at_ j).state = 2
  ·rw [if_pos ⟨by omega, c⟩]
   unfold Ax.Fw
   rw [if_pos c, if_pos (by rw [(Ud _ e).1]; exact c)]
   rfl
  ·rw [if_neg (fun h => c h.2)]
   unfold Ax.Fw
   rw [if_neg c, if_neg c]
theorem NJ : ∀ (es : List Event) (H : AI), (H.HV es).w = H.w ∧ (H.HV es).last = H.last ∧ (H.HV es).B8 = H.B8
 | [], H => ⟨rfl, rfl, rfl⟩
 | e :: r, H => by
  have ih := NJ r (CV e H 4)
  have h1 := Nl e H 4
  exact ⟨ih.1.trans h1.1, ih.2.1.trans h1.2.1, ih.2.2.trans h1.2.2⟩
theorem UL (H : AI) (es : List Event) {j : Int} (j0 : 0 ≤ j) (j1 : j < 4) : (H.Gl es).at_ j = (H.at_ j).Fw es := SA j0 j1 es _
theorem Vl (H : AI) (es : List Event) : (H.Gl es).w = H.w ∧ (H.Gl es).last = H.last ++ es ∧ (H.Gl es).B8 = H.B8 := NJ es _
def Wm : List Ap := [Hj, Ox, Z0, Qj, noRoom]
inductive DB (U : Ap → Prop) (H : AI) : Int → AG → Ax → List Event → Prop
 | left {k : Int} : (H.at_ k).state = 2 → (H.w.AN.at (H.at_ k).Ay).here = true → DB U H k (AE.D7 H.w (H.at_ k).Ay D8).1 default (AE.D7 H.w (H.at_ k).Ay D8).2.1
 | PQ {k : Int} {u : Ap} : (H.at_ k).state = 1 → (AE.BW H.w u).2.2.2 = 0 → DB U H k (AE.BW H.w u).1 { H.at_ k with state := 2, Ay := (AE.BW H.w u).2.1 } (AE.BW H.w u).2.2.1
 | bR {k : Int} {q : Ap} : U q → (H.at_ k).state ≠ 0 → (H.at_ k).state ≠ 1 → (Words.parse q).1.verb ≠ 20 → DB U H k (AE.D7 H.w (H.at_ k).Ay (Words.parse q).1).1 (H.at_ k) (AE.D7 H.w (H.at_ k).Ay (Words.parse q).1).2.1
 | round {d : Int} : DB U H 0 (AE.CS H.w d).1 (H.at_ 0) (AE.CS H.w d).2.1
def Ha (H : AI) (k : Int) (w : AG) (s : Ax) (es : List Event) : AI := ({ H with w := w }.set k s).Gl es
inductive Step (U : Ap → Prop) (H : AI) : AI → Prop
 | told {k : Int} {u : Ap} : 0 ≤ k → k < 4 → (H.at_ k).state ≠ 0 → u ∈ Wm → Step U H (H.tell k u)
 | Bb {k : Int} : 0 ≤ k → k < 4 → (H.at_ k).state ≠ 0 → Step U H (H.set k (H.at_ k).Bb)
 | goes {k : Int} {w : AG} {s : Ax} {es : List Event} : 0 ≤ k → k < 4 → DB U H k w s es → Step U H (H.Ha k w s es)
 | free {k : Int} : 0 ≤ k → k < 4 → ¬ ((H.at_ k).state = 2 ∧ (H.w.AN.at (H.at_ k).Ay).here = true) → Step U H (H.set k default)
inductive Steps (U : Ap → Prop) (H : AI) : AI → Prop
 | refl : Steps U H H
 | tail {X Y : AI} : Steps U H X → Step U X Y → Steps U H Y
section
variable {U : Ap → Prop} {H X Y : AI}
theorem Step.one (h : Step U H X) : Steps U H X := .tail .refl h
theorem Steps.trans (h : Steps U H X) (k : Steps U X Y) : Steps U H Y := by
 induction k with
 | refl => exact h
 | tail _ s ih => exact ih.tail s
theorem Steps.KP {P : AI → Prop} (hs : ∀ {H X : AI}, P H → Step U H X → P X) (h : P H) (k : Steps U H X) : P X := by
 induction k with
 | refl => exact h
 | tail _ s ih => exact hs ih s
theorem Hq (H : AI) {k : Int} (h0 : 0 ≤ k) (h1 : k < 4) (w : AG) (s : Ax) (es : List Event) {j : Int} (j0 : 0 ≤ j) (j1 : j < 4) : (H.Ha k w s es).at_ j = (if j = k then s else H.at_ j).Fw es := by
 unfold Ha
 rw [UL _ _ j0 j1, De _ h0 h1 j0]
 rfl
theorem KJ (H : AI) (k : Int) (w : AG) (s : Ax) (es : List Event) : (H.Ha k w s es).w = w ∧ (H.Ha k w s es).last = H.last ++ es ∧ (H.Ha k w s es).B8 = H.B8 := Vl _ es
theorem ON (es : List Event) : (default : Ax).Fw es = default := if_neg (show ¬ (0 : Int) = 2 by decide)
theorem Gh (H : AI) {k : Int} (h0 : 0 ≤ k) (h1 : k < 4) : Steps U H (H.leave k) := by
 unfold AI.leave
 split
 ·rename_i c
  rw [Bool.and_eq_true, decide_eq_true_eq] at c
  have s : Step U H (H.Ha k (AE.D7 H.w (H.at_ k).Ay D8).1 default (AE.D7 H.w (H.at_ k).Ay D8).2.1) := .goes h0 h1 (.left c.1 c.2)
  have e : (((H.Te k).set k default).Gl (AE.D7 H.w (H.at_ k).Ay D8).2.1).set k default = H.Ha k (AE.D7 H.w (H.at_ k).Ay D8).1 default (AE.D7 H.w (H.at_ k).Ay D8).2.1 := by
   show (H.Ha k _ default _).set k default = _
   have := Hq H h0 h1 (AE.D7 H.w (H.at_ k).Ay D8).1 default (AE.D7 H.w (H.at_ k).Ay D8).2.1 h0 h1
   rw [if_pos rfl, ON] at this
   have h2 := LS (H.Ha k (AE.D7 H.w (H.at_ k).Ay D8).1 default (AE.D7 H.w (H.at_ k).Ay D8).2.1) h0 h1
   rw [this] at h2
   exact h2
  rw [e]
  exact s.one
 ·rename_i c
  exact (Step.free h0 h1 (fun h => c (by rw [Bool.and_eq_true, decide_eq_true_eq]; exact h))).one
theorem H0 (H : AI) : ∀ k : Nat, k ≤ 4 → Steps U H (H.Cc k).1
 | 0, _ => .refl
 | k + 1, hk => by
  have ih := H0 H k (by omega)
  unfold Cc
  split
  ·exact ih
  ·rename_i c
   have s : Step U (H.Cc k).1 ((H.Cc k).1.set k (((H.Cc k).1.at_ k).Bb)) := .Bb (by omega) (by omega) (by simpa using c)
   split
   ·exact (ih.tail s).trans (Gh _ (by omega) (by omega))
   ·exact ih.tail s
theorem Mm : ∀ (n : Nat) (H : AI), Steps U H (H.HW n)
 | 0, _ => .refl
 | n + 1, H => by
  unfold HW
  split
  ·exact H0 H 4 (Nat.le_refl 4)
  ·exact (H0 H 4 (Nat.le_refl 4)).trans (Mm n _)
theorem O3 (H : AI) : Steps U H H.Bb := Mm 5 H
theorem R8 (H : AI) {k : Int} (h0 : 0 ≤ k) (h1 : k < 4) (hs : (H.at_ k).state = 1) (u : Ap) : Steps U H (H.named k u) := by
 unfold AI.named
 split
 ·rename_i c
  exact (Step.goes h0 h1 (.PQ hs (of_decide_eq_true c))).one
 ·have hn : (H.at_ k).state ≠ 0 := by omega
  split
  ·exact (Step.told h0 h1 hn (by simp [Wm])).one
  ·exact (Step.told h0 h1 hn (by simp [Wm])).one
theorem Ri (H : AI) {k : Int} (h0 : 0 ≤ k) (h1 : k < 4) (hs : (H.at_ k).state ≠ 0) (h2 : (H.at_ k).state ≠ 1) {u : Ap} (hu : U u) : Steps U H (H.order k u) := by
 unfold AI.order
 split
 ·exact (Step.told h0 h1 hs (by simp [Wm])).one
 ·split
  ·exact Gh H h0 h1
  ·rename_i c
   have := (Step.goes (H := H) h0 h1 (.bR hu hs h2 (fun e => c (decide_eq_true e)))).one
   unfold Ha at this
   rw [show ({ H with w := (AE.D7 H.w (H.at_ k).Ay (Words.parse u).1).1 } : AI).set k (H.at_ k) = { H with w := (AE.D7 H.w (H.at_ k).Ay (Words.parse u).1).1 } from LS { H with w := (AE.D7 H.w (H.at_ k).Ay (Words.parse u).1).1 } h0 h1] at this
   exact this
theorem Jd (H : AI) (d : Int) : Steps U H ({ H with w := (AE.CS H.w d).1 }.Gl (AE.CS H.w d).2.1) := by
 have := (Step.goes (U := U) (H := H) (Int.le_refl 0) (by decide) (.round (d := d))).one
 unfold Ha at this
 rw [show ({ H with w := (AE.CS H.w d).1 } : AI).set 0 (H.at_ 0) = { H with w := (AE.CS H.w d).1 } from LS { H with w := (AE.CS H.w d).1 } (Int.le_refl 0) (by decide)] at this
 exact this
def next (H : AI) (k : Int) (r : List Ap) : AI := H.set k { H.at_ k with queue := r }.Fh
theorem O2 (H : AI) {k : Int} (h0 : 0 ≤ k) (h1 : k < 4) (hU : ∀ q ∈ (H.at_ k).queue, U q) : (((H.at_ k).state = 0 ∨ (H.at_ k).queue = []) ∧ H.EI k = H) ∨ ∃ q r, (H.at_ k).state ≠ 0 ∧ (H.at_ k).queue = q :: r ∧ Steps U (H.next k r) (H.EI k) := by
 unfold AI.EI
 split
 ·rename_i c; exact .inl ⟨.inl (of_decide_eq_true c), rfl⟩
 ·rename_i c
  have c' : (H.at_ k).state ≠ 0 := fun e => c (decide_eq_true e)
  split
  ·rename_i e; exact .inl ⟨.inr e, rfl⟩
  ·rename_i q r e
   refine .inr ⟨q, r, c', e, ?_⟩
   have ha : (H.next k r).at_ k = { H.at_ k with queue := r }.Fh := by unfold next; rw [De _ h0 h1 h0, if_pos rfl]
   have hst : ((H.next k r).at_ k).state = (H.at_ k).state := by rw [ha]; rfl
   show Steps U (H.next k r) (if (H.at_ k).pg.B7 = true then H.next k r else if decide ((H.at_ k).state = 1) = true then (H.next k r).named k (Words.P5 32 (Words.Re 32 q)) else (H.next k r).order k q)
   split
   ·exact .refl
   ·split
    ·rename_i c2
     exact R8 _ h0 h1 (by rw [hst]; exact of_decide_eq_true c2) _
    ·rename_i c2
     exact Ri _ h0 h1 (by rw [hst]; exact c') (by rw [hst]; exact fun e => c2 (decide_eq_true e)) (hU q (by rw [e]; exact List.mem_cons_self ..))
end
end AI
end Go.Ing
/- What a seat is behind every act: plain laws. -/
namespace Go.Ing
open Go
namespace Page
theorem QG (ht : Int) : ∀ (l : List Ap) (x : Pg), Bb ht (Bb ht l x).2 (Bb ht l x).1 = Bb ht l x
 | [], x => rfl
 | s :: r, x => by
  by_cases c1 : (x.B7 || x.cut) = true
  ·have e : Bb ht (s :: r) x = (x, s :: r) := by rw [Bb, if_pos c1]
   rw [e]; exact e
  ·by_cases c2 : (decide (0 < ht) && decide (ht ≤ x.shown)) = true
   ·have e : Bb ht (s :: r) x = (put { x with B7 := true } UI, s :: r) := by rw [Bb, if_neg c1, if_pos c2]
    rw [e]
    have ha : (put { x with B7 := true } UI).B7 = true := by
     unfold put; split
     ·rfl
     ·split <;> rfl
    rw [Bb, if_pos (by rw [ha]; rfl)]
   ·have e : Bb ht (s :: r) x = Bb ht r (put { x with shown := min (x.shown + 1) 200 } (escape s ++ [13, 10])) := by rw [Bb, if_neg c1, if_neg c2]
    rw [e]
    exact QG ht r _
theorem OV (ht : Int) : ∀ (l : List Ap) (x : Pg), x.ring.length ≤ 700 → 0 ≤ x.shown → x.shown ≤ 200 → (Bb ht l x).1.ring.length ≤ 700 ∧ 0 ≤ (Bb ht l x).1.shown ∧ (Bb ht l x).1.shown ≤ 200
 | [], x, h1, h2, h3 => ⟨h1, h2, h3⟩
 | s :: r, x, h1, h2, h3 => by
  unfold Bb
  split
  ·exact ⟨h1, h2, h3⟩
  ·split
   ·refine ⟨LM h1, ?_, ?_⟩ <;> rw [HG]
    ·exact h2
    ·exact h3
   ·refine OV ht r _ (LM h1) ?_ ?_ <;> rw [HG]
    ·show 0 ≤ min (x.shown + 1) 200; omega
    ·show min (x.shown + 1) 200 ≤ 200; omega
end Page
namespace Ax
structure Ok (s : Ax) : Prop where
 st : 0 ≤ s.state ∧ s.state ≤ 2
 n : s.wait.length ≤ 60
 ring : s.pg.ring.length ≤ 700
 s0 : 0 ≤ s.pg.shown
 s1 : s.pg.shown ≤ 200
 ln : Bf.Ok ⟨s.now, s.Cs, s.ret, s.queue, 0⟩
theorem WE (s : Ax) : s.LP = true ↔ s.wait.length ≤ 60 ∧ s.pg.ring.length ≤ 700 ∧ 0 ≤ s.pg.shown ∧ s.pg.shown ≤ 200 := by
 simp only [LP, Bool.and_eq_true, decide_eq_true_eq]; omega
theorem Ze (s : Ax) : s.K9 = true ↔ Bf.Ok ⟨s.now, s.Cs, s.ret, s.queue, 0⟩ :=
 Bf.HI (l := ⟨s.now, s.Cs, s.ret, ⟨none, s.queue.length, 0⟩⟩) (qs := s.queue) rfl
variable {s : Ax}
theorem Ok.LP (h : s.Ok) : s.LP = true := (WE s).2 ⟨h.n, h.ring, h.s0, h.s1⟩
theorem Ok.K9 (h : s.Ok) : s.K9 = true := (Ze s).2 h.ln
theorem DH : (default : Ax).Ok := ⟨⟨Int.le_refl 0, by decide⟩, Nat.zero_le _, Nat.zero_le _, Int.le_refl 0, by decide, (⟨Bf.MW, (fun s hs => by cases hs), Nat.zero_le _, (fun h => by cases h)⟩ : Bf.Ok ⟨[], false, false, [], 0⟩)⟩
theorem Ok.line (h : s.Ok) (u : Ap) : (s.line u).Ok := by
 unfold Ax.line
 split
 ·exact h
 ·split
  ·exact h
  ·split
   ·exact ⟨h.st, h.n, h.ring, h.s0, h.s1, h.ln⟩
   ·rename_i c
    refine ⟨h.st, ?_, h.ring, h.s0, h.s1, h.ln⟩
    have hn := h.n
    have c' : ¬ (60 : Int) ≤ s.wait.length := fun e => c (decide_eq_true e)
    show (s.wait ++ [u]).length ≤ 60
    rw [List.length_append, List.length_singleton]; omega
theorem Ok.tell (h : s.Ok) (u : Ap) : (s.tell u).Ok := by
 have := h.line u
 unfold Ax.tell Ax.note
 split
 ·exact ⟨this.st, this.n, this.ring, this.s0, this.s1, this.ln⟩
 ·exact this
theorem Ok.Bb (h : s.Ok) : s.Bb.Ok := by
 unfold Ax.Bb
 split
 ·exact h
 ·have hk := Page.OV s.Ds.B0 s.wait s.pg h.ring h.s0 h.s1
  exact ⟨h.st, Nat.le_trans (Page.Xv _ _ _) h.n, hk.1, hk.2.1, hk.2.2, h.ln⟩
theorem Ok.send (h : s.Ok) (u : Ap) : (s.send u).Ok := by
 unfold Ax.send
 split
 ·exact h
 ·split
  ·exact h
  ·exact ⟨h.st, h.n, Page.LM h.ring, by show 0 ≤ (Page.put s.pg u).shown; rw [Page.HG]; exact h.s0, by show (Page.put s.pg u).shown ≤ 200; rw [Page.HG]; exact h.s1, h.ln⟩
theorem Ok.Ds (h : s.Ok) (t : AP) : ({ s with Ds := t } : Ax).Ok := ⟨h.st, h.n, h.ring, h.s0, h.s1, h.ln⟩
theorem Ok.offer (h : s.Ok) (opt : Int) : (s.offer opt).Ok := by
 unfold Ax.offer
 split
 ·exact (h.Ds _).send _
 ·exact (h.Ds _).send _
theorem Ok.Gy (h : s.Ok) (n : Int) : (s.Gy n).Ok := ⟨h.st, h.n, by show (s.pg.ring.drop _).length ≤ 700; rw [List.length_drop]; have := h.ring; omega, h.s0, h.s1, h.ln⟩
theorem Ok.next (h : s.Ok) {q : Ap} {r : List Ap} (e : s.queue = q :: r) : ({ s with queue := r } : Ax).Fh.Ok :=
 ⟨h.st, h.n, h.ring, Int.le_refl 0, show (0 : Int) ≤ 200 by decide, ⟨h.ln.now, fun x hx => h.ln.queue x (by show x ∈ s.queue; rw [e]; exact List.mem_cons_of_mem _ hx), by
  have := h.ln.len
  have h2 : s.queue.length ≤ 6 := this
  rw [e, List.length_cons] at h2
  show r.length ≤ 6; omega, h.ln.ret⟩⟩
theorem Ok.typed (h : s.Ok) (u : Ap) : (C1 s u).1.Ok := by
 have h1 : (s.bytes u).1.Ok := (h.Ds _).send _
 unfold C1 Ax.typed
 split
 ·exact h1
 ·have ho := Bf.UM (s.bytes u).2 h1.ln
  exact ⟨h1.st, h1.n, h1.ring, h1.s0, h1.s1, ⟨ho.now, ho.queue, ho.len, ho.ret⟩⟩
theorem Ok.PQ (h : s.Ok) (b : Int) : ({ s with state := 2, Ay := b } : Ax).Ok := ⟨⟨show (0 : Int) ≤ 2 by decide, show (2 : Int) ≤ 2 by decide⟩, h.n, h.ring, h.s0, h.s1, h.ln⟩
theorem Ok.CV (h : s.Ok) (e : Event) : (s.CV e).Ok := by
 unfold Ax.CV; split
 ·exact h.tell _
 ·exact h
theorem UA : ∀ (es : List Event) {s : Ax}, s.Ok → (es.foldl Ax.CV s).Ok
 | [], _, h => h
 | e :: r, _, h => UA r (h.CV e)
theorem Ok.Fw (h : s.Ok) (es : List Event) : (s.Fw es).Ok := by
 unfold Ax.Fw
 split
 ·exact UA es h
 ·exact h
theorem Ok.heard (h : s.Ok) : ({ s with told := [] } : Ax).Ok := ⟨h.st, h.n, h.ring, h.s0, h.s1, h.ln⟩
theorem Fu (s : Ax) (es : List Event) : (s.Fw es).state = s.state ∧ (s.Fw es).Ay = s.Ay := by
 unfold Ax.Fw
 split
 ·induction es generalizing s with
  | nil => exact ⟨rfl, rfl⟩
  | cons e r ih =>
   rename_i c
   have h1 := AI.Ud s e
   have := ih (s.CV e) (by rw [h1.1]; exact c)
   exact ⟨this.1.trans h1.1, this.2.trans h1.2⟩
 ·exact ⟨rfl, rfl⟩
structure Still (s : Ax) : Prop where
 fl : s.Bb = s
 cut : s.pg.cut = false
theorem QE (s : Ax) (h : s.wait.length ≤ 60 ∧ s.pg.ring.length ≤ 700 ∧ 0 ≤ s.pg.shown ∧ s.pg.shown ≤ 200) (c : (decide (s.Ds.B0 < 0) || decide (200 < s.Ds.B0)) = false) : s.Bb = { s with pg := (Page.Bb s.Ds.B0 s.wait s.pg).1, wait := (Page.Bb s.Ds.B0 s.wait s.pg).2 } := by
 unfold Ax.Bb
 rw [if_neg]
 rw [(WE s).2 h]
 simpa using c
theorem Lr (s : Ax) (c : (decide (s.Ds.B0 < 0) || decide (200 < s.Ds.B0)) = true) : s.Bb = s := by
 unfold Ax.Bb
 rw [if_pos]
 rw [Bool.or_assoc, c, Bool.or_true]
theorem Ok.idem (h : s.Ok) : s.Bb.Bb = s.Bb := by
 cases c : (decide (s.Ds.B0 < 0) || decide (200 < s.Ds.B0)) with
 | true => rw [Lr s c, Lr s c]
 | false =>
  have e := QE s ⟨h.n, h.ring, h.s0, h.s1⟩ c
  have hk := h.Bb
  rw [e] at hk ⊢
  rw [QE _ ⟨hk.n, hk.ring, hk.s0, hk.s1⟩ c]
  have := Page.QG s.Ds.B0 s.wait s.pg
  dsimp only
  rw [this]
end Ax
namespace AI
def HN (H : AI) : Prop := ∀ k, 0 ≤ k → k < 4 → (H.at_ k).Ok
section
variable {U : Ap → Prop} {H X : AI}
theorem HN.set (h : H.HN) {k : Int} (h0 : 0 ≤ k) (h1 : k < 4) {s : Ax} (hs : s.Ok) : (H.set k s).HN := fun j j0 j1 => by
 rw [De _ h0 h1 j0]; split
 ·exact hs
 ·exact h j j0 j1
theorem HN.step (h : H.HN) (s : Step U H X) : X.HN := by
 cases s with
 | told h0 h1 _ _ => exact h.set h0 h1 ((h _ h0 h1).tell _)
 | Bb h0 h1 _ => exact h.set h0 h1 (h _ h0 h1).Bb
 | free h0 h1 _ => exact h.set h0 h1 Ax.DH
 | goes h0 h1 g =>
  intro j j0 j1
  rw [Hq H h0 h1 _ _ _ j0 j1]
  refine Ax.Ok.Fw ?_ _
  split
  ·cases g with
   | left _ _ => exact Ax.DH
   | PQ _ _ => exact (h _ h0 h1).PQ _
   | bR _ _ _ _ => exact h _ h0 h1
   | round => exact h _ (Int.le_refl 0) (by decide)
  ·exact h j j0 j1
theorem HN.steps (h : H.HN) (s : Steps U H X) : X.HN := Steps.KP (P := HN) (fun h s => h.step s) h s
/-! #### nobody is cut off behind all that flows -/
def busy (H : AI) (k : Int) : Nat := if (H.at_ k).state = 0 then 0 else 1
def Og (H : AI) : Nat := H.busy 0 + H.busy 1 + H.busy 2 + H.busy 3
theorem YL {H X : AI} (h : ∀ j, 0 ≤ j → j < 4 → (H.at_ j).state = 0 → (X.at_ j).state = 0) : X.Og ≤ H.Og ∧ ∀ k, 0 ≤ k → k < 4 → (H.at_ k).state ≠ 0 → (X.at_ k).state = 0 → X.Og < H.Og := by
 have hb : ∀ j, 0 ≤ j → j < 4 → X.busy j ≤ H.busy j ∧ H.busy j ≤ 1 ∧ ((H.at_ j).state ≠ 0 → (X.at_ j).state = 0 → X.busy j < H.busy j) := fun j j0 j1 => by
  have := h j j0 j1
  unfold busy
  refine ⟨?_, ?_, ?_⟩
  ·split
   ·exact Nat.zero_le _
   ·rename_i c
    rw [if_neg (fun e => c (this e))]; exact Nat.le_refl _
  ·split <;> omega
  ·intro a b
   rw [if_pos b, if_neg a]; decide
 have b0 := hb 0 (by decide) (by decide); have b1 := hb 1 (by decide) (by decide); have b2 := hb 2 (by decide) (by decide); have b3 := hb 3 (by decide) (by decide)
 unfold Og
 refine ⟨by omega, fun k k0 k1 a b => ?_⟩
 rcases four k0 k1 with e | e | e | e <;> subst e
 ·have := b0.2.2 a b; omega
 ·have := b1.2.2 a b; omega
 ·have := b2.2.2 a b; omega
 ·have := b3.2.2 a b; omega
theorem Rx (H : AI) {k : Int} (h0 : 0 ≤ k) (h1 : k < 4) {j : Int} (j0 : 0 ≤ j) (j1 : j < 4) : (H.leave k).at_ j = if j = k then default else (H.at_ j).Fw (if decide ((H.at_ k).state = 2) && (H.w.AN.at (H.at_ k).Ay).here then (AE.D7 H.w (H.at_ k).Ay D8).2.1 else []) := by
 unfold AI.leave
 rw [De _ h0 h1 j0]
 split
 ·rfl
 ·rename_i c
  split
  ·rw [UL _ _ j0 j1, De _ h0 h1 j0, if_neg c]
   rfl
  ·unfold Ax.Fw; split <;> rfl
theorem K2 (H : AI) : ∀ k : Nat, k ≤ 4 → ∀ j, 0 ≤ j → j < 4 → (H.at_ j).state = 0 → ((H.Cc k).1.at_ j).state = 0
 | 0, _, _, _, _, h => h
 | k + 1, hk, j, j0, j1, h => by
  have ih := K2 H k (by omega) j j0 j1 h
  have hf : (((H.Cc k).1.set k (((H.Cc k).1.at_ k).Bb)).at_ j).state = 0 := by
   rw [De _ (by omega) (by omega) j0]
   split
   ·rename_i e; subst e; rw [(IM _).2.1]; exact ih
   ·exact ih
  unfold Cc
  split
  ·exact ih
  ·split
   ·show (AI.at_ (AI.leave _ _) j).state = 0
    rw [Rx _ (by omega) (by omega) j0 j1]
    split
    ·rfl
    ·rw [(Ax.Fu _ _).1]; exact hf
   ·exact hf
theorem Pw (H : AI) : ∀ k : Nat, k ≤ 4 → (H.Cc k).2 = true → ∃ j, 0 ≤ j ∧ j < 4 ∧ (H.at_ j).state ≠ 0 ∧ ((H.Cc k).1.at_ j).state = 0
 | 0, _, h => by cases h
 | k + 1, hk, h => by
  have ih := Pw H k (by omega)
  have hn : (((H.Cc k).1.at_ k).state ≠ 0) → (H.at_ k).state ≠ 0 := fun c e => c (K2 H k (by omega) k (by omega) (by omega) e)
  unfold Cc at h ⊢
  split at h
  ·rename_i c
   rw [if_pos c]; exact ih h
  ·rename_i c
   have c' : ((H.Cc k).1.at_ k).state ≠ 0 := by simpa using c
   rw [if_neg c]
   split at h
   ·rename_i c2
    rw [if_pos c2]
    refine ⟨k, by omega, by omega, hn c', ?_⟩
    show (AI.at_ (AI.leave _ _) k).state = 0
    rw [Rx _ (by omega) (by omega) (by omega) (by omega), if_pos rfl]; rfl
   ·rename_i c2
    rw [if_neg c2]
    obtain ⟨j, j0, j1, a, b⟩ := ih h
    refine ⟨j, j0, j1, a, ?_⟩
    show (AI.at_ (AI.set _ _ _) j).state = 0
    rw [De _ (by omega) (by omega) j0]
    split
    ·rename_i e; subst e; exact absurd b c'
    ·exact b
theorem O6 (H : AI) : ∀ k : Nat, k ≤ 4 → (H.Cc k).2 = false → (H.Cc k).1.w = H.w ∧ (H.Cc k).1.last = H.last ∧ (H.Cc k).1.B8 = H.B8 ∧ ∀ j, 0 ≤ j → j < 4 → (H.Cc k).1.at_ j = (if j < k ∧ (H.at_ j).state ≠ 0 then (H.at_ j).Bb else H.at_ j) ∧ (j < k → (H.at_ j).state ≠ 0 → (H.at_ j).Bb.pg.cut = false)
 | 0, _, _ => ⟨rfl, rfl, rfl, fun j j0 _ => ⟨by rw [if_neg (by omega)]; rfl, fun h => by omega⟩⟩
 | k + 1, hk, h => by
  have ih := O6 H k (by omega)
  unfold Cc at h ⊢
  split at h
  ·rename_i c
   rw [if_pos c]
   obtain ⟨a1, a2, a3, a4⟩ := ih h
   have hk0 := (a4 k (by omega) (by omega)).1
   rw [if_neg (by omega)] at hk0
   rw [hk0] at c
   have c' : (H.at_ k).state = 0 := of_decide_eq_true c
   refine ⟨a1, a2, a3, fun j j0 j1 => ⟨?_, fun hj hs => ?_⟩⟩
   ·rw [(a4 j j0 j1).1]
    by_cases e : j = (k : Int)
    ·subst e; rw [if_neg (fun h => h.2 c'), if_neg (fun h => h.2 c')]
    ·simp only [lt_next e]
   ·by_cases e : j = (k : Int)
    ·subst e; exact absurd c' hs
    ·exact (a4 j j0 j1).2 (by omega) hs
  ·rename_i c
   split at h
   ·cases h
   ·rename_i c2
    rw [if_neg c, if_neg c2]
    obtain ⟨a1, a2, a3, a4⟩ := ih h
    have hk0 := (a4 k (by omega) (by omega)).1
    rw [if_neg (by omega)] at hk0
    rw [hk0] at c c2
    have c' : (H.at_ k).state ≠ 0 := by simpa using c
    refine ⟨a1, a2, a3, fun j j0 j1 => ⟨?_, fun hj hs => ?_⟩⟩
    ·show (AI.at_ (AI.set _ _ _) j) = _
     rw [De _ (by omega) (by omega) j0]
     by_cases e : j = (k : Int)
     ·subst e; rw [if_pos rfl, if_pos ⟨by omega, c'⟩, hk0]
     ·rw [if_neg e, (a4 j j0 j1).1]; simp only [lt_next e]
    ·by_cases e : j = (k : Int)
     ·subst e; simpa using c2
     ·exact (a4 j j0 j1).2 (by omega) hs
theorem Me : ∀ (n : Nat) (H : AI), H.HN → H.Og < n → ∀ j, 0 ≤ j → j < 4 → ((H.HW n).at_ j).state ≠ 0 → ((H.HW n).at_ j).Still
 | 0, _, _, h, _, _, _, _ => absurd h (Nat.not_lt_zero _)
 | n + 1, H, hk, hb, j, j0, j1, hs => by
  unfold HW at hs ⊢
  split at hs
  ·rename_i c
   rw [if_pos c]
   obtain ⟨_, _, _, a⟩ := O6 H 4 (Nat.le_refl 4) (by simpa using c)
   have a := a j j0 j1
   by_cases e : (H.at_ j).state = 0
   ·rw [a.1, if_neg (fun h => h.2 e)] at hs; exact absurd e hs
   ·rw [a.1, if_pos ⟨by omega, e⟩]
    exact ⟨(hk j j0 j1).idem, a.2 (by omega) e⟩
  ·rename_i c
   rw [if_neg c]
   obtain ⟨i, i0, i1, a, b⟩ := Pw H 4 (Nat.le_refl 4) (by simpa using c)
   have hl := (YL (K2 H 4 (Nat.le_refl 4))).2 i i0 i1 a b
   exact Me n _ (hk.steps (U := fun _ => True) (H0 H 4 (Nat.le_refl 4))) (by omega) j j0 j1 hs
theorem S4 (h : H.HN) {j : Int} (j0 : 0 ≤ j) (j1 : j < 4) (hs : (H.Bb.at_ j).state ≠ 0) : (H.Bb.at_ j).Still :=
 Me 5 H h (by
  have hb : ∀ j, H.busy j ≤ 1 := fun j => by unfold busy; split <;> omega
  have := hb 0; have := hb 1; have := hb 2; have := hb 3
  unfold Og; omega) j j0 j1 hs
end
end AI
end Go.Ing
/- Acts that are played: plain laws. -/
namespace Go.Ing
open Go
namespace AP
def Gv (t : AP) : Nat := if t.at_ = 2 then 2 else if t.at_ = 1 then 1 else 0
theorem Va (t : AP) (b : UInt8) : (t.step b).2.2.length + (t.step b).1.Gv ≤ 1 + t.Gv := by
 unfold step; dsimp only
 split
 ·rename_i c; have c' := of_decide_eq_true c
  have hp : t.Gv = 0 := by unfold Gv; rw [if_neg (by omega), if_neg (by omega)]
  split
  ·exact Nat.le_add_right 1 _
  ·show 0 + t.Gv ≤ 1 + t.Gv; omega
 ·split
  ·rename_i c; have c' := of_decide_eq_true c
   have hp : t.Gv = 1 := by unfold Gv; rw [if_neg (by omega), if_pos c']
   rw [hp]
   split
   ·exact Nat.zero_le _
   ·split
    ·exact Nat.zero_le _
    ·split
     ·exact Nat.le_refl 2
     ·exact Nat.zero_le _
  ·split
   ·rename_i c; have c' := of_decide_eq_true c
    have hp : t.Gv = 2 := by unfold Gv; rw [if_pos c']
    rw [hp]
    exact IF _ _ _
   ·split
    ·rename_i c; have c' := of_decide_eq_true c
     split
     ·exact Nat.zero_le _
     ·show 0 + (t.collect b).Gv ≤ _
      have : (t.collect b).at_ = t.at_ := by unfold collect; split <;> rfl
      unfold Gv; rw [this]; rw [if_neg (by omega), if_neg (by omega)]; omega
    ·split
     ·rename_i c; have c' := of_decide_eq_true c
      split
      ·show 0 + (collect { t with at_ := 3 } b).Gv ≤ _
       have : (collect { t with at_ := 3 } b).at_ = 3 := by unfold collect; split <;> rfl
       unfold Gv; rw [this]; rw [if_neg (by decide), if_neg (by decide)]; omega
      ·split
       ·show 0 + Gv { t.measure with at_ := 0, sub := [] } ≤ _; exact Nat.zero_le _
       ·exact Nat.zero_le _
     ·show 0 + t.Gv ≤ _; omega
theorem MR : ∀ (s : Ap) (t : AP), (t.feed s).2.2.length ≤ s.length + t.Gv
 | [], t => Nat.zero_le _
 | b :: s, t => by
  have h1 := Va t b
  have h2 := MR s (t.step b).1
  show ((t.step b).2.2 ++ ((t.step b).1.feed s).2.2).length ≤ s.length + 1 + t.Gv
  rw [List.length_append]; omega
theorem Un (t : AP) : t.Gv ≤ 2 := by unfold Gv; split; exact Nat.le_refl 2; split <;> decide
theorem Jo.yb {X t : AP} {u x y : Ap} {k : Int} (h : Jo X u k t x y) : y.length ≤ u.length + 2 := by
 have h1 := MR u X
 have h2 := Un X
 rw [h.e3, List.length_append] at h1
 omega
theorem U1 (t : AP) (u : Ap) : (t.Db u).2.2.1.length ≤ u.length + 2 := by
 unfold Db
 split
 ·exact Nat.zero_le _
 ·have h1 := MR u t
  have h2 := Un t
  show (t.feed u).2.2.length ≤ _
  omega
end AP
namespace AI
section
variable {H : AI}
theorem HN.tell (h : H.HN) {k : Int} (h0 : 0 ≤ k) (h1 : k < 4) (u : Ap) : (H.tell k u).HN := h.set h0 h1 ((h k h0 h1).tell u)
theorem HN.Bb (h : H.HN) : H.Bb.HN := h.steps (U := fun _ => True) (O3 H)
theorem HN.EI (h : H.HN) {k : Int} (h0 : 0 ≤ k) (h1 : k < 4) : (H.EI k).HN := by
 rcases O2 (U := fun _ => True) H h0 h1 (fun _ _ => trivial) with ⟨_, e⟩ | ⟨q, r, _, e, s⟩
 ·rw [e]; exact h
 ·exact HN.steps (h.set h0 h1 ((h k h0 h1).next e)) s
theorem HN.turns (h : H.HN) : ∀ k : Nat, k ≤ 4 → (H.turns k).HN
 | 0, _ => h
 | k + 1, hk => (HN.turns h k (by omega)).EI (by omega) (by omega)
theorem HN.begun (h : H.HN) : H.begun.HN := fun k h0 h1 => by rw [JN h0 h1]; exact (h k h0 h1).heard
theorem HN.Dy (h : H.HN) (a : Bz) : (H.Dy a).1.HN :=
 JB (fun X => X.HN) h (fun d => ((h.turns 4 (Nat.le_refl 4)).steps (U := fun _ => True) (Jd _ d)).Bb)
  (fun k h0 h1 => ((h.set h0 h1 (((show ({ (default : Ax) with state := 1, Ay := -1 } : Ax).Ok from ⟨⟨show (0 : Int) ≤ 1 by decide, show (1 : Int) ≤ 2 by decide⟩, Ax.DH.n, Ax.DH.ring, Ax.DH.s0, Ax.DH.s1, Ax.DH.ln⟩).offer 3).offer 31)).tell h0 h1 Hj).Bb)
  (fun k u h0 h1 => by
   rw [Ij]
   refine HN.Bb ?_
   have hs := h.set h0 h1 ((h k h0 h1).typed u)
   split
   ·exact hs.tell h0 h1 Ox
   ·exact hs)
  (fun k z h0 h1 => (h.set h0 h1 ((h k h0 h1).Gy z)).Bb) (fun k h0 h1 => (h.steps (U := fun _ => True) (Gh H h0 h1)).Bb) a
theorem HN.act (h : H.HN) (a : Bz) : (H.act a).1.HN := by
 unfold AI.act
 split
 ·exact h
 ·exact h.begun.Dy a
end
structure Live (H : AI) : Prop where
 fit : H.Fit 1000 1000
 B8 : 0 ≤ H.B8
 NS : H.HN
theorem Live.fits {H : AI} (h : H.Live) : H.Fits := ⟨_, _, h.fit⟩
theorem UB : AI.new.HN := fun k h0 h1 => by rw [TV h0 h1]; exact Ax.DH
theorem SW : AI.new.Live := ⟨X3.mono (by decide) (by decide), Int.le_refl 0, UB⟩
section
variable {H X : AI}
theorem Oa (e : Event) (H : AI) : ∀ k : Nat, (CV e H k).B8 = H.B8
 | 0 => rfl
 | k + 1 => by
  have ih := Oa e H k
  rw [CV.eq_2]
  split
  ·exact ih
  ·split <;> exact ih
theorem OK : ∀ (es : List Event) (H : AI), (H.HV es).B8 = H.B8
 | [], _ => rfl
 | e :: r, H => (OK r _).trans (Oa e H 4)
theorem J8 (H : AI) (es : List Event) : (H.Gl es).B8 = H.B8 := OK es _
theorem Ku (H : AI) (k : Int) : (H.leave k).B8 = H.B8 := by
 unfold AI.leave
 split
 ·exact J8 _ _
 ·rfl
theorem Kk (H : AI) : ∀ k : Nat, (H.Cc k).1.B8 = H.B8
 | 0 => rfl
 | k + 1 => by
  have ih := Kk H k
  unfold Cc
  split
  ·exact ih
  ·split
   ·exact (Ku _ _).trans ih
   ·exact ih
theorem Oj : ∀ (n : Nat) (H : AI), (H.HW n).B8 = H.B8
 | 0, _ => rfl
 | n + 1, H => by
  unfold HW
  split
  ·exact Kk H 4
  ·exact (Oj n _).trans (Kk H 4)
theorem IV (H : AI) : H.Bb.B8 = H.B8 := Oj 5 H
theorem TC (H : AI) (k : Int) : (H.EI k).B8 = H.B8 := by
 unfold AI.EI
 split
 ·rfl
 ·split
  ·rfl
  ·dsimp only
   split
   ·rfl
   ·split
    ·unfold AI.named
     split
     ·exact J8 _ _
     ·split <;> rfl
    ·unfold AI.order
     split
     ·rfl
     ·split
      ·exact Ku _ _
      ·exact J8 _ _
theorem Nr (H : AI) : ∀ k : Nat, (H.turns k).B8 = H.B8
 | 0 => rfl
 | k + 1 => (TC _ _).trans (Nr H k)
theorem U7 (X : AI) (a : Bz) : (X.Dy a).1.B8 = X.B8 :=
 JB (fun Y => Y.B8 = X.B8) rfl (fun d => (IV _).trans ((J8 _ _).trans (Nr X 4))) (fun k _ _ => IV _) (fun k u _ _ => by rw [Ij, IV]; split <;> rfl) (fun k z _ _ => IV _) (fun k _ _ => (IV _).trans (Ku _ _)) a
theorem Su (H : AI) : H.begun.B8 = H.B8 + 1 := (G6 (H := { H with B8 := H.B8 + 1, last := [] }) 4).2.2
theorem XZ (H : AI) (a : Bz) : (H.act a).1.B8 = if 400 ≤ H.B8 then H.B8 else H.B8 + 1 := by
 unfold AI.act
 by_cases c : 400 ≤ H.B8
 ·rw [if_pos (decide_eq_true c), if_pos c]
 ·rw [if_neg (fun e => c (of_decide_eq_true e)), if_neg c]
  exact (U7 _ _).trans (Su H)
theorem Live.act (h : H.Live) (a : Bz) : (H.act a).1.Live := ⟨by
 unfold AI.act
 split
 ·exact h.fit
 ·exact (h.fit.begun).Dy a, by rw [XZ]; have := h.B8; split <;> omega, h.NS.act a⟩
theorem Live.run : ∀ (l : List Bz) {H : AI}, H.Live → (H.run l).1.Live
 | [], _, h => h
 | a :: r, _, h => Live.run r (h.act a)
end
theorem Wn {xs : List Bz} {k : Int} (h0 : 0 ≤ k) (h1 : k < xs.length) (H : AI) : (H.run (xs.take (k + 1).toNat)).1 = ((H.run (xs.take k.toNat)).1.act (xs.getD k.toNat default)).1 := by rw [W6 h0 h1]
/-! #### does a house answer at all? -/
def Pz : Bz := ⟨1, 2, 0, []⟩
def type2 : Bz := ⟨2, 2, 0, [97, 110, 110, 13, 10]⟩
def Td : Bz := ⟨5, 0, 0, []⟩
theorem df : AI.new.Live := SW
theorem dZ : (AI.new.act Pz).1.Live := df.act _
theorem db : ((AI.new.act Pz).1.act type2).1.Live := dZ.act _
def cI : AI := (((AI.new.act Pz).1.act type2).1.act Td).1
theorem WZ : cI.Live := db.act _
theorem cY : (AI.new.act Pz).2.code = 0 := by kernel_rfl
theorem dD : (((AI.new.act Pz).1.act type2).1.act Td).2.code = 0 := by kernel_rfl
theorem cU : cI.Iw 2 = (2, 2) := by kernel_rfl
theorem dC : decide (2 < ((cI.at_ 2).told.length : Int)) = true := by kernel_rfl
theorem Live.told {V : AO} {ls : Vector BI 4} {ev : List Event} (h : (A5 V ls ev).Live) {k : Int} (h0 : 0 ≤ k) (h1 : k < 4) : (ls.at k).told.length ≤ 1000000 := by
 have := h.fit.told k h0 h1
 rw [Cm _ _ _ h0 h1] at this
 exact Nat.le_trans this (by decide)
theorem Live.wait {V : AO} {ls : Vector BI 4} {ev : List Event} (h : (A5 V ls ev).Live) {k : Int} (h0 : 0 ≤ k) (h1 : k < 4) : (ls.at k).wait.length ≤ 1000000 := by
 have := (h.NS k h0 h1).n
 rw [Cm _ _ _ h0 h1] at this
 exact Nat.le_trans this (by decide)
theorem Live.queue {V : AO} {ls : Vector BI 4} {ev : List Event} (h : (A5 V ls ev).Live) {k : Int} (h0 : 0 ≤ k) (h1 : k < 4) : (ls.at k).queue.length ≤ 1000000 := by
 have := (h.NS k h0 h1).ln.len
 rw [Cm _ _ _ h0 h1] at this
 exact Nat.le_trans this (by decide)
theorem Live.last {V : AO} {ls : Vector BI 4} {ev : List Event} (h : (A5 V ls ev).Live) : ev.length ≤ 1000000 := Nat.le_trans h.fit.last (by decide)
/-! #### do two houses stand alike? -/
def Zv (s t : Ax) : Bool := decide (s.wait = t.wait) && decide (s.pg.shown = t.pg.shown) && (s.pg.B7 == t.pg.B7) && decide (s.pg.ring = t.pg.ring) && (s.pg.cut == t.pg.cut)
def Zg (s t : Ax) : Bool := decide (s.now = t.now) && (s.Cs == t.Cs) && (s.ret == t.ret) && decide (s.queue = t.queue)
def sameAt (H K : AI) (k : Int) : Bool := !(!decide ((H.Iw k).1 = (K.Iw k).1) || !decide ((H.Iw k).2 = (K.Iw k).2) || !Zv (H.at_ k) (K.at_ k) || !Zg (H.at_ k) (K.at_ k))
def same (H K : AI) : Bool := B5 4 (sameAt H K) 4 && decide (H.w = K.w)
end AI
end Go.Ing
/- What beings do keeps: things, people, and who is far. -/
namespace Go.Ing
open Go
theorem E5 {α β : Type} [Inhabited α] {n : Nat} (f : α → β) (v : Vector α n) {k : Int} {x : α} (hx : f x = f (v.at k)) (i : Int) : f ((v.put k x).at i) = f (v.at i) := by
 unfold Vector.put Vector.at at *
 rw [List.getD_eq_getElem?_getD] at hx ⊢
 rw [List.getD_eq_getElem?_getD]
 simp only [Vector.toList_setIfInBounds]
 rw [List.getElem?_set]
 split
 ·rename_i h1
  split
  ·rw [← h1, ← hx]; rfl
  ·rename_i h2
   rw [← h1, List.getElem?_eq_none (by omega)]
 ·rfl
namespace AE
/-! #### things stay what they are -/
def LU (X : AG) (_ : List Event) (Y : AG) : Prop := ∀ i, (Y.AL.at i).name = (X.AL.at i).name ∧ (Y.AL.at i).kind = (X.AL.at i).kind
theorem S8 (x : Ap) (q : Prop) (b : Int) : Rel x q b LU where
 refl _ := fun _ => ⟨rfl, rfl⟩
 trans h k := fun i => ⟨(k i).1.trans (h i).1, (k i).2.trans (h i).2⟩
 bA _ := fun _ => ⟨rfl, rfl⟩
 Bs {w i t} hn hk := fun j => ⟨E5 Ag.name w.AL hn j, E5 Ag.kind w.AL hk j⟩
 Bx := fun _ => ⟨rfl, rfl⟩
 shut := fun _ => ⟨rfl, rfl⟩
 F2 := fun _ => ⟨rfl, rfl⟩
 GZ _ := fun _ => ⟨rfl, rfl⟩
 gone h _ := h
theorem UG : YN LU := ⟨fun b _ _ => S8 [] False b, fun _ => ⟨rfl, rfl⟩, fun _ h _ => h⟩
/-! #### who is there -/
def aT (l : List Event) (c : Int) : Prop := ∃ e ∈ l, e.kind = 18 ∧ e.DV = c
def Y2 (X : AG) (l : List Event) (Y : AG) : Prop := ∀ c, 0 ≤ c → c < 6 → ((Y.AN.at c).here = true → (X.AN.at c).here = true ∧ (Y.AN.at c).name = (X.AN.at c).name) ∧ (2 ≤ c → ¬ aT l c → (Y.AN.at c).here = (X.AN.at c).here)
theorem Gg {X Y : AG} {l : List Event} (h : ∀ c, (Y.AN.at c).here = (X.AN.at c).here ∧ (Y.AN.at c).name = (X.AN.at c).name) : Y2 X l Y := fun c _ _ => ⟨fun e => ⟨by rw [← (h c).1]; exact e, (h c).2⟩, fun _ _ => (h c).1⟩
theorem Vx {X Y Z : AG} {l m : List Event} (h : Y2 X l Y) (k : Y2 Y m Z) : Y2 X (l ++ m) Z := fun c c0 c6 => ⟨fun e => by
  obtain ⟨a, b⟩ := (k c c0 c6).1 e
  obtain ⟨d, f⟩ := (h c c0 c6).1 a
  exact ⟨d, b.trans f⟩, fun c2 hn => ((k c c0 c6).2 c2 fun ⟨e, he, h1⟩ => hn ⟨e, List.mem_append_right _ he, h1⟩).trans ((h c c0 c6).2 c2 fun ⟨e, he, h1⟩ => hn ⟨e, List.mem_append_left _ he, h1⟩)⟩
theorem Wv (x : Ap) (q : Prop) {b : Int} (b0 : 0 ≤ b) (b6 : b < 6) : Rel x q b Y2 where
 refl _ := Gg fun _ => ⟨rfl, rfl⟩
 trans := Vx
 bA _ := Gg fun _ => ⟨rfl, rfl⟩
 Bs _ _ := Gg fun _ => ⟨rfl, rfl⟩
 Bx {w k f} := Gg fun c => ⟨E5 Ak.here w.AN (k := k) (x := { w.AN.at k with Bx := f }) rfl c, E5 Ak.name w.AN (k := k) (x := { w.AN.at k with Bx := f }) rfl c⟩
 shut := Gg fun _ => ⟨rfl, rfl⟩
 F2 {w d r} := Gg fun c => ⟨E5 Ak.here w.AN (k := b) (x := { w.AN.at b with room := r, Bx := 0 }) rfl c, E5 Ak.name w.AN (k := b) (x := { w.AN.at b with room := r, Bx := 0 }) rfl c⟩
 GZ _ {w} := Gg fun _ => ⟨rfl, rfl⟩
 gone {X l w} h hg := fun c c0 c6 => by
  by_cases e : c = b
  ·subst e
   rw [AG.EC c0 c6]
   refine ⟨fun e => (by cases e), fun c2 hn => ?_⟩
   obtain ⟨e, he, hk, ha⟩ := hg
   rcases hk with hk | ⟨_, hk⟩
   ·exact absurd ⟨e, he, hk, ha⟩ hn
   ·omega
  ·rw [AG.GN b0 b6 c0 e]; exact h c c0 c6
theorem aI : YN Y2 := ⟨fun b b0 b6 => Wv [] False b0 b6, fun {w k h} => Gg fun c => ⟨E5 Ak.here w.AN (k := k) (x := { w.AN.at k with BH := h }) rfl c, E5 Ak.name w.AN (k := k) (x := { w.AN.at k with BH := h }) rfl c⟩,
 fun {X l w b} _ h _ => fun c c0 c6 => by
  have e1 := E5 Ak.here w.AN (k := b) (x := { w.AN.at b with room := 0, BH := 10 }) rfl c
  have e2 := E5 Ak.name w.AN (k := b) (x := { w.AN.at b with room := 0, BH := 10 }) rfl c
  have := h c c0 c6
  rw [← e1, ← e2] at this
  exact this⟩
def Still (_ : AG) (l : List Event) (_ : AG) : Prop := ∀ e ∈ l, e.kind ≠ 18
theorem S5 {x : Ap} {w : AG} {e : Event} (h : Shape x w e) : e.kind ≠ 18 := by
 cases h with
 | bJ _ => show (16 : Int) ≠ 18; decide
 | said => show (7 : Int) ≠ 18; decide
 | @kind k h => show k ≠ 18; omega
 | @dir k d h => show k ≠ 18; omega
 | @Bs k i h => show k ≠ 18; omega
 | @Gx k h => show k ≠ 18; omega
 | ag => show (6 : Int) ≠ 18; decide
 | WB => show (5 : Int) ≠ 18; decide
 | B9 _ _ => show (14 : Int) ≠ 18; decide
theorem Ua (x : Ap) (b : Int) : Rel x False b Still where
 refl _ := fun _ h => by cases h
 trans h k := fun e he => (List.mem_append.1 he).elim (h e) (k e)
 bA {w e} h := fun y hy => by rw [List.mem_singleton.1 hy, (G7 w b e).1]; exact S5 h
 Bs _ _ := fun _ h => by cases h
 Bx := fun _ h => by cases h
 shut := fun _ h => by cases h
 F2 {w d r} := fun y hy => by rw [List.mem_singleton.1 hy, (G7 w b _).1]; show (1 : Int) ≠ 18; decide
 GZ h := h.elim
 gone h _ := h
theorem YS : YN Still := ⟨fun b _ _ => Ua [] b, fun _ h => (by cases h), fun _ h _ => h⟩
def By (b : Int) (_ : AG) (l : List Event) (_ : AG) : Prop := ∀ e ∈ l, e.DV = b
theorem cm (x : Ap) (q : Prop) (b : Int) : Rel x q b (By b) where
 refl _ := fun _ h => by cases h
 trans h k := fun e he => (List.mem_append.1 he).elim (h e) (k e)
 bA {w e} _ := fun y hy => by rw [List.mem_singleton.1 hy, (G7 w b e).2]
 Bs _ _ := fun _ h => by cases h
 Bx := fun _ h => by cases h
 shut := fun _ h => by cases h
 F2 {w d r} := fun y hy => by rw [List.mem_singleton.1 hy, (G7 w b _).2]
 GZ _ {w} := fun y hy => by rw [List.mem_singleton.1 hy, (G7 w b _).2]
 gone h _ := h
/-! #### who stays in a room -/
end AE
end Go.Ing
/- What a house keeps through every act: people and pages. -/
namespace Go.Ing
open Go
namespace AE
theorem SE (X : AG) (s : Ap) (b : Int) : (ID X s b).w = X.Cz b (JW s) := (JQ _).1
theorem QB (X : AG) : ∀ n : Nat, n ≤ 6 → 2 ≤ CI X n → (X.AN.at (CI X n)).here = false
 | 0, _, h => by have : CI X 0 = -1 := rfl; omega
 | n + 1, hn, h => by
  unfold CI at h ⊢
  split
  ·rename_i c
   rw [Bool.and_eq_true] at c
   simpa using c.1
  ·rename_i c
   rw [if_neg c] at h
   exact QB X n (by omega) h
theorem ZT {X : AG} {b : Int} {o : Order} (hg : X.BZ = true) (b0 : 0 ≤ b) (b6 : b < 6) (hh : (X.AN.at b).here = true) (h0 : 0 ≤ o.verb) (h1 : o.verb ≤ 20) : (D7 X b o) = ((AE.act ⟨X, b, []⟩ o).w, (AE.act ⟨X, b, []⟩ o).out, 0) := by
 unfold D7
 rw [if_neg (by rw [hg]; decide), if_neg (by rw [decide_eq_false (by omega : ¬ b < 0), decide_eq_false (by omega : ¬ 6 ≤ b), hh]; decide), if_neg (by rw [decide_eq_false (by omega : ¬ o.verb < 0), decide_eq_false (by omega : ¬ 20 < o.verb)]; decide)]
theorem UK {X : AG} {b : Int} {o : Order} (hg : X.BZ = true) (hw : X.DE) : (D7 X b o).1.BZ = true := by
 by_cases h : (D7 X b o).2.2 = 0
 ·exact (keeps hw h).1
 ·have : (D7 X b o).1 = X := by
   unfold D7 at h ⊢
   split
   ·rfl
   ·split
    ·rfl
    ·split
     ·rfl
     ·rename_i c1 c2 c3
      rw [if_neg c1, if_neg c2, if_neg c3] at h
      exact absurd rfl h
  rw [this]; exact hg
theorem Z6 {X : AG} {b : Int} (hg : X.BZ = true) (b0 : 0 ≤ b) (b6 : b < 6) (hh : (X.AN.at b).here = true) : ((D7 X b AI.D8).1.AN.at b).here = false := by
 rw [ZT hg b0 b6 hh (by decide) (by decide)]
 have e : AE.act ⟨X, b, []⟩ AI.D8 = AE.GZ ⟨X, b, []⟩ := rfl
 rw [e]
 have hf := Nw ⟨X, b, []⟩
 show ((AE.GZ ⟨X, b, []⟩).w.AN.at b).here = false
 rw [hf.2.2]
 show (((((⟨X, b, []⟩ : AE).kind 18).E0.w.AN).put b default).at b).here = false
 rw [Vector.CB b0 b6]; rfl
theorem SO {X : AG} {d : Int} (hg : X.BZ = true) (hw : X.DE) : (CS X d).1.BZ = true := by
 unfold CS
 rw [if_neg (by rw [hg]; decide)]
 have h := (K3 UG (draw := d) hg hw 6 (Nat.le_refl 6)).2.1
 generalize DR X d 6 = r at *
 exact h
end AE
namespace AI
structure Rv (U : Ap → Prop) (P : AI → Prop) : Prop where
 lines : ∀ {H k}, P H → 0 ≤ k → k < 4 → ∀ q ∈ (H.at_ k).queue, U q
 begun : ∀ {H}, P H → P H.begun
 step : ∀ {H X}, P H → Step U H X → P X
 next : ∀ {H k q r}, P H → 0 ≤ k → k < 4 → (H.at_ k).state ≠ 0 → (H.at_ k).queue = q :: r → P (H.next k r)
 Jw : ∀ {H k}, P H → 0 ≤ k → k < 4 → (H.at_ k).state = 0 → P (H.set k ((({ (default : Ax) with state := 1, Ay := -1 } : Ax).offer 3).offer 31))
 byte : ∀ {H k u}, P H → 0 ≤ k → k < 4 → (H.at_ k).state ≠ 0 → P (H.set k (C1 (H.at_ k) u).1)
 Gy : ∀ {H k n}, P H → 0 ≤ k → k < 4 → (H.at_ k).state ≠ 0 → P (H.set k ((H.at_ k).Gy n))
theorem FP (s : Ax) (o : Int) : (s.offer o).state = s.state := by
 unfold Ax.offer; split <;> exact (Ny _ _).2.1
structure QS (U : Ap → Prop) (Z : AI) (P : AI → Prop) : Prop where
 lines : ∀ {H k}, P H → 0 ≤ k → k < 4 → ∀ q ∈ (H.at_ k).queue, U q
 step : ∀ {H X}, P H → Step U H X → P X
 next : ∀ {H k q r}, P H → 0 ≤ k → k < 4 → (H.at_ k).state ≠ 0 → (H.at_ k).queue = q :: r → P (H.next k r)
 Jw : ∀ {k}, 0 ≤ k → k < 4 → (Z.at_ k).state = 0 → P (Z.set k ((({ (default : Ax) with state := 1, Ay := -1 } : Ax).offer 3).offer 31))
 byte : ∀ {k u}, 0 ≤ k → k < 4 → (Z.at_ k).state ≠ 0 → P (Z.set k (C1 (Z.at_ k) u).1)
 Gy : ∀ {k n}, 0 ≤ k → k < 4 → (Z.at_ k).state ≠ 0 → P (Z.set k ((Z.at_ k).Gy n))
section
variable {U : Ap → Prop} {P : AI → Prop} {H X Z : AI} (K : QS U Z P)
include K
theorem QS.steps (h : P H) (s : Steps U H X) : P X := Steps.KP (fun h s => K.step h s) h s
theorem QS.EI (h : P H) {k : Int} (h0 : 0 ≤ k) (h1 : k < 4) : P (H.EI k) := by
 rcases O2 (U := U) H h0 h1 (K.lines h h0 h1) with ⟨_, e⟩ | ⟨q, r, hs, e, s⟩
 ·rw [e]; exact h
 ·exact K.steps (K.next h h0 h1 hs e) s
theorem QS.turns (h : P H) : ∀ k : Nat, k ≤ 4 → P (H.turns k)
 | 0, _ => h
 | k + 1, hk => K.EI (QS.turns h k (by omega)) (by omega) (by omega)
theorem QS.Bb (h : P H) : P H.Bb := K.steps h (O3 H)
theorem QS.told (h : P H) {k : Int} (h0 : 0 ≤ k) (h1 : k < 4) (hs : (H.at_ k).state ≠ 0) {u : Ap} (hu : u ∈ Wm) : P (H.tell k u) := K.step h (.told h0 h1 hs hu)
theorem QS.Dy (h : P Z) (a : Bz) : P (Z.Dy a).1 := by
 unfold AI.Dy
 split
 ·have hp := K.Bb (K.steps (K.turns h 4 (Nat.le_refl 4)) (Jd (Z.turns 4) a.n))
  dsimp only
  unfold AI.N1
  exact hp
 ·split
  ·exact h
  ·split
   ·exact h
   ·rename_i c
    have hs : 0 ≤ a.BL ∧ a.BL < 4 := by simp only [Bool.or_eq_true, decide_eq_true_eq] at c; omega
    split
    ·exact h
    ·rename_i c2
     have c2' : decide ((Z.at_ a.BL).state = 0) = decide (a.kind = 1) := by simpa using c2
     split
     ·rename_i c3
      have hz : (Z.at_ a.BL).state = 0 := of_decide_eq_true (c2'.trans c3)
      have h1 := K.Jw hs.1 hs.2 hz
      have h2 := K.Bb (K.told (u := Hj) h1 hs.1 hs.2 (by
       rw [De _ hs.1 hs.2 hs.1, if_pos rfl, FP, FP]
       exact (by decide : (1 : Int) ≠ 0)) (List.mem_cons_self ..))
      dsimp only
      unfold AI.Jw
      exact h2
     ·rename_i c3
      have hz : (Z.at_ a.BL).state ≠ 0 := fun e => c3 (by rw [← c2']; exact decide_eq_true e)
      split
      ·have h1 := K.byte hs.1 hs.2 hz (u := a.bytes)
       have h2 := K.Bb h1
       have h3 := K.Bb (K.told (u := Ox) h1 hs.1 hs.2 (by rw [De _ hs.1 hs.2 hs.1, if_pos rfl, (Ff _ _).2.1]; exact hz) (List.mem_cons_of_mem _ (List.mem_cons_self ..)))
       dsimp only
       rw [Ij]
       split
       ·exact h3
       ·exact h2
      ·split
       ·have h1 := K.Bb (K.Gy (n := a.n) hs.1 hs.2 hz)
        dsimp only
        exact h1
       ·have h1 := K.Bb (K.steps h (Gh Z hs.1 hs.2))
        dsimp only
        exact h1
end
section
variable {U : Ap → Prop} {P : AI → Prop} (K : Rv U P) {H X : AI}
include K
theorem Rv.Dy (h : P X) (a : Bz) : P (X.Dy a).1 := QS.Dy ⟨K.lines, K.step, K.next, K.Jw h, K.byte h, K.Gy h⟩ h a
theorem Rv.act (h : P H) (a : Bz) : P (H.act a).1 := by
 unfold AI.act
 split
 ·exact h
 ·exact K.Dy (K.begun h) a
theorem Rv.run : ∀ (l : List Bz) {H : AI}, P H → P (H.run l).1
 | [], _, h => h
 | a :: r, _, h => Rv.run r (K.act h a)
end
structure Home (H : AI) : Prop where
 gd : H.w.BZ = true
 FZ : H.w.LI
 NS : H.HN
 me : ∀ k, 0 ≤ k → k < 4 → (H.at_ k).state = 2 → 2 ≤ (H.at_ k).Ay ∧ (H.at_ k).Ay ≤ 5 ∧ (H.w.AN.at (H.at_ k).Ay).here = true
 one : ∀ j k, 0 ≤ j → j < 4 → 0 ≤ k → k < 4 → (H.at_ j).state = 2 → (H.at_ k).state = 2 → (H.at_ j).Ay = (H.at_ k).Ay → j = k
 all : ∀ b, 2 ≤ b → b ≤ 5 → (H.w.AN.at b).here = true → ∃ k, 0 ≤ k ∧ k < 4 ∧ (H.at_ k).state = 2 ∧ (H.at_ k).Ay = b
 named : ∀ b, 2 ≤ b → b ≤ 5 → (H.w.AN.at b).here = true → AE.FE (H.w.AN.at b).name = true
 diff : ∀ b c, 2 ≤ b → b ≤ 5 → 0 ≤ c → c ≤ 5 → (H.w.AN.at b).here = true → (H.w.AN.at c).here = true → (H.w.AN.at c).name = (H.w.AN.at b).name → c = b
section
variable {H X : AI}
theorem Home.of (h : H.Home) (hw : X.w = H.w) (hs : ∀ j, 0 ≤ j → j < 4 → (X.at_ j).state = (H.at_ j).state ∧ (X.at_ j).Ay = (H.at_ j).Ay) (ho : X.HN) : X.Home :=
 ⟨by rw [hw]; exact h.gd, by rw [hw]; exact h.FZ, ho, fun k k0 k1 e => by
  obtain ⟨a, b⟩ := hs k k0 k1
  rw [hw, b]; exact h.me k k0 k1 (a ▸ e), fun j k j0 j1 k0 k1 e1 e2 e3 => by
  obtain ⟨a, b⟩ := hs k k0 k1
  obtain ⟨c, d⟩ := hs j j0 j1
  exact h.one j k j0 j1 k0 k1 (c ▸ e1) (a ▸ e2) (by rw [← d, ← b]; exact e3), fun b b0 b1 e => by
  rw [hw] at e
  obtain ⟨k, k0, k1, e1, e2⟩ := h.all b b0 b1 e
  obtain ⟨c, d⟩ := hs k k0 k1
  exact ⟨k, k0, k1, c.trans e1, d.trans e2⟩, by rw [hw]; exact h.named, by rw [hw]; exact h.diff⟩
theorem Home.put (h : H.Home) {k : Int} (k0 : 0 ≤ k) (k1 : k < 4) (hn : (H.at_ k).state ≠ 2) {s : Ax} (hs : s.state ≠ 2) (ho : s.Ok) : (H.set k s).Home := by
 have e : ∀ j, 0 ≤ j → (H.set k s).at_ j = if j = k then s else H.at_ j := fun j j0 => De H k0 k1 j0 s
 refine ⟨h.gd, h.FZ, h.NS.set k0 k1 ho, fun j j0 j1 => ?_, fun i j i0 i1 j0 j1 => ?_, fun b b0 b1 hb => ?_, h.named, h.diff⟩
 ·rw [e j j0]; split
  ·exact fun q => absurd q hs
  ·exact h.me j j0 j1
 ·rw [e i i0, e j j0]; split
  ·exact fun q => absurd q hs
  ·split
   ·exact fun _ q => absurd q hs
   ·exact h.one i j i0 i1 j0 j1
 ·obtain ⟨j, j0, j1, e1, e2⟩ := h.all b b0 b1 hb
  refine ⟨j, j0, j1, ?_⟩
  rw [e j j0, if_neg (fun q => by subst q; exact hn e1)]
  exact ⟨e1, e2⟩
theorem Home.land (h : H.Home) {k : Int} (k0 : 0 ≤ k) (k1 : k < 4) {w : AG} {es : List Event} (hg : w.BZ = true) (hw : w.LI) (hr : AE.Y2 H.w es w) (hn : AE.Still H.w es w) : (H.Ha k w (H.at_ k) es).Home := by
 have hat : ∀ j, 0 ≤ j → j < 4 → ((H.Ha k w (H.at_ k) es).at_ j).state = (H.at_ j).state ∧ ((H.Ha k w (H.at_ k) es).at_ j).Ay = (H.at_ j).Ay := fun j j0 j1 => by
  rw [Hq H k0 k1 _ _ _ j0 j1]
  have e : (if j = k then H.at_ k else H.at_ j) = H.at_ j := by
   split
   ·rename_i q; rw [q]
   ·rfl
  rw [e]; exact Ax.Fu _ _
 have hok : (H.Ha k w (H.at_ k) es).HN := fun j j0 j1 => by
  rw [Hq H k0 k1 _ _ _ j0 j1]
  exact Ax.Ok.Fw (by split; exact h.NS k k0 k1; exact h.NS j j0 j1) es
 have hkeep := KJ H k w (H.at_ k) es
 have hgone : ∀ c, ¬ AE.aT es c := fun c ⟨e, he, h1, _⟩ => hn e he h1
 refine Home.of (H := { H with w := w }) ⟨hg, hw, h.NS, fun j j0 j1 e => ?_, h.one, fun b b0 b1 e => h.all b b0 b1 ((hr b (by omega) (by omega)).1 e).1, fun b b0 b1 e => ?_, fun b c b0 b1 c0 c1 e1 e2 e3 => ?_⟩ hkeep.1 hat hok
 ·obtain ⟨a, b, c⟩ := h.me j j0 j1 e
  exact ⟨a, b, ((hr _ (by omega) (by omega)).2 a (hgone _)).trans c⟩
 ·obtain ⟨p, q⟩ := (hr b (by omega) (by omega)).1 e
  show AE.FE (w.AN.at b).name = true
  rw [q]; exact h.named b b0 b1 p
 ·obtain ⟨p, q⟩ := (hr b (by omega) (by omega)).1 e1
  obtain ⟨p', q'⟩ := (hr c (by omega) (by omega)).1 e2
  exact h.diff b c b0 b1 c0 c1 p p' (by rw [← q, ← q']; exact e3)
theorem Home.left (h : H.Home) {k : Int} (k0 : 0 ≤ k) (k1 : k < 4) (hs : (H.at_ k).state = 2) : (H.Ha k (AE.D7 H.w (H.at_ k).Ay D8).1 default (AE.D7 H.w (H.at_ k).Ay D8).2.1).Home := by
 obtain ⟨b2, b5, hh⟩ := h.me k k0 k1 hs
 have hr : AE.Y2 H.w (AE.D7 H.w (H.at_ k).Ay D8).2.1 (AE.D7 H.w (H.at_ k).Ay D8).1 := AE.MP (AE.Wv [] True (by omega) (by omega)) rfl (fun _ => trivial)
 have hb : AE.By (H.at_ k).Ay H.w (AE.D7 H.w (H.at_ k).Ay D8).2.1 (AE.D7 H.w (H.at_ k).Ay D8).1 := AE.MP (AE.cm [] True _) rfl (fun _ => trivial)
 have hq := AE.Z6 h.gd (show 0 ≤ (H.at_ k).Ay by omega) (by omega) hh
 have hg := AE.UK (b := (H.at_ k).Ay) (o := D8) h.gd h.FZ.HP
 have hw := (AE.J7 (b := (H.at_ k).Ay) (o := D8) h.FZ MA).1
 generalize hd : AE.D7 H.w (H.at_ k).Ay D8 = D at *
 have hkeep := KJ H k D.1 default D.2.1
 have hat := fun j j0 j1 => Hq H k0 k1 D.1 default D.2.1 (j := j) j0 j1
 have st : ∀ j, 0 ≤ j → j < 4 → ((H.Ha k D.1 default D.2.1).at_ j).state = 2 → j ≠ k ∧ (H.at_ j).state = 2 ∧ ((H.Ha k D.1 default D.2.1).at_ j).Ay = (H.at_ j).Ay := fun j j0 j1 e => by
  rw [hat j j0 j1] at e ⊢
  rw [(Ax.Fu _ _).1] at e
  rw [(Ax.Fu _ _).2]
  by_cases q : j = k
  ·rw [if_pos q] at e; exact absurd (show (0 : Int) = 2 from e) (by decide)
  ·rw [if_neg q] at e ⊢; exact ⟨q, e, rfl⟩
 refine ⟨by rw [hkeep.1]; exact hg, by rw [hkeep.1]; exact hw, fun j j0 j1 => ?_, fun j j0 j1 e => ?_, fun i j i0 i1 j0 j1 e1 e2 e3 => ?_, fun b b0 b1 e => ?_, fun b b0 b1 e => ?_, fun b c b0 b1 c0 c1 e1 e2 e3 => ?_⟩
 ·rw [hat j j0 j1]
  exact Ax.Ok.Fw (by split; exact Ax.DH; exact h.NS j j0 j1) _
 ·obtain ⟨q, e1, e2⟩ := st j j0 j1 e
  obtain ⟨a, b, c⟩ := h.me j j0 j1 e1
  rw [hkeep.1, e2]
  refine ⟨a, b, ((hr _ (by omega) (by omega)).2 a fun ⟨y, hy, _, ha⟩ => ?_).trans c⟩
  exact q (h.one j k j0 j1 k0 k1 e1 hs (ha.symm.trans (hb y hy)))
 ·obtain ⟨_, a1, a2⟩ := st i i0 i1 e1
  obtain ⟨_, c1, c2⟩ := st j j0 j1 e2
  exact h.one i j i0 i1 j0 j1 a1 c1 (by rw [← a2, ← c2]; exact e3)
 ·rw [hkeep.1] at e
  obtain ⟨p, _⟩ := (hr b (by omega) (by omega)).1 e
  obtain ⟨j, j0, j1, a1, a2⟩ := h.all b b0 b1 p
  have hjk : j ≠ k := fun q => by subst q; rw [a2, e] at hq; cases hq
  refine ⟨j, j0, j1, ?_⟩
  rw [hat j j0 j1, (Ax.Fu _ _).1, (Ax.Fu _ _).2, if_neg hjk]
  exact ⟨a1, a2⟩
 ·rw [hkeep.1] at e ⊢
  obtain ⟨p, q⟩ := (hr b (by omega) (by omega)).1 e
  rw [q]; exact h.named b b0 b1 p
 ·rw [hkeep.1] at e1 e2 e3
  obtain ⟨p, q⟩ := (hr b (by omega) (by omega)).1 e1
  obtain ⟨p', q'⟩ := (hr c (by omega) (by omega)).1 e2
  exact h.diff b c b0 b1 c0 c1 p p' (by rw [← q, ← q']; exact e3)
theorem Home.PQ (h : H.Home) {k : Int} {u : Ap} (k0 : 0 ≤ k) (k1 : k < 4) (hs : (H.at_ k).state = 1) (he : (AE.BW H.w u).2.2.2 = 0) : (H.Ha k (AE.BW H.w u).1 { H.at_ k with state := 2, Ay := (AE.BW H.w u).2.1 } (AE.BW H.w u).2.2.1).Home := by
 rcases AE.Mj H.w u with ⟨hn, _⟩ | ⟨e, f2, f5, hn, _, ht⟩
 ·exact absurd he hn
 have hw := (AE.Iq (s := u) h.FZ).1
 have hf := AE.QB H.w 6 (Nat.le_refl 6) f2
 have hlen : u.length ≤ 8 := by
  have h2 := hn
  simp only [AE.FE, Bool.and_eq_true, decide_eq_true_eq] at h2
  omega
 have hfit := AE.Pm (b := AE.CI H.w 6) h.gd h.FZ.HP (s := u) (by omega) (by omega) (by omega)
 have hwe := AE.SE H.w u (AE.CI H.w 6)
 rw [e] at hw ⊢
 generalize AE.CI H.w 6 = f at *
 generalize (AE.ID H.w u f).out = es
 generalize (AE.ID H.w u f).w = w at *
 show (H.Ha k w { H.at_ k with state := 2, Ay := f } es).Home
 have hw2 : w.LI := hw
 have hg : w.BZ = true := by rw [hwe]; exact hfit.gd
 have bf : w.AN.at f = AE.JW u := by rw [hwe]; exact AG.EC (by omega) (by omega) _
 have bn : ∀ c, 0 ≤ c → c ≠ f → w.AN.at c = H.w.AN.at c := fun c c0 hc => by rw [hwe]; exact AG.GN (by omega) (by omega) c0 hc _
 have hkeep := KJ H k w { H.at_ k with state := 2, Ay := f } es
 have hat : ∀ j, 0 ≤ j → j < 4 → ((H.Ha k w { H.at_ k with state := 2, Ay := f } es).at_ j).state = (if j = k then 2 else (H.at_ j).state) ∧ ((H.Ha k w { H.at_ k with state := 2, Ay := f } es).at_ j).Ay = (if j = k then f else (H.at_ j).Ay) := fun j j0 j1 => by
  rw [Hq H k0 k1 _ _ _ j0 j1, (Ax.Fu _ _).1, (Ax.Fu _ _).2]
  split <;> exact ⟨rfl, rfl⟩
 have out : ∀ j, 0 ≤ j → j < 4 → (H.at_ j).state = 2 → (H.at_ j).Ay ≠ f := fun j j0 j1 e q => by
  have := (h.me j j0 j1 e).2.2
  rw [q, hf] at this; cases this
 refine ⟨by rw [hkeep.1]; exact hg, by rw [hkeep.1]; exact hw2, fun j j0 j1 => ?_, fun j j0 j1 => ?_, fun i j i0 i1 j0 j1 => ?_, fun b b0 b1 e => ?_, fun b b0 b1 e => ?_, fun b c b0 b1 c0 c1 e1 e2 e3 => ?_⟩
 ·rw [Hq H k0 k1 _ _ _ j0 j1]
  exact Ax.Ok.Fw (by split; exact (h.NS k k0 k1).PQ f; exact h.NS j j0 j1) _
 ·rw [(hat j j0 j1).1, (hat j j0 j1).2, hkeep.1]
  split
  ·intro _; rw [bf]; exact ⟨by omega, by omega, rfl⟩
  ·intro e
   obtain ⟨a, b, c⟩ := h.me j j0 j1 e
   exact ⟨a, b, by rw [bn _ (by omega) (out j j0 j1 e)]; exact c⟩
 ·rw [(hat i i0 i1).1, (hat i i0 i1).2, (hat j j0 j1).1, (hat j j0 j1).2]
  split
  ·rename_i q1
   split
   ·rename_i q2; intro _ _ _; rw [q1, q2]
   ·intro _ e q; exact absurd q.symm (out j j0 j1 e)
  ·split
   ·intro e _ q; exact absurd q (out i i0 i1 e)
   ·exact h.one i j i0 i1 j0 j1
 ·rw [hkeep.1] at e
  by_cases q : b = f
  ·exact ⟨k, k0, k1, by rw [(hat k k0 k1).1, if_pos rfl], by rw [(hat k k0 k1).2, if_pos rfl, q]⟩
  ·rw [bn b (by omega) q] at e
   obtain ⟨j, j0, j1, a1, a2⟩ := h.all b b0 b1 e
   have hjk : j ≠ k := fun q => by subst q; omega
   exact ⟨j, j0, j1, by rw [(hat j j0 j1).1, if_neg hjk]; exact a1, by rw [(hat j j0 j1).2, if_neg hjk]; exact a2⟩
 ·rw [hkeep.1] at e ⊢
  by_cases q : b = f
  ·rw [q, bf]; exact hn
  ·rw [bn b (by omega) q] at e ⊢; exact h.named b b0 b1 e
 ·rw [hkeep.1] at e1 e2 e3
  have hfree : ∀ c, 0 ≤ c → c ≤ 5 → (H.w.AN.at c).here = true → (H.w.AN.at c).name ≠ u := fun c c0 c1 hc q => by
   have := ht c c0 (by omega)
   unfold AE.Ig at this
   rw [hc, q] at this
   simp at this
  by_cases q1 : b = f
  ·by_cases q2 : c = f
   ·rw [q1, q2]
   ·rw [bn c (by omega) q2] at e2 e3
    rw [q1, bf] at e3
    exact absurd e3 (hfree c c0 c1 e2)
  ·rw [bn b (by omega) q1] at e1 e3
   by_cases q2 : c = f
   ·rw [q2, bf] at e3
    exact absurd e3.symm (hfree b (by omega) b1 e1)
   ·rw [bn c (by omega) q2] at e2 e3
    exact h.diff b c b0 b1 c0 c1 e1 e2 e3
theorem RS (q : Ap) (hq : q.length ≤ 1000) : (Words.parse q).1.text.length ≤ 1000000 := by
 have := (Words.JV q).2.2
 omega
theorem Home.step (h : H.Home) (hu : True) {U : Ap → Prop} (hU : ∀ q, U q → q.length ≤ 1000) (s : Step U H X) : X.Home := by
 cases s with
 | @told k u h0 h1 hs _ =>
  refine h.of rfl (fun j j0 j1 => ?_) (h.NS.step (U := U) (.told h0 h1 hs ‹_›))
  unfold AI.tell
  rw [De _ h0 h1 j0]
  split
  ·rename_i q; subst q; exact ⟨(GC _ _).1, (GC _ _).2.1⟩
  ·exact ⟨rfl, rfl⟩
 | @Bb k h0 h1 hs =>
  refine h.of rfl (fun j j0 j1 => ?_) (h.NS.step (U := U) (.Bb h0 h1 hs))
  rw [De _ h0 h1 j0]
  split
  ·rename_i q; subst q; exact ⟨(IM _).2.1, (IM _).2.2.1⟩
  ·exact ⟨rfl, rfl⟩
 | @free k h0 h1 hn => exact h.put h0 h1 (fun e => hn ⟨e, (h.me k h0 h1 e).2.2⟩) (show (0 : Int) ≠ 2 by decide) Ax.DH
 | @goes k w s es h0 h1 g =>
  cases g with
  | left hs _ => exact h.left h0 h1 hs
  | PQ hs he => exact h.PQ h0 h1 hs he
  | bR hq hn0 hn1 hv =>
   have hst := (h.NS k h0 h1).st
   obtain ⟨b2, b5, hh⟩ := h.me k h0 h1 (by omega)
   exact h.land h0 h1 (AE.UK h.gd h.FZ.HP) (AE.J7 h.FZ (RS _ (hU _ hq))).1 (AE.MP (AE.Wv _ False (by omega) (by omega)) rfl (fun e => hv e)) (AE.MP (AE.Ua _ _) rfl (fun e => hv e))
  | round => exact h.land h0 h1 (AE.SO h.gd h.FZ.HP) (AE.LA h.FZ).1 (AE.MD AE.aI h.FZ.HP) (AE.MD AE.YS h.FZ.HP)
end
end AI
end Go.Ing
/- An act that is refused, and acts behind the last: plain laws. -/
namespace Go.Ing
open Go
theorem YU {α : Type} (a b c : α) : [a, b, c].Perm [c, b, a] := List.reverse_perm [c, b, a]
namespace AI
theorem Nb (H : AI) : H.begun.w = H.w ∧ H.begun.last = [] ∧ H.begun.B8 = H.B8 + 1 := G6 (H := { H with B8 := H.B8 + 1, last := [] }) 4
def zero : Bz := ⟨0, 0, 0, []⟩
end AI
end Go.Ing
/- Behind each act: people and pages. -/
namespace Go.Ing
open Go
namespace Ax
theorem Still.heard {s : Ax} (h : s.Still) : ({ s with told := [] } : Ax).Still := by
 refine ⟨?_, h.cut⟩
 have e : ({ s with told := [] } : Ax).Bb = { s.Bb with told := [] } := by
  unfold Ax.Bb
  by_cases c : (!s.LP || decide (s.Ds.B0 < 0) || decide (200 < s.Ds.B0)) = true
  ·rw [if_pos c, if_pos (show (!({ s with told := [] } : Ax).LP || decide (({ s with told := [] } : Ax).Ds.B0 < 0) || decide (200 < ({ s with told := [] } : Ax).Ds.B0)) = true from c)]
  ·rw [if_neg c, if_neg (show ¬ (!({ s with told := [] } : Ax).LP || decide (({ s with told := [] } : Ax).Ds.B0 < 0) || decide (200 < ({ s with told := [] } : Ax).Ds.B0)) = true from c)]
 rw [e, h.fl]
end Ax
namespace AI
theorem Home.B8 : Rv (fun q => q.length ≤ 1000) Home where
 lines {H k} h h0 h1 q hq := by
  have := ((Bf.F5 q).1 ((h.NS k h0 h1).ln.queue q hq)).1
  omega
 begun {H} h := h.of (Nb H).1 (fun j j0 j1 => by rw [JN j0 j1]; exact ⟨rfl, rfl⟩) h.NS.begun
 step h s := h.step trivial (fun _ h => h) s
 next {H k q r} h h0 h1 _ e := h.of rfl (fun j j0 j1 => by
  unfold AI.next; rw [De _ h0 h1 j0]; split
  ·rename_i q; subst q; exact ⟨rfl, rfl⟩
  ·exact ⟨rfl, rfl⟩) (h.NS.set h0 h1 ((h.NS k h0 h1).next e))
 Jw {H k} h h0 h1 hz := h.put h0 h1 (by rw [hz]; decide) (by rw [FP, FP]; exact (by decide : (1 : Int) ≠ 2)) (((show ({ (default : Ax) with state := 1, Ay := -1 } : Ax).Ok from ⟨⟨show (0 : Int) ≤ 1 by decide, show (1 : Int) ≤ 2 by decide⟩, Ax.DH.n, Ax.DH.ring, Ax.DH.s0, Ax.DH.s1, Ax.DH.ln⟩).offer 3).offer 31)
 byte {H k u} h h0 h1 _ := h.of rfl (fun j j0 j1 => by
  rw [De _ h0 h1 j0]; split
  ·rename_i q; subst q; exact ⟨(Ff _ _).2.1, (Ff _ _).2.2.1⟩
  ·exact ⟨rfl, rfl⟩) (h.NS.set h0 h1 ((h.NS k h0 h1).typed u))
 Gy {H k n} h h0 h1 _ := h.of rfl (fun j j0 j1 => by
  rw [De _ h0 h1 j0]; split
  ·rename_i q; subst q; exact ⟨rfl, rfl⟩
  ·exact ⟨rfl, rfl⟩) (h.NS.set h0 h1 ((h.NS k h0 h1).Gy n))
def Zero (H : AI) : Prop := ∀ k, 0 ≤ k → k < 4 → (H.at_ k).state = 0 → H.at_ k = default
theorem Zero.set {H : AI} (h : H.Zero) {k : Int} (h0 : 0 ≤ k) (h1 : k < 4) {s : Ax} (hs : s.state = 0 → s = default) : (H.set k s).Zero := fun j j0 j1 => by
 rw [De _ h0 h1 j0]; split
 ·exact hs
 ·exact h j j0 j1
theorem Zero.B8 : Rv (fun _ => True) Zero where
 lines _ _ _ _ _ := trivial
 begun {H} h := fun k h0 h1 => by
  rw [JN h0 h1]
  intro e
  rw [h k h0 h1 e]; rfl
 step {H X} h s := by
  cases s with
  | told h0 h1 hs _ => exact h.set h0 h1 (fun e => absurd ((GC _ _).1.symm.trans e) hs)
  | Bb h0 h1 hs => exact h.set h0 h1 (fun e => absurd ((IM _).2.1.symm.trans e) hs)
  | free h0 h1 _ => exact h.set h0 h1 (fun _ => rfl)
  | @goes k w s es h0 h1 g =>
   have hs : s.state = 0 → s = default := by
    cases g with
    | left _ _ => exact fun _ => rfl
    | PQ _ _ => exact fun e => absurd (show (2 : Int) = 0 from e) (by decide)
    | bR _ hn _ _ => exact fun e => absurd e hn
    | round => exact h 0 (Int.le_refl 0) (by decide)
   intro j j0 j1
   rw [Hq H h0 h1 _ _ _ j0 j1]
   intro e
   rw [(Ax.Fu _ _).1] at e
   have e2 : (if j = k then s else H.at_ j) = default := by
    split at e
    ·rename_i q; rw [if_pos q]; exact hs e
    ·rename_i q; rw [if_neg q]; exact h j j0 j1 e
   rw [e2]; exact ON es
 next {H k q r} h h0 h1 hs _ := h.set h0 h1 (fun e => absurd e hs)
 Jw {H k} h h0 h1 _ := h.set h0 h1 (fun e => by rw [FP, FP] at e; exact absurd (show (1 : Int) = 0 from e) (by decide))
 byte {H k u} h h0 h1 hs := h.set h0 h1 (fun e => absurd ((Ff _ _).2.1.symm.trans e) hs)
 Gy {H k n} h h0 h1 hs := h.set h0 h1 (fun e => absurd e hs)
def Calm (H : AI) : Prop := ∀ k, 0 ≤ k → k < 4 → (H.at_ k).state ≠ 0 → (H.at_ k).Still
theorem S1 (X : AI) (h : X.HN) (a : Bz) : (X.Dy a).1 = X ∨ ∃ Y : AI, Y.HN ∧ (X.Dy a).1 = Y.Bb :=
 JB (fun Z => Z = X ∨ ∃ Y : AI, Y.HN ∧ Z = Y.Bb) (.inl rfl) (fun d => .inr ⟨_, (h.turns 4 (Nat.le_refl 4)).steps (U := fun _ => True) (Jd _ d), rfl⟩)
  (fun k h0 h1 => .inr ⟨_, (h.set h0 h1 (((show ({ (default : Ax) with state := 1, Ay := -1 } : Ax).Ok from ⟨⟨show (0 : Int) ≤ 1 by decide, show (1 : Int) ≤ 2 by decide⟩, Ax.DH.n, Ax.DH.ring, Ax.DH.s0, Ax.DH.s1, Ax.DH.ln⟩).offer 3).offer 31)).tell h0 h1 Hj, rfl⟩)
  (fun k u h0 h1 => .inr ⟨_, by
   have hs := h.set h0 h1 ((h k h0 h1).typed u)
   exact (show (if decide (0 < (C1 (X.at_ k) u).2) = true then (X.set k (C1 (X.at_ k) u).1).tell k Ox else X.set k (C1 (X.at_ k) u).1).HN by
    split
    ·exact hs.tell h0 h1 Ox
    ·exact hs), Ij X k u⟩)
  (fun k z h0 h1 => .inr ⟨_, h.set h0 h1 ((h k h0 h1).Gy z), rfl⟩) (fun k h0 h1 => .inr ⟨_, h.steps (U := fun _ => True) (Gh X h0 h1), rfl⟩) a
theorem Calm.act {H : AI} (h : H.Calm) (ho : H.HN) (a : Bz) : (H.act a).1.Calm := by
 unfold AI.act
 split
 ·exact h
 ·rcases S1 H.begun ho.begun a with e | ⟨Y, hy, e⟩
  ·rw [e]
   intro k h0 h1
   rw [JN h0 h1]
   exact fun hs => (h k h0 h1 hs).heard
  ·rw [e]
   exact fun k h0 h1 hs => S4 hy h0 h1 hs
theorem Wo : AI.new.Home := by
 have hb : ∀ b : Int, 2 ≤ b → b ≤ 5 → (AI.new.w.AN.at b).here = true → False := fun b b0 b1 => by
  have : b = 2 ∨ b = 3 ∨ b = 4 ∨ b = 5 := by omega
  rcases this with e | e | e | e <;> subst e <;> decide
 have hs : ∀ k, 0 ≤ k → k < 4 → (AI.new.at_ k).state = 2 → False := fun k h0 h1 e => by
  rw [TV h0 h1] at e
  exact absurd (show (0 : Int) = 2 from e) (by decide)
 exact ⟨AG.WY, UN, UB, fun k h0 h1 e => (hs k h0 h1 e).elim, fun j k j0 j1 k0 k1 e => (hs j j0 j1 e).elim, fun b b0 b1 e => (hb b b0 b1 e).elim, fun b b0 b1 e => (hb b b0 b1 e).elim, fun b c b0 b1 c0 c1 e => (hb b b0 b1 e).elim⟩
structure K5 (H : AI) : Prop where
 home : H.Home
 zero : H.Zero
 calm : H.Calm
 live : H.Live
theorem K5.act {H : AI} (h : H.K5) (a : Bz) : (H.act a).1.K5 := ⟨Home.B8.act h.home a, Zero.B8.act h.zero a, h.calm.act h.home.NS a, h.live.act a⟩
theorem K5.run : ∀ (l : List Bz) {H : AI}, H.K5 → (H.run l).1.K5
 | [], _, h => h
 | a :: r, _, h => K5.run r (h.act a)
theorem K5.cut {H : AI} (h : H.K5) {k : Int} (h0 : 0 ≤ k) (h1 : k < 4) : (H.at_ k).pg.cut = false := by
 by_cases e : (H.at_ k).state = 0
 ·rw [h.zero k h0 h1 e]; rfl
 ·exact (h.calm k h0 h1 e).cut
end AI
section
variable {V : AO} {ls : Vector BI 4} {ev : List Event} {k : Int}
variable (hF : (A5 V ls ev).K5)
include hF
end
end Go.Ing
/- Behind each act: things. -/
namespace Go.Ing
open Go
namespace AI
def K8 (H : AI) : Prop := H.Home ∧ AE.LU AG.new [] H.w
theorem K8.B8 : Rv (fun q => q.length ≤ 1000) K8 where
 lines h h0 h1 := Home.B8.lines h.1 h0 h1
 begun {H} h := ⟨Home.B8.begun h.1, by rw [(Nb H).1]; exact h.2⟩
 step {H X} h s := by
  refine ⟨Home.B8.step h.1 s, ?_⟩
  have tr : ∀ {l w}, AE.LU H.w l w → AE.LU AG.new [] w := fun k i => ⟨(k i).1.trans (h.2 i).1, (k i).2.trans (h.2 i).2⟩
  cases s with
  | told _ _ _ _ => exact h.2
  | Bb _ _ _ => exact h.2
  | free _ _ _ => exact h.2
  | @goes k w s es h0 h1 g =>
   rw [(KJ H k w s es).1]
   cases g with
   | left _ _ => exact tr (AE.MP (AE.S8 _ True _) rfl (fun _ => trivial))
   | @PQ _ u _ _ =>
    rcases AE.Mj H.w u with ⟨_, e, _⟩ | ⟨e, _⟩
    ·rw [e]; exact h.2
    ·rw [e]
     show AE.LU AG.new [] (AE.ID H.w u _).w
     rw [AE.SE]; exact h.2
   | bR _ _ _ _ => exact tr (AE.MP (AE.S8 _ True _) rfl (fun _ => trivial))
   | round => exact tr (AE.MD AE.UG h.1.FZ.HP)
 next h h0 h1 hs e := ⟨Home.B8.next h.1 h0 h1 hs e, h.2⟩
 Jw h h0 h1 hz := ⟨Home.B8.Jw h.1 h0 h1 hz, h.2⟩
 byte h h0 h1 hs := ⟨Home.B8.byte h.1 h0 h1 hs, h.2⟩
 Gy h h0 h1 hs := ⟨Home.B8.Gy h.1 h0 h1 hs, h.2⟩
theorem Of : AI.new.K8 := ⟨Wo, fun _ => ⟨rfl, rfl⟩⟩
end AI
section
variable {w : AG} (h : AE.LU AG.new [] w)
include h
theorem Se (i : Int) : (!decide ((w.AL.at i).name = (AG.new.AL.at i).name) || !decide ((w.AL.at i).kind = (AG.new.AL.at i).kind)) = false := by
 rw [(h i).1, (h i).2]; simp
end
theorem Sp {w : AG} (hg : w.BZ = true) {i : Int} (h0 : 0 ≤ i) (h9 : i < 9) : (decide ((w.room i).1 < 0) || decide (6 ≤ (w.room i).1)) = false := by
 have := AG.Vs hg h0 h9
 rw [decide_eq_false (by omega), decide_eq_false (by omega)]; rfl
end Go.Ing
