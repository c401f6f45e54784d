/- What the functions that the law of this seat reaches compute, and the plain laws of it. No condition. -/
import Derived.Test.YtoidpggbbfncpaaGreatDoorTopTurnsEc3
import Derived.Test.YtoidpggbbfncpaaGreatDoorTopTurnsRa1
import Derived.Test.YtoidpggbbfncpaaGreatDoorTopTurnsRb1
set_option linter.unusedSimpArgs false
set_option linter.unusedVariables false
/- Who is far perceives nothing: plain laws. -/
namespace Go.Ing
open Go
namespace AH
theorem KG (w : AH) (e : Event) : ∀ n : Nat, (w.Hm e n).kind = e.kind ∧ (w.Hm e n).DZ = e.DZ ∧ (w.Hm e n).room = e.room ∧ (w.Hm e n).other = e.other ∧ (w.Hm e n).n = e.n ∧ (w.Hm e n).Hg = e.Hg ∧ (w.Hm e n).ER = e.ER ∧ (w.Hm e n).Bs = e.Bs ∧ (w.Hm e n).text = e.text
 | 0 => ⟨rfl, rfl, rfl, rfl, rfl, rfl, rfl, rfl, rfl⟩
 | k + 1 => KG w e k
end AH
namespace AF
section
variable {b c rc : Int} {S : Int → Prop} {T : AF}
section
variable (c0 : 0 ≤ c) (c6 : c < 6) (hn : c ≠ b)
include c0 c6 hn
end
end
end AF
end Go.Ing
/- What others are told is not empty: plain laws. -/
namespace Go.Ing
open Go
namespace AH
end AH
theorem Pn {α : Type} {d : α} {xs : List α} {i : Nat} (h : i < xs.length) : xs.getD i d ∈ xs := by
 rw [List.getD_eq_getElem?_getD, List.getElem?_eq_getElem h]
 exact List.getElem_mem h
namespace AF
theorem Mq : ∀ (l : List Int) (T : AF), (T.DB l).out.length = T.out.length + l.length
 | [], T => rfl
 | i :: r, T => by rw [DB, Mq r, FV]; show T.out.length + 1 + r.length = _; rw [List.length_cons]; omega
theorem NZ (v to : Int) : ∀ (l : List Int) (T : AF), (T.Ej v to l).out.length ≤ T.out.length + l.length
 | [], T => Nat.le_refl _
 | i :: r, T => by
  have h1 := NZ v to r (T.Cn v to i)
  have h2 := T.NT v to i
  rw [Ej, List.length_cons]; omega
theorem SG (T : AF) {l : List Int} (hl : l.length ≤ 9) (o : Order) : (T.KO l o).out.length ≤ T.out.length + 10 := by
 have h := (EU T.w l o.nth o.name o.Bj).length_le
 unfold KO
 rw [Mq]
 split
 ·rw [CE]; omega
 ·omega
theorem YI (T : AF) (o : Order) : (T.get o).out.length ≤ T.out.length + 11 := by
 have hb := T.Hw o.second
 unfold get
 split
 ·split
  ·omega
  ·have := SG (T.box o.second).1 (AH.H6 (T.box o.second).1.w 2 (T.box o.second).2.1) o
   omega
 ·have := SG T T.Ip o
  omega
theorem Vj (T : AF) (o : Order) : (T.E8 o).out.length ≤ T.out.length + 11 := by
 have hb := T.P5 o
 unfold E8
 split
 ·omega
 ·unfold RR
  have h := (EU (T.Cs o).1.w (T.Cs o).1.own o.nth o.name o.Bj).length_le
  have h9 := (T.Cs o).1.KN
  refine Nat.le_trans (NZ _ _ _ _) ?_
  split
  ·rw [CE]; omega
  ·omega
theorem Vk (T : AF) (o : Order) : (T.E0 o).out.length ≤ T.out.length + 2 := by
 unfold E0
 generalize (if (!decide (o.nth = 1) || o.Bj) = true then [] else o.name) = nm
 have hs := T.G9 nm
 split
 ·omega
 ·refine Nat.le_trans (Nat.le_of_eq (CE _ _)) ?_
  split
  ·show (T.A6 nm).1.out.length + 1 ≤ _; omega
  ·show (T.A6 nm).1.out.length + 1 ≤ _; omega
theorem NU (T : AF) (first : Bool) (i : Int) (v : Bool) (k : Int) : (T.before first i v k).out.length = T.out.length + 1 := by
 unfold before
 split
 ·rw [FV]; rfl
 ·exact FV T k i
theorem X2 (T : AF) (o : Order) : (T.set o).out.length ≤ T.out.length + 1 := by
 unfold set
 split
 ·unfold Gz
  split
  ·rw [CE]; exact Nat.le_refl _
  ·split
   ·rw [CE]; exact Nat.le_refl _
   ·refine Nat.le_trans (Nat.le_of_eq (Cb _ _)) ?_
    split <;> exact Nat.le_refl _
 ·split
  ·rw [CE]; exact Nat.le_refl _
  ·split
   ·rw [CE]; exact Nat.le_refl _
   ·split
    ·exact Nat.le_of_eq (NU T _ _ _ _)
    ·exact Nat.le_of_eq (NU T _ _ _ _)
theorem Wc (T : AF) (d : Int) : (T.walk d).out.length ≤ T.out.length + 11 := by
 unfold walk
 split
 ·rw [CE]; omega
 ·split
  ·rw [CE]; omega
  ·refine Nat.le_trans (J4 _).2.2 ?_
   rw [Cb]
   show (T.out ++ [_]).length + 1 + 9 ≤ _
   simp
theorem Ub (T : AF) (o : Order) : (T.act o).out.length ≤ T.out.length + 11 := by
 unfold act
 split
 ·exact T.Wc _
 ·split
  ·exact Nat.le_trans (T.J4).2.2 (by omega)
  ·split
   ·rw [(T.HO _ _).2.2]; omega
   ·split
    ·rw [Cb]; omega
    ·split
     ·rw [(T.Nf).2.1, LN]; omega
     ·split
      ·exact Nat.le_trans (T.Vk o) (by omega)
      ·split
       ·exact T.YI o
       ·split
        ·exact T.Vj o
        ·exact Nat.le_trans (T.X2 o) (by omega)
theorem Xc.len {X : AH} {b : Int} {o : Order} (h : Xc X b o) : (D8 X b o).2.1.length ≤ 11 := by rw [h.out]; exact Ub ⟨X, b, []⟩ o
end AF
end Go.Ing
/- A round of all fights: plain functions and laws. -/
namespace Go.Ing
open Go
theorem Cp (d : Int) : -2 ≤ d.tmod 3 ∧ d.tmod 3 ≤ 2 := by
 have h1 := Int.tmod_lt_of_pos d (show (0 : Int) < 3 by decide)
 have h2 := Int.tmod_lt_of_pos (-d) (show (0 : Int) < 3 by decide)
 rw [Int.neg_tmod] at h2
 omega
namespace AF
def FT (w : AH) (b : Int) : AF := ⟨w.C3 b { w.AN.at b with BL := 1 }, b, []⟩
def Fz (w : AH) (b : Int) : AF := ((FT w b).kind 15).E4
def JA (w : AH) (b : Int) : AF := (Fz w b).DO b { (Fz w b).w.AN.at b with room := 0, BL := 10 }
def Hn (w : AH) (b : Int) : AF := if decide (b < 2) = true then (Fz w b).DO b default else ((JA w b).kind 17).look
def LX (draw b : Int) : Int := 1 + (draw.tmod 3 + 3 + b).tmod 3
def CC (w : AH) (b B0 n : Int) : AF := (AF.BO ⟨w, b, []⟩ { Fk 14 with other := B0, n := n }).DO B0 { w.AN.at B0 with BL := max 0 ((w.AN.at B0).BL - n) }
def EG (draw b : Int) (s : AH × List Event) : AH × List Event :=
 if (!(s.1.AN.at b).here || decide ((s.1.AN.at b).B0 = 0)) = true then s
 else if (!(s.1.AN.at ((s.1.AN.at b).B0 - 1)).here || !decide ((s.1.AN.at ((s.1.AN.at b).B0 - 1)).room = (s.1.AN.at b).room)) = true then (s.1.C3 b { s.1.AN.at b with B0 := 0 }, s.2)
 else if decide (((CC s.1 b ((s.1.AN.at b).B0 - 1) (LX draw b)).w.AN.at ((s.1.AN.at b).B0 - 1)).BL = 0) = true then ((Hn (CC s.1 b ((s.1.AN.at b).B0 - 1) (LX draw b)).w ((s.1.AN.at b).B0 - 1)).w, (s.2 ++ (CC s.1 b ((s.1.AN.at b).B0 - 1) (LX draw b)).out) ++ (Hn (CC s.1 b ((s.1.AN.at b).B0 - 1) (LX draw b)).w ((s.1.AN.at b).B0 - 1)).out)
 else ((CC s.1 b ((s.1.AN.at b).B0 - 1) (LX draw b)).w, s.2 ++ (CC s.1 b ((s.1.AN.at b).B0 - 1) (LX draw b)).out)
def DT (X : AH) (draw : Int) : Nat → AH × List Event
 | 0 => (X, [])
 | k + 1 => EG draw k (DT X draw k)
def CU (X : AH) (draw : Int) : AH × List Event × Int := if (!X.Bg) = true then (X, [], 2) else ((DT X draw 6).1, (DT X draw 6).2, 0)
theorem Hp {X : AH} {draw k : Int} (h : 0 ≤ k) : DT X draw (k + 1).toNat = EG draw k (DT X draw k.toNat) := by
 obtain ⟨m, rfl⟩ := Int.eq_ofNat_of_zero_le h
 rfl
theorem Le {draw b : Int} (h : 0 ≤ b) : 1 ≤ LX draw b ∧ LX draw b ≤ 3 := by
 unfold LX
 have := Cp draw
 have h2 : 0 ≤ draw.tmod 3 + 3 + b := by omega
 have h3 := Int.tmod_nonneg (a := draw.tmod 3 + 3 + b) 3 h2
 have h4 := Int.tmod_lt_of_pos (draw.tmod 3 + 3 + b) (show (0 : Int) < 3 by decide)
 omega
structure Yq (x : Aj) : Prop where
 room : 0 ≤ x.room ∧ x.room < 6
 BL : 0 ≤ x.BL ∧ x.BL ≤ 10
 B0 : 0 ≤ x.B0 ∧ x.B0 ≤ 6
 off : x.here = false → x.B0 = 0
 alive : x.here = decide (0 < x.BL)
theorem ah {x : Aj} (h : AH.Df x = false) : Yq x := by
 simp only [AH.Df, Bool.or_eq_false_iff, decide_eq_false_iff_not, Bool.and_eq_false_iff, Bool.not_eq_false', bne_eq_false_iff_eq] at h
 obtain ⟨⟨⟨⟨⟨⟨⟨q1, q2⟩, q3⟩, q4⟩, q5⟩, q6⟩, q7⟩, q8⟩ := h
 refine ⟨by omega, by omega, by omega, fun e => ?_, q8⟩
 rcases q7 with q | q
 ·rw [e] at q; cases q
 ·exact of_decide_eq_true q
theorem bg {x : Aj} (h : Yq x) : AH.Df x = false := by
 have h1 := h.room; have h2 := h.BL; have h3 := h.B0
 simp only [AH.Df, Bool.or_eq_false_iff, decide_eq_false_iff_not, Bool.and_eq_false_iff, Bool.not_eq_false', bne_eq_false_iff_eq]
 refine ⟨⟨⟨⟨⟨⟨⟨by omega, by omega⟩, by omega⟩, by omega⟩, by omega⟩, by omega⟩, ?_⟩, h.alive⟩
 cases hh : x.here with
 | true => exact .inl rfl
 | false => exact .inr (decide_eq_true (h.off hh))
theorem G6 {X : AH} (h : X.Bg = true) {b : Int} (h0 : 0 ≤ b) (h6 : b < 6) : Yq (X.AN.at b) := ah (AH.FK h h0 h6)
theorem Jh {X : AH} (h : X.Bg = true) {b : Int} (h0 : 0 ≤ b) (h6 : b < 6) {x : Aj} (hx : Yq x) (hh : (X.AN.at b).here = true → x.here = true) : (X.C3 b x).Bg = true :=
 AH.Ii h h0 h6 (bg hx) fun i i0 i9 e1 e2 => by
  rcases (AH.HL h i0 i9).CW with ⟨a, _⟩ | ⟨_, _, a⟩ | ⟨a, _⟩
  ·omega
  ·rw [e2] at a; exact hh a
  ·omega
theorem Uw (X : AH) (b : Int) (x y : Aj) : (X.C3 b x).C3 b y = X.C3 b y := by
 unfold AH.C3
 show ({ X with AN := (X.AN.put b x).put b y } : AH) = _
 rw [Vector.D4]
section
variable {w : AH} {b B0 n : Int} (hg : w.Bg = true) (hw : w.DE) (f0 : 0 ≤ B0) (f6 : B0 < 6) (hh : (w.AN.at B0).here = true)
include hg hw f0 f6 hh
theorem LG : (FT (CC w b B0 n).w B0).Fit := by
 have e : (CC w b B0 n).w.C3 B0 { (CC w b B0 n).w.AN.at B0 with BL := 1 } = w.C3 B0 { w.AN.at B0 with BL := 1 } := by
  show (w.C3 B0 _).C3 B0 { (w.C3 B0 _).AN.at B0 with BL := 1 } = _
  rw [Uw, AH.EH f0 f6]
 have k := G6 hg f0 f6
 refine ⟨⟨f0, f6⟩, ?_, ?_, ?_⟩
 ·show ((CC w b B0 n).w.C3 B0 _).DE
  rw [e]; exact Eh hw (hw.be B0)
 ·show ((CC w b B0 n).w.C3 B0 _).Bg = true
  rw [e]
  exact Jh hg f0 f6 ⟨k.room, ⟨show (0 : Int) ≤ 1 by decide, show (1 : Int) ≤ 10 by decide⟩, k.B0, k.off, by rw [show ({ w.AN.at B0 with BL := 1 } : Aj).here = true from hh]; rfl⟩ fun _ => hh
 ·show (((CC w b B0 n).w.C3 B0 _).AN.at B0).here = true
  rw [e, AH.EH f0 f6]; exact hh
theorem Rg (hn : 0 < (w.AN.at B0).BL - n) (h1 : 0 ≤ n) : (CC w b B0 n).w.Bg = true ∧ (CC w b B0 n).w.DE := by
 have k := G6 hg f0 f6
 have hk := k.BL
 refine ⟨Jh hg f0 f6 ⟨k.room, ⟨?_, ?_⟩, k.B0, k.off, ?_⟩ fun _ => hh, Eh hw (hw.be B0)⟩
 ·show 0 ≤ max 0 ((w.AN.at B0).BL - n); omega
 ·show max 0 ((w.AN.at B0).BL - n) ≤ 10; omega
 ·show (w.AN.at B0).here = decide (0 < max 0 ((w.AN.at B0).BL - n))
  rw [hh, decide_eq_true (by omega)]
end
theorem Ja (w : AH) (b : Int) : (Fz w b).b = b ∧ (Fz w b).out = ((FT w b).kind 15).out := Q1 ((FT w b).kind 15)
theorem QZ (w : AH) (b : Int) : (JA w b).b = b ∧ (JA w b).out = ((FT w b).kind 15).out ∧ (JA w b).w = (Fz w b).w.C3 b { (Fz w b).w.AN.at b with room := 0, BL := 10 } := by
 have h := Ja w b
 unfold JA
 rw [(C9 _ _ _).1, (C9 _ _ _).2.1, (C9 _ _ _).2.2]
 exact ⟨h.1, h.2, rfl⟩
theorem Yc (D : AH) {b : Int} (hb : 0 ≤ b ∧ b < 6) : ({ D with AN := (D.AN.put b { D.AN.at b with room := 0 }).put b { (D.AN.put b { D.AN.at b with room := 0 }).at b with BL := 10 } } : AH) = D.C3 b { D.AN.at b with room := 0, BL := 10 } := by
 rw [Vector.CD hb.1 hb.2, Vector.D4]; rfl
theorem Ud {X F : AH} {b : Int} (h : F = ((FT X b).kind 15).E4.w) (x : Aj) : (Fz X b).DO b x = ⟨F.C3 b x, b, ((FT X b).kind 15).out⟩ := by
 subst h
 have e := Ja X b
 have h1 := C9 (Fz X b) b x
 cases hT : (Fz X b).DO b x with
 | mk w' b' o' =>
  rw [hT] at h1
  obtain ⟨q1, q2, q3⟩ := h1
  simp only at q1 q2 q3
  rw [q1, q2, q3, e.1, e.2]
  rfl
theorem YO {X F : AH} {b : Int} (h : F = ((FT X b).kind 15).E4.w) : JA X b = ⟨F.C3 b { F.AN.at b with room := 0, BL := 10 }, b, ((FT X b).kind 15).out⟩ := by
 have h' : (Fz X b).w = F := h.symm
 unfold JA
 rw [h', Ud h]
theorem Qq {w : AH} {b : Int} (h : (FT w b).Fit) : DI (FT w b) (Fz w b) ∧ ∀ j, 0 ≤ j → j < 9 → ¬ (((Fz w b).w.AO.at j).CW = 1 ∧ ((Fz w b).w.AO.at j).at_ = b) := by
 have g1 : DI (FT w b) ((FT w b).kind 15) := h.goes.Ed rfl rfl
 obtain ⟨g2, k⟩ := Pq g1.fit
 exact ⟨g1.trans g2, k⟩
theorem Rb {w : AH} {b : Int} (h : (FT w b).Fit) : (JA w b).Fit := by
 have g := (Qq h).1.fit
 have hb : 0 ≤ b ∧ b < 6 := h.b
 have e := QZ w b
 have eb := (Ja w b).1
 have gb := g.b
 have gh := g.here
 rw [eb] at gb gh
 have k := G6 g.gd hb.1 hb.2
 have gbr := g.br
 have ggd := g.gd
 obtain ⟨e1, _, e3⟩ := e
 generalize hD : (Fz w b).w = D at *
 have hx : (D.C3 b { D.AN.at b with room := 0, BL := 10 }).Bg = true := Jh ggd hb.1 hb.2 ⟨⟨Int.le_refl _, show (0 : Int) < 6 by decide⟩, ⟨show (0 : Int) ≤ 10 by decide, show (10 : Int) ≤ 10 by decide⟩, k.B0, k.off, gh⟩ fun _ => gh
 have hy : (D.C3 b { D.AN.at b with room := 0, BL := 10 }).DE := Eh gbr (gbr.be b)
 have hz : ((D.C3 b { D.AN.at b with room := 0, BL := 10 }).AN.at b).here = true := by rw [AH.EH hb.1 hb.2]; exact gh
 exact ⟨by rw [e1]; exact hb, by rw [e3]; exact hy, by rw [e3]; exact hx, by rw [e1, e3]; exact hz⟩
theorem Pl {w : AH} {b : Int} (h : (FT w b).Fit) : (Hn w b).w.Bg = true ∧ (Hn w b).w.DE ∧ (Hn w b).out.length ≤ 12 := by
 have hb : 0 ≤ b ∧ b < 6 := h.b
 obtain ⟨g, hk⟩ := Qq h
 unfold Hn
 split
 ·rw [(C9 _ _ _).2.1, (C9 _ _ _).2.2]
  refine ⟨AH.Ii (X := (Fz w b).w) g.fit.gd hb.1 hb.2 (by decide) fun i i0 i9 e1 e2 => absurd ⟨e1, e2⟩ (hk i i0 i9), Eh (X := (Fz w b).w) g.fit.br (by decide), ?_⟩
  rw [(Ja w b).2, LN]
  exact (by decide : (0 : Nat) + 1 ≤ 12)
 ·have f := Rb h
  have hl := J4 ((JA w b).kind 17)
  refine ⟨by rw [hl.1]; exact f.gd, by rw [hl.1]; exact f.br, ?_⟩
  have h2 := hl.2.2
  rw [LN, (QZ w b).2.1, LN] at h2
  exact Nat.le_trans h2 (by decide : (0 : Nat) + 1 + 1 + 9 ≤ 12)
theorem Fa {s : AH × List Event} {draw b : Int} (hg : s.1.Bg = true) (hw : s.1.DE) (h0 : 0 ≤ b) (h6 : b < 6) : (EG draw b s).1.Bg = true ∧ (EG draw b s).1.DE ∧ (EG draw b s).2.length ≤ s.2.length + 13 := by
 have kb := G6 hg h0 h6
 have hn := Le (draw := draw) h0
 unfold EG
 split
 ·exact ⟨hg, hw, by omega⟩
 ·rename_i h1
  simp only [Bool.or_eq_true, Bool.not_eq_true', decide_eq_true_eq, not_or, Bool.not_eq_false] at h1
  have kf := kb.B0
  split
  ·exact ⟨Jh hg h0 h6 ⟨kb.room, kb.BL, ⟨Int.le_refl _, show (0 : Int) ≤ 6 by decide⟩, fun _ => rfl, kb.alive⟩ fun h => h, Eh hw (hw.be b), Nat.le_add_right _ _⟩
  ·rename_i h2
   simp only [Bool.or_eq_true, Bool.not_eq_true', decide_eq_false_iff_not, not_or, Bool.not_eq_false, Decidable.not_not] at h2
   have hf := LG (b := b) (n := LX draw b) hg hw (B0 := (s.1.AN.at b).B0 - 1) (by omega) (by omega) h2.1
   have hso : (CC s.1 b ((s.1.AN.at b).B0 - 1) (LX draw b)).out.length = 1 := rfl
   split
   ·obtain ⟨d1, d2, d3⟩ := Pl hf
    refine ⟨d1, d2, ?_⟩
    show ((s.2 ++ _) ++ _).length ≤ _
    rw [List.length_append, List.length_append, hso]; omega
   ·rename_i h3
    have h3' : ¬ ((CC s.1 b ((s.1.AN.at b).B0 - 1) (LX draw b)).w.AN.at ((s.1.AN.at b).B0 - 1)).BL = 0 := fun e => h3 (decide_eq_true e)
    have e : ((CC s.1 b ((s.1.AN.at b).B0 - 1) (LX draw b)).w.AN.at ((s.1.AN.at b).B0 - 1)) = { s.1.AN.at ((s.1.AN.at b).B0 - 1) with BL := max 0 ((s.1.AN.at ((s.1.AN.at b).B0 - 1)).BL - LX draw b) } := Vector.CD (by omega) (by omega)
    rw [e] at h3'
    have h3'' : ¬ max 0 ((s.1.AN.at ((s.1.AN.at b).B0 - 1)).BL - LX draw b) = 0 := h3'
    obtain ⟨d1, d2⟩ := Rg (b := b) (n := LX draw b) hg hw (B0 := (s.1.AN.at b).B0 - 1) (by omega) (by omega) h2.1 (by omega) (by omega)
    refine ⟨d1, d2, ?_⟩
    show (s.2 ++ _).length ≤ _
    rw [List.length_append, hso]; omega
end AF
end Go.Ing
/- What a round takes: plain laws. -/
namespace Go.Ing
open Go
namespace AF
def QE (v : Vector Int 6) (e : Event) : Vector Int 6 := if decide (e.kind = 14) = true then v.put e.other (v.at e.other + e.n) else v
def P2 (v : Vector Bool 6) (e : Event) : Vector Bool 6 := if decide (e.kind = 15) = true then v.put e.DZ true else v
def EC (l : List Event) : Vector Int 6 := l.foldl QE (Vector.replicate 6 default)
def Fb (l : List Event) : Vector Bool 6 := l.foldl P2 (Vector.replicate 6 default)
theorem Oe (l : List Event) (e : Event) : EC (l ++ [e]) = QE (EC l) e := by simp [EC]
theorem Nk (l : List Event) (e : Event) : Fb (l ++ [e]) = P2 (Fb l) e := by simp [Fb]
def Quiet (q : List Event) : Prop := ∀ e ∈ q, e.kind ≠ 14 ∧ e.kind ≠ 15
theorem N0 : ∀ {q : List Event} (v : Vector Int 6) (u : Vector Bool 6), Quiet q → q.foldl QE v = v ∧ q.foldl P2 u = u
 | [], _, _, _ => ⟨rfl, rfl⟩
 | e :: r, v, u, h => by
  have he := h e (List.mem_cons_self ..)
  have hr : Quiet r := fun x hx => h x (List.mem_cons_of_mem _ hx)
  rw [List.foldl_cons, List.foldl_cons, QE, if_neg (by simp [he.1]), P2, if_neg (by simp [he.2])]
  exact N0 v u hr
theorem Rc {l q : List Event} (h : Quiet q) : EC (l ++ q) = EC l ∧ Fb (l ++ q) = Fb l := by
 unfold EC Fb
 rw [List.foldl_append, List.foldl_append]
 exact N0 _ _ h
theorem H0 (T : AF) (e : Event) : ∃ x : Event, (T.BO e).out = T.out ++ [x] ∧ x.kind = e.kind ∧ x.DZ = T.b ∧ x.other = e.other ∧ x.n = e.n := by
 obtain ⟨a1, a2, _, a4, a5, _⟩ := AH.KG T.w (T.Dl e) 6
 have e2 : (T.Dl e).kind = e.kind ∧ (T.Dl e).DZ = T.b ∧ (T.Dl e).other = e.other ∧ (T.Dl e).n = e.n := by
  unfold Dl
  split <;> exact ⟨rfl, rfl, rfl, rfl⟩
 exact ⟨_, rfl, a1.trans e2.1, a2.trans e2.2.1, a4.trans e2.2.2.1, a5.trans e2.2.2.2⟩
def M8 (T T' : AF) : Prop := ∃ q, T'.out = T.out ++ q ∧ ∀ e ∈ q, e.kind = 16
theorem M8.refl (T : AF) : M8 T T := ⟨[], by simp, fun _ h => by cases h⟩
theorem M8.tell {T T' : AF} (h : M8 T T') (s : Ap) : M8 T (T'.tell s) := by
 obtain ⟨q, e, k⟩ := h
 obtain ⟨x, e2, k2, _⟩ := H0 T' { Fk 16 with text := s }
 refine ⟨q ++ [x], ?_, fun y hy => ?_⟩
 ·show (T'.BO _).out = _
  rw [e2, e, List.append_assoc]
 ·rcases List.mem_append.1 hy with hy | hy
  ·exact k y hy
  ·have : y = x := by simpa using hy
   rw [this]; exact k2
theorem M8.look {T T' : AF} (h : M8 T T') : M8 T T'.look := by
 have hk : ∀ {T'' : AF}, M8 T T'' → ∀ k : Nat, M8 T (T''.FX k) := fun {T''} h' k => by
  induction k with
  | zero => exact h'
  | succ k ih =>
   unfold FX
   split
   ·exact ih.tell _
   ·exact ih
 unfold AF.look
 split
 ·exact h.tell _
 ·refine hk ?_ 6
  have ha : M8 T T'.Jl := (h.tell _).tell _
  unfold D5
  split
  ·exact ha.tell _
  ·exact ha
/-! #### who is struck, who dies -/
def calm (b : Int) (x : Aj) : Aj := { x with B0 := if x.B0 = b + 1 then 0 else x.B0 }
theorem W3 {b : Int} {x : Aj} (h : x.B0 = b + 1) : calm b x = { x with B0 := 0 } := by unfold calm; rw [if_pos h]
theorem XP {b : Int} {x : Aj} (h : ¬ x.B0 = b + 1) : calm b x = x := by unfold calm; rw [if_neg h]
theorem RQ (T : AF) (hb : 0 ≤ T.b) : ∀ k : Nat, k ≤ 6 → ∀ c : Int, 0 ≤ c → c < 6 → (T.DP k).w.AN.at c = if c < (k : Int) then calm T.b (T.w.AN.at c) else T.w.AN.at c
 | 0, _, c, c0, _ => by rw [if_neg (by omega)]; rfl
 | k + 1, hk, c, c0, c6 => by
  have ih := RQ T hb k (by omega)
  have ihk := ih k (by omega) (by omega)
  rw [if_neg (by omega)] at ihk
  have ihc := ih c c0 c6
  unfold DP
  rw [ihk]
  by_cases e : (T.w.AN.at (k : Int)).B0 = T.b + 1
  ·rw [if_pos (decide_eq_true e)]
   show (((T.DP k).w.AN.put (k : Int) { (T.DP k).w.AN.at (k : Int) with B0 := 0 }).at c) = _
   rw [IF _ _ _ _ (by omega) (by omega) c0]
   by_cases ec : c = (k : Int)
   ·subst ec
    rw [if_pos rfl, if_pos (by omega), ihk, W3 e]
   ·rw [if_neg ec, ihc]
    by_cases hl : c < (k : Int)
    ·rw [if_pos hl, if_pos (by omega)]
    ·rw [if_neg hl, if_neg (by omega)]
  ·rw [if_neg (by simpa using e), ihc]
   by_cases hl : c < (k : Int)
   ·rw [if_pos hl, if_pos (by omega)]
   ·rw [if_neg hl]
    by_cases ec : c = (k : Int)
    ·subst ec
     rw [if_pos (by omega), XP e]
    ·rw [if_neg (by omega)]
theorem O8 : ∀ (l : List Int) (T : AF), (T.Ca l).w.AN = T.w.AN
 | [], _ => rfl
 | i :: r, T => (O8 r (T.Ek i)).trans rfl
theorem Yl (T : AF) (hb : 0 ≤ T.b ∧ T.b < 6) {c : Int} (c0 : 0 ≤ c) (c6 : c < 6) : T.E4.w.AN.at c = if c = T.b then { T.w.AN.at c with B0 := 0 } else calm T.b (T.w.AN.at c) := by
 have hd := O8 T.own T
 have hdb := (IX T.own T).1
 have hk := RQ (T.Ca T.own) (by rw [hdb]; exact hb.1) 6 (Nat.le_refl _)
 rw [hd, hdb] at hk
 rw [L0]
 generalize (T.Ca T.own).DP 6 = D at *
 show (D.w.AN.put T.b { D.w.AN.at T.b with B0 := 0 }).at c = _
 rw [IF _ _ _ _ hb.1 hb.2 c0]
 have hc := hk c c0 c6
 rw [if_pos (by omega)] at hc
 by_cases e : c = T.b
 ·rw [if_pos e, if_pos e, ← e, hc]; rfl
 ·rw [if_neg e, if_neg e, hc]
structure bD (w w' : AH) (f : Int) : Prop where
 cU : ∀ c, 0 ≤ c → c < 6 → c ≠ f → (w'.AN.at c).BL = (w.AN.at c).BL ∧ (w'.AN.at c).room = (w.AN.at c).room ∧ (w'.AN.at c).here = (w.AN.at c).here ∧ ((w'.AN.at c).B0 = (w.AN.at c).B0 ∨ (w'.AN.at c).B0 = 0) ∧ (w'.AN.at c).B0 ≠ f + 1
 here : (w'.AN.at f).here = decide (2 ≤ f)
 B0 : (w'.AN.at f).B0 = 0
theorem Ty {w : AH} {f c : Int} (hf : 0 ≤ f ∧ f < 6) (c0 : 0 ≤ c) (c6 : c < 6) : (Fz w f).w.AN.at c = if c = f then { (FT w f).w.AN.at c with B0 := 0 } else calm f ((FT w f).w.AN.at c) := Yl ((FT w f).kind 15) hf c0 c6
theorem XO {w : AH} {f c : Int} (hf : 0 ≤ f ∧ f < 6) (c0 : 0 ≤ c) (c6 : c < 6) (hn : c ≠ f) : (Fz w f).w.AN.at c = calm f (w.AN.at c) := by
 have h0 : (FT w f).w.AN.at c = w.AN.at c := AH.GM hf.1 hf.2 c0 hn _
 rw [Ty hf c0 c6, h0, if_neg hn]
theorem YE (f : Int) (hf : 0 ≤ f) (x : Aj) : (calm f x).BL = x.BL ∧ (calm f x).room = x.room ∧ (calm f x).here = x.here ∧ ((calm f x).B0 = x.B0 ∨ (calm f x).B0 = 0) ∧ (calm f x).B0 ≠ f + 1 := by
 by_cases e : x.B0 = f + 1
 ·rw [W3 e]
  refine ⟨rfl, rfl, rfl, .inr rfl, ?_⟩
  show (0 : Int) ≠ f + 1
  omega
 ·rw [XP e]
  exact ⟨rfl, rfl, rfl, .inl rfl, e⟩
theorem Ui {w w1 w' : AH} {f : Int} (hf : 0 ≤ f ∧ f < 6) (ho : ∀ c, 0 ≤ c → c < 6 → c ≠ f → w1.AN.at c = calm f (w.AN.at c)) (he : ∀ c, 0 ≤ c → c < 6 → c ≠ f → w'.AN.at c = w1.AN.at c) (h1 : (w'.AN.at f).here = decide (2 ≤ f)) (h2 : (w'.AN.at f).B0 = 0) : bD w w' f := by
 refine ⟨fun c c0 c6 hn => ?_, h1, h2⟩
 rw [he c c0 c6 hn, ho c c0 c6 hn]
 exact YE f hf.1 _
theorem VR {w : AH} {f : Int} (h : (FT w f).Fit) : bD w (Hn w f).w f ∧ ∃ x q, (Hn w f).out = x :: q ∧ x.kind = 15 ∧ x.DZ = f ∧ Quiet q := by
 have hf : 0 ≤ f ∧ f < 6 := h.b
 have ho : ∀ c, 0 ≤ c → c < 6 → c ≠ f → (Fz w f).w.AN.at c = calm f (w.AN.at c) := fun c c0 c6 hn => XO hf c0 c6 hn
 obtain ⟨x, e1, k1, k2, _⟩ := H0 (FT w f) (Fk 15)
 have hout : ((FT w f).kind 15).out = [x] := e1
 have g := (Qq h).1.fit
 have gh := g.here
 rw [(Ja w f).1] at gh
 have hme := Ty (w := w) hf hf.1 hf.2
 rw [if_pos rfl] at hme
 have hfoe : ((Fz w f).w.AN.at f).B0 = 0 := by rw [hme]
 unfold Hn
 split
 ·rename_i c2
  have c2' := of_decide_eq_true c2
  rw [(C9 _ _ _).2.1, (C9 _ _ _).2.2, (Ja w f).2, hout]
  generalize (Fz w f).w = D at *
  refine ⟨Ui (w1 := D) hf ho (fun c c0 _ hn => AH.GM hf.1 hf.2 c0 hn _) ?_ ?_, x, [], rfl, k1, k2, fun e he => by cases he⟩
  ·show ((D.C3 f default).AN.at f).here = _
   rw [AH.EH hf.1 hf.2, decide_eq_false (by omega)]; rfl
  ·show ((D.C3 f default).AN.at f).B0 = _
   rw [AH.EH hf.1 hf.2]; rfl
 ·rename_i c2
  have c2' : ¬ f < 2 := fun e => c2 (decide_eq_true e)
  have hl := J4 ((JA w f).kind 17)
  have e2 := QZ w f
  obtain ⟨y, e3, k3, _⟩ := H0 (JA w f) (Fk 17)
  obtain ⟨q, e4, k4⟩ := (M8.refl ((JA w f).kind 17)).look
  have e3' : ((JA w f).kind 17).out = [x] ++ [y] := by rw [show ((JA w f).kind 17).out = _ from e3, e2.2.1, hout]
  rw [hl.1, e4, e3', show ((JA w f).kind 17).w = (JA w f).w from rfl, e2.2.2]
  generalize (Fz w f).w = D at *
  refine ⟨Ui (w1 := D) hf ho (fun c c0 _ hn => AH.GM hf.1 hf.2 c0 hn _) ?_ ?_, x, y :: q, rfl, k1, k2, fun e he => ?_⟩
  ·rw [AH.EH hf.1 hf.2, decide_eq_true (by omega)]; exact gh
  ·rw [AH.EH hf.1 hf.2]; exact hfoe
  ·rcases List.mem_cons.1 he with he | he
   ·rw [he, k3]; exact ⟨by decide, by decide⟩
   ·rw [k4 e he]; exact ⟨by decide, by decide⟩
/-! #### the count of a round -/
def dX (e : Event) : Prop := (e.kind = 14 → 1 ≤ e.n ∧ e.n ≤ 3 ∧ 0 ≤ e.other ∧ e.other < 6) ∧ (e.kind = 15 → 0 ≤ e.DZ ∧ e.DZ < 6)
structure Sj (X : AH) (s : AH × List Event) : Prop where
 ev : ∀ e ∈ s.2, dX e
 un : ∀ c, 0 ≤ c → c < 6 → (Fb s.2).at c = false → (s.1.AN.at c).BL = (X.AN.at c).BL - (EC s.2).at c ∧ (s.1.AN.at c).room = (X.AN.at c).room ∧ (s.1.AN.at c).here = (X.AN.at c).here
 di : ∀ c, 0 ≤ c → c < 6 → (Fb s.2).at c = true → (X.AN.at c).BL ≤ (EC s.2).at c ∧ (s.1.AN.at c).here = decide (2 ≤ c) ∧ (s.1.AN.at c).B0 = 0 ∧ ∀ a, 0 ≤ a → a < 6 → (s.1.AN.at a).B0 ≠ c + 1
theorem XK {α : Type} [Inhabited α] (c : Int) (c0 : 0 ≤ c) (c6 : c < 6) : (Vector.replicate 6 (default : α)).at c = default := by
 have : c = 0 ∨ c = 1 ∨ c = 2 ∨ c = 3 ∨ c = 4 ∨ c = 5 := by omega
 rcases this with rfl | rfl | rfl | rfl | rfl | rfl <;> rfl
theorem Sj.start (X : AH) : Sj X (X, []) := by
 have hh : ∀ c, 0 ≤ c → c < 6 → (EC []).at c = 0 := fun c c0 c6 => XK c c0 c6
 have hd : ∀ c, 0 ≤ c → c < 6 → (Fb []).at c = false := fun c c0 c6 => XK c c0 c6
 refine ⟨fun _ h => (by cases h), fun c c0 c6 _ => ⟨?_, rfl, rfl⟩, fun c c0 c6 h => ?_⟩
 ·show (X.AN.at c).BL = (X.AN.at c).BL - (EC []).at c
  rw [hh c c0 c6]; omega
 ·have h' : (Fb []).at c = true := h
  rw [hd c c0 c6] at h'; cases h'
theorem Sj.next {X : AH} {s : AH × List Event} {draw b : Int} (h : Sj X s) (hg : s.1.Bg = true) (hw : s.1.DE) (h0 : 0 ≤ b) (h6 : b < 6) : Sj X (EG draw b s) := by
 have kb := G6 hg h0 h6
 have hn := Le (draw := draw) h0
 unfold EG
 split
 ·exact h
 ·rename_i h1
  simp only [Bool.or_eq_true, Bool.not_eq_true', decide_eq_true_eq, not_or, Bool.not_eq_false] at h1
  have kf := kb.B0
  split
  ·have hb : ∀ c, 0 ≤ c → ((s.1.C3 b { s.1.AN.at b with B0 := 0 }).AN.at c).BL = (s.1.AN.at c).BL ∧ ((s.1.C3 b { s.1.AN.at b with B0 := 0 }).AN.at c).room = (s.1.AN.at c).room ∧ ((s.1.C3 b { s.1.AN.at b with B0 := 0 }).AN.at c).here = (s.1.AN.at c).here ∧ (((s.1.C3 b { s.1.AN.at b with B0 := 0 }).AN.at c).B0 = (s.1.AN.at c).B0 ∨ ((s.1.C3 b { s.1.AN.at b with B0 := 0 }).AN.at c).B0 = 0) := fun c c0 => by
    by_cases e : c = b
    ·subst e; rw [AH.EH h0 h6]; exact ⟨rfl, rfl, rfl, .inr rfl⟩
    ·rw [AH.GM h0 h6 c0 e]; exact ⟨rfl, rfl, rfl, .inl rfl⟩
   refine ⟨h.ev, fun c c0 c6 hd => ?_, fun c c0 c6 hd => ?_⟩
   ·obtain ⟨q1, q2, q3⟩ := h.un c c0 c6 hd
    obtain ⟨r1, r2, r3, _⟩ := hb c c0
    exact ⟨r1.trans q1, r2.trans q2, r3.trans q3⟩
   ·obtain ⟨q1, q2, q3, q4⟩ := h.di c c0 c6 hd
    obtain ⟨_, _, r3, r4⟩ := hb c c0
    refine ⟨q1, r3.trans q2, ?_, fun a a0 a6 => ?_⟩
    ·rcases r4 with r4 | r4
     ·exact r4.trans q3
     ·exact r4
    ·have := q4 a a0 a6
     rcases (hb a a0).2.2.2 with r | r
     ·rw [r]; exact this
     ·rw [r]; omega
  ·rename_i h2
   simp only [Bool.or_eq_true, Bool.not_eq_true', decide_eq_false_iff_not, not_or, Bool.not_eq_false, Decidable.not_not] at h2
   generalize hfo : (s.1.AN.at b).B0 - 1 = f at *
   generalize LX draw b = n at *
   have f0 : 0 ≤ f := by omega
   have f6 : f < 6 := by omega
   have hf := LG (b := b) (n := n) hg hw (B0 := f) f0 f6 h2.1
   have kf2 := (G6 hg f0 f6).BL
   obtain ⟨x, ex, k1, k2, k3, k4⟩ := H0 ⟨s.1, b, []⟩ { Fk 14 with other := f, n := n }
   have hso : (CC s.1 b f n).out = [x] := ex
   have hsw : (CC s.1 b f n).w = s.1.C3 f { s.1.AN.at f with BL := max 0 ((s.1.AN.at f).BL - n) } := rfl
   have k1' : x.kind = 14 := k1
   have k3' : x.other = f := k3
   have k4' : x.n = n := k4
   have hH : EC (s.2 ++ [x]) = (EC s.2).put f ((EC s.2).at f + n) := by rw [Oe, QE, if_pos (decide_eq_true k1'), k3', k4']
   have hD : Fb (s.2 ++ [x]) = Fb s.2 := by rw [Nk, P2, if_neg (by rw [k1']; decide)]
   have hnd : (Fb s.2).at f = false := by
    cases hh : (Fb s.2).at f with
    | false => rfl
    | true => exact absurd (by omega : (s.1.AN.at b).B0 = f + 1) ((h.di f f0 f6 hh).2.2.2 b h0 h6)
   have hfe := h.un f f0 f6 hnd
   have hxe : dX x := ⟨fun _ => by rw [k3', k4']; omega, fun e => by rw [k1'] at e; cases e⟩
   have hev : ∀ e ∈ s.2 ++ [x], dX e := fun e he => by
    rcases List.mem_append.1 he with he | he
    ·exact h.ev e he
    ·have : e = x := by simpa using he
     rw [this]; exact hxe
   have hwc : ∀ c, 0 ≤ c → c ≠ f → (CC s.1 b f n).w.AN.at c = s.1.AN.at c := fun c c0 hne => by rw [hsw]; exact AH.GM f0 f6 c0 hne _
   have hwf : (CC s.1 b f n).w.AN.at f = { s.1.AN.at f with BL := max 0 ((s.1.AN.at f).BL - n) } := by rw [hsw]; exact AH.EH f0 f6 _
   have hwa : ∀ a, 0 ≤ a → ((CC s.1 b f n).w.AN.at a).B0 = (s.1.AN.at a).B0 := fun a a0 => by
    by_cases e : a = f
    ·rw [e, hwf]
    ·rw [hwc a a0 e]
   have hHc : ∀ c, 0 ≤ c → c ≠ f → ((EC s.2).put f ((EC s.2).at f + n)).at c = (EC s.2).at c := fun c c0 hne => Vector.EZ f0 f6 c0 hne
   have hHf : ((EC s.2).put f ((EC s.2).at f + n)).at f = (EC s.2).at f + n := Vector.CD f0 f6
   split
   ·rename_i h3
    have h3' := of_decide_eq_true h3
    rw [hwf] at h3'
    have h3'' : max 0 ((s.1.AN.at f).BL - n) = 0 := h3'
    obtain ⟨dd, y, q, e2, y1, y2, y3⟩ := VR hf
    rw [e2, hso]
    generalize (Hn (CC s.1 b f n).w f).w = W at *
    have hA : EC (s.2 ++ [x] ++ y :: q) = (EC s.2).put f ((EC s.2).at f + n) ∧ Fb (s.2 ++ [x] ++ y :: q) = (Fb s.2).put f true := by
     have hq := Rc (l := s.2 ++ [x] ++ [y]) y3
     rw [show s.2 ++ [x] ++ y :: q = s.2 ++ [x] ++ [y] ++ q by simp, hq.1, hq.2, Oe, Nk, hH, hD, QE, if_neg (by rw [y1]; decide), P2, if_pos (decide_eq_true y1), y2]
     exact ⟨rfl, rfl⟩
    refine ⟨fun e he => ?_, fun c c0 c6 hd => ?_, fun c c0 c6 hd => ?_⟩
    ·rcases List.mem_append.1 he with he | he
     ·exact hev e he
     ·rcases List.mem_cons.1 he with he | he
      ·rw [he]; exact ⟨fun e => absurd (y1.symm.trans e) (by decide), fun _ => by rw [y2]; exact ⟨f0, f6⟩⟩
      ·exact ⟨fun e' => absurd e' (y3 e he).1, fun e' => absurd e' (y3 e he).2⟩
    ·have hd' : ((Fb s.2).put f true).at c = false := by rw [← hA.2]; exact hd
     have hne : c ≠ f := fun e => by
      rw [e, Vector.CD f0 f6] at hd'; cases hd'
     rw [Vector.EZ f0 f6 c0 hne] at hd'
     obtain ⟨q1, q2, q3⟩ := h.un c c0 c6 hd'
     obtain ⟨r1, r2, r3, _⟩ := dd.cU c c0 c6 hne
     rw [hwc c c0 hne] at r1 r2 r3
     show (W.AN.at c).BL = (X.AN.at c).BL - (EC (s.2 ++ [x] ++ y :: q)).at c ∧ _
     rw [hA.1, hHc c c0 hne]
     exact ⟨r1.trans q1, r2.trans q2, r3.trans q3⟩
    ·have hd' : ((Fb s.2).put f true).at c = true := by rw [← hA.2]; exact hd
     show (X.AN.at c).BL ≤ (EC (s.2 ++ [x] ++ y :: q)).at c ∧ _
     rw [hA.1]
     by_cases hne : c = f
     ·subst hne
      rw [hHf]
      refine ⟨by omega, dd.here, dd.B0, fun a a0 a6 => ?_⟩
      by_cases ea : a = c
      ·rw [ea, dd.B0]; omega
      ·exact (dd.cU a a0 a6 ea).2.2.2.2
     ·rw [Vector.EZ f0 f6 c0 hne] at hd'
      rw [hHc c c0 hne]
      obtain ⟨q1, q2, q3, q4⟩ := h.di c c0 c6 hd'
      obtain ⟨_, _, r3, r4, _⟩ := dd.cU c c0 c6 hne
      rw [hwc c c0 hne] at r3 r4
      refine ⟨q1, r3.trans q2, ?_, fun a a0 a6 => ?_⟩
      ·rcases r4 with r4 | r4
       ·exact r4.trans q3
       ·exact r4
      ·by_cases ea : a = f
       ·rw [ea, dd.B0]; omega
       ·have := q4 a a0 a6
        have r := (dd.cU a a0 a6 ea).2.2.2.1
        rw [hwc a a0 ea] at r
        rcases r with r | r
        ·rw [r]; exact this
        ·rw [r]; omega
   ·rename_i h3
    have h3' : ¬ ((CC s.1 b f n).w.AN.at f).BL = 0 := fun e => h3 (decide_eq_true e)
    rw [hwf] at h3'
    have h3'' : ¬ max 0 ((s.1.AN.at f).BL - n) = 0 := h3'
    rw [hso]
    refine ⟨hev, fun c c0 c6 hd => ?_, fun c c0 c6 hd => ?_⟩
    ·have hd' : (Fb s.2).at c = false := by rw [← hD]; exact hd
     show ((CC s.1 b f n).w.AN.at c).BL = (X.AN.at c).BL - (EC (s.2 ++ [x])).at c ∧ _
     rw [hH]
     by_cases hne : c = f
     ·subst hne
      rw [hHf, hwf]
      refine ⟨?_, hfe.2.1, hfe.2.2⟩
      show max 0 ((s.1.AN.at c).BL - n) = _
      have := hfe.1
      omega
     ·rw [hHc c c0 hne, hwc c c0 hne]
      exact h.un c c0 c6 hd'
    ·have hd' : (Fb s.2).at c = true := by rw [← hD]; exact hd
     have hne : c ≠ f := fun e => by rw [e, hnd] at hd'; cases hd'
     show (X.AN.at c).BL ≤ (EC (s.2 ++ [x])).at c ∧ _
     rw [hH, hHc c c0 hne]
     obtain ⟨q1, q2, q3, q4⟩ := h.di c c0 c6 hd'
     refine ⟨q1, by rw [hwc c c0 hne]; exact q2, by rw [hwc c c0 hne]; exact q3, fun a a0 a6 => by rw [hwa a a0]; exact q4 a a0 a6⟩
theorem Pc {X : AH} {draw : Int} (hg : X.Bg = true) (hw : X.DE) : ∀ k : Nat, k ≤ 6 → Sj X (DT X draw k) ∧ (DT X draw k).1.Bg = true ∧ (DT X draw k).1.DE ∧ (DT X draw k).2.length ≤ 13 * k
 | 0, _ => ⟨.start X, hg, hw, Nat.le_refl _⟩
 | k + 1, hk => by
  obtain ⟨h1, h2, h3, h4⟩ := Pc hg hw k (by omega)
  obtain ⟨g1, g2, g3⟩ := Fa (draw := draw) (b := (k : Int)) h2 h3 (by omega) (by omega)
  exact ⟨h1.next h2 h3 (by omega) (by omega), g1, g2, by show (EG draw k (DT X draw k)).2.length ≤ _; omega⟩
theorem WG {X : AH} {draw : Int} (hw : X.DE) (h : (CU X draw).2.2 = 0) : Sj X ((CU X draw).1, (CU X draw).2.1) ∧ (CU X draw).1.Bg = true ∧ (CU X draw).2.1.length ≤ 78 := by
 unfold CU at h ⊢
 split at h
 ·cases h
 ·rename_i h1
  rw [if_neg h1]
  obtain ⟨q1, q2, _, q4⟩ := Pc (draw := draw) (by simpa using h1) hw 6 (Nat.le_refl _)
  generalize DT X draw 6 = S at *
  exact ⟨q1, q2, Nat.le_trans q4 (by decide)⟩
end AF
end Go.Ing
/- The document's side of what beings do: plain functions and laws. -/
namespace Go.Ing
open Go
namespace AF
/-! #### names of players -/
def low (c : UInt8) : Bool := decide ((c.toNat : Int) < 97) || decide (122 < (c.toNat : Int))
def Hl (s : Ap) (k : Nat) : Bool := (s.drop k).all fun c => !low c
theorem VB {s : Ap} {k : Int} (h0 : 0 ≤ k) (h1 : k < s.length) : Hl s k.toNat = (!low (s.getD k.toNat 0) && Hl s (k + 1).toNat) := by
 have hk : k.toNat < s.length := by omega
 unfold Hl
 rw [List.drop_eq_getElem_cons hk, show (k + 1).toNat = k.toNat + 1 by omega, List.getD_eq_getElem?_getD, List.getElem?_eq_getElem hk]
 rfl
theorem Wq (s : Ap) : Hl s (s.length : Int).toNat = true := by
 unfold Hl
 rw [show (s.length : Int).toNat = s.length by omega, List.drop_length]; rfl
def XE : Ap := [115, 111, 109, 101, 111, 110, 101]
def dW : Ap := [121, 111, 117]
def FG (s : Ap) : Bool := Hl s 0 && (decide (1 ≤ (s.length : Int)) && decide ((s.length : Int) ≤ 8) && !decide (s = XE) && !decide (s = dW))
/-! #### who enters -/
def IY (X : AH) (s : Ap) (k : Int) : Bool := (X.AN.at k).here && decide ((X.AN.at k).name = s)
def CK (X : AH) : Nat → Int
 | 0 => -1
 | n + 1 => if (!(X.AN.at ((5 - n : Nat) : Int)).here && decide (2 ≤ ((5 - n : Nat) : Int))) = true then ((5 - n : Nat) : Int) else CK X n
theorem Ns {X : AH} {k : Int} (h0 : 0 ≤ k) (h5 : k ≤ 5) : CK X (5 - (k - 1)).toNat = if (!(X.AN.at k).here && decide (2 ≤ k)) = true then k else CK X (5 - k).toNat := by
 have e : (5 - (k - 1)).toNat = (5 - k).toNat + 1 := by omega
 rw [e, CK, show ((5 - (5 - k).toNat : Nat) : Int) = k by omega]
theorem XV {X : AH} {k : Int} (h2 : 2 ≤ k) (h5 : k ≤ 5) (h : (!(X.AN.at k).here) = false) : CK X (5 - (k - 1)).toNat = CK X (5 - k).toNat := by
 rw [Ns (by omega) h5, h]; rfl
theorem Vv {X : AH} {k : Int} (h2 : 2 ≤ k) (h5 : k ≤ 5) (h : (!(X.AN.at k).here) = true) : CK X (5 - (k - 1)).toNat = k := by
 rw [Ns (by omega) h5, h, decide_eq_true h2]; rfl
theorem Vi (X : AH) : CK X 6 = CK X 4 := by
 have h1 : CK X 6 = CK X 5 := by
  rw [CK, if_neg (by simp)]
 have h2 : CK X 5 = CK X 4 := by
  rw [CK, if_neg (by simp)]
 rw [h1, h2]
theorem Mb (X : AH) : ∀ n : Nat, n ≤ 6 → CK X n = -1 ∨ (2 ≤ CK X n ∧ CK X n ≤ 5)
 | 0, _ => .inl rfl
 | n + 1, h => by
  unfold CK
  split
  ·rename_i c
   rw [Bool.and_eq_true] at c
   have := of_decide_eq_true c.2
   exact .inr ⟨this, by omega⟩
  ·exact Mb X n (by omega)
def J2 (s : Ap) : Aj := { (default : Aj) with name := s, here := true, BL := 10 }
def JH (X : AH) (s : Ap) (b : Int) : AF := ((⟨X.C3 b (J2 s), b, []⟩ : AF).kind 17).look
def BU (X : AH) (s : Ap) : AH × Int × List Event × Int :=
 if (!X.Bg) = true then (X, 0, [], 2)
 else if (!FG s) = true then (X, 0, [], 1)
 else if (!B5 6 (fun k => !IY X s k) 6) = true then (X, 0, [], 1)
 else if decide (CK X 6 < 0) = true then (X, 0, [], 4)
 else ((JH X s (CK X 6)).w, CK X 6, (JH X s (CK X 6)).out, 0)
theorem QH (X : AH) (s : Ap) : (BU X s).2.2.1.length ≤ 10 := by
 unfold BU
 split
 ·exact Nat.zero_le _
 ·split
  ·exact Nat.zero_le _
  ·split
   ·exact Nat.zero_le _
   ·split
    ·exact Nat.zero_le _
    ·exact (J4 _).2.2
theorem P3 {X : AH} {s : Ap} {b : Int} (hg : X.Bg = true) (hw : X.DE) (hs : s.length ≤ 140737488351232) (h0 : 0 ≤ b) (h6 : b < 6) : Fit ⟨X.C3 b (J2 s), b, []⟩ :=
 ⟨⟨h0, h6⟩, Eh hw hs, Jh hg h0 h6 ⟨⟨Int.le_refl _, show (0 : Int) < 6 by decide⟩, ⟨show (0 : Int) ≤ 10 by decide, show (10 : Int) ≤ 10 by decide⟩, ⟨Int.le_refl _, show (0 : Int) ≤ 6 by decide⟩, fun _ => rfl, rfl⟩ fun _ => rfl, by
  show ((X.C3 b (J2 s)).AN.at b).here = true
  rw [AH.EH h0 h6]; rfl⟩
end AF
end Go.Ing
/- A round, as the document says it: plain laws. -/
namespace Go.Ing
open Go
theorem UR {α : Type} [Inhabited α] {n : Nat} {v u : Vector α n} (h : ∀ i : Int, 0 ≤ i → i < n → v.at i = u.at i) : v = u := by
 apply Vector.ext
 intro i hi
 have := h (i : Int) (by omega) (by omega)
 unfold Vector.at at this
 rw [List.getD_eq_getElem?_getD, List.getD_eq_getElem?_getD] at this
 simpa [hi] using this
namespace AF
def pre (o : List Event) (T : AF) : AF := ⟨T.w, T.b, o ++ T.out⟩
theorem RL (T : AF) {i : Int} (h0 : 0 ≤ i) (h9 : i < 9) (c : decide ((((T.w.AO.put i { T.w.AO.at i with CW := 0 }).put i { (T.w.AO.put i { T.w.AO.at i with CW := 0 }).at i with at_ := (T.w.AN.at T.b).room }).at i).kind = 2) = true) : ({ T.w with AO := ((T.w.AO.put i { T.w.AO.at i with CW := 0 }).put i { (T.w.AO.put i { T.w.AO.at i with CW := 0 }).at i with at_ := (T.w.AN.at T.b).room }).put i { ((T.w.AO.put i { T.w.AO.at i with CW := 0 }).put i { (T.w.AO.put i { T.w.AO.at i with CW := 0 }).at i with at_ := (T.w.AN.at T.b).room }).at i with on := false } } : AH) = (T.Ek i).w := by
 rw [Vector.CD h0 h9, Vector.CD h0 h9] at c
 rw [Vector.CD h0 h9, Vector.D4, Vector.CD h0 h9, Vector.D4]
 unfold Ek
 rw [if_pos (show decide ((T.w.AO.at i).kind = 2) = true from c)]; rfl
theorem UE (T : AF) {i : Int} (h0 : 0 ≤ i) (h9 : i < 9) (c : decide ((((T.w.AO.put i { T.w.AO.at i with CW := 0 }).put i { (T.w.AO.put i { T.w.AO.at i with CW := 0 }).at i with at_ := (T.w.AN.at T.b).room }).at i).kind = 2) = false) : ({ T.w with AO := (T.w.AO.put i { T.w.AO.at i with CW := 0 }).put i { (T.w.AO.put i { T.w.AO.at i with CW := 0 }).at i with at_ := (T.w.AN.at T.b).room } } : AH) = (T.Ek i).w := by
 rw [Vector.CD h0 h9, Vector.CD h0 h9] at c
 rw [Vector.CD h0 h9, Vector.D4]
 unfold Ek
 rw [if_neg (show ¬ decide ((T.w.AO.at i).kind = 2) = true from by rw [show decide ((T.w.AO.at i).kind = 2) = false from c]; decide)]; rfl
theorem QB {X : AH} (hw : X.DE) (draw : Int) : (CU X draw).2.1.length ≤ 78 := by
 by_cases h : (CU X draw).2.2 = 0
 ·exact (WG hw h).2.2
 ·unfold CU at h ⊢
  split
  ·exact Nat.zero_le _
  ·rename_i h1
   rw [if_neg h1] at h
   exact absurd rfl h
end AF
end Go.Ing
/- What beings do, as the document says it: plain laws. -/
namespace Go.Ing
open Go
namespace AF
def skip (w : AH) (u : Ap) (i : Int) : Bool := !decide (u = []) && !decide (u = (w.AO.at i).name)
/-! #### what is taken -/
/-! #### what is set -/
/-! #### what is let go of -/
theorem Tx (T : AF) (o : Order) : (T.Cs o).1.w = T.w ∧ (T.Cs o).1.b = T.b := by
 unfold Cs
 split
 ·exact T.JW o.second
 ·split
  ·exact T.JD o.second
  ·exact ⟨rfl, rfl⟩
theorem QJ (T : AF) (o : Order) : 0 ≤ (T.Cs o).2.1 ∧ (T.Cs o).2.1 < 9 := by
 unfold Cs
 split
 ·exact T.YG o.second
 ·split
  ·have := T.Lz o.second; omega
  ·exact ⟨Int.le_refl 0, show (0 : Int) < 9 by decide⟩
theorem XQ {T : AF} {o : Order} (hv : o.verb = 8 ∨ o.verb = 9 ∨ o.verb = 10) (h : (T.Cs o).2.2 = true) : M1 (T.Cs o).1 o.verb (T.Cs o).2.1 := by
 unfold M1
 rw [(T.Tx o).1]
 unfold Cs at h ⊢
 split at h
 ·rename_i h2
  rw [if_pos h2]
  obtain ⟨a0, a9, hk, _⟩ := XT h
  have := of_decide_eq_true h2
  exact .inr (.inr ⟨by omega, by omega, a0, a9, hk⟩)
 ·rename_i h2
  rw [if_neg h2]
  split at h
  ·rename_i h3
   rw [if_pos h3]
   obtain ⟨a0, a6, _, hs⟩ := Jz h
   exact .inr (.inl ⟨of_decide_eq_true h3, a0, a6, (AH.HG (AH.Kw hs).2.1).2.2⟩)
  ·rename_i h3
   rw [if_neg h3]
   refine .inl ?_
   rcases hv with e | e | e
   ·exact e
   ·exact absurd (decide_eq_true e) h2
   ·exact absurd (decide_eq_true e) h3
def Kr (T : AF) (o : Order) : List Int := BP T.w T.own o.nth o.name o.Bj
def Qd (T : AF) (o : Order) : AF := if decide (((T.Kr o).length : Int) = 0) = true then T.tell OU else T
theorem Zo {T : AF} {o : Order} (h : decide (((T.Kr o).length : Int) = 0) = true) : T.Qd o = T.tell OU := if_pos h
theorem Zx {T : AF} {o : Order} (h : decide (((T.Kr o).length : Int) = 0) = false) : T.Qd o = T := if_neg (by rw [h]; decide)
theorem ZX (T : AF) (o : Order) : (T.Qd o).w = T.w ∧ (T.Qd o).b = T.b ∧ (T.Qd o).out.length ≤ T.out.length + 1 := by
 unfold Qd
 split
 ·exact ⟨rfl, rfl, by rw [CE]; exact Nat.le_refl _⟩
 ·exact ⟨rfl, rfl, Nat.le_succ _⟩
def Q4 (T : AF) (to : Int) (o : Order) (k : Nat) : AF := (T.Qd o).Ej o.verb to ((T.Kr o).take k)
theorem Me {v to : Int} : ∀ (l : List Int) (T : AF) (i : Int), T.Ej v to (l ++ [i]) = (T.Ej v to l).Cn v to i
 | [], _, _ => rfl
 | _ :: r, _, i => Me r _ i
theorem YX {l : List Int} {k : Int} (h0 : 0 ≤ k) (h1 : k < l.length) : l.take (k + 1).toNat = l.take k.toNat ++ [l.getD k.toNat 0] := by
 obtain ⟨m, rfl⟩ := Int.eq_ofNat_of_zero_le h0
 have hm : m < l.length := by omega
 show l.take (m + 1) = l.take m ++ [l.getD m 0]
 rw [List.take_add_one, List.getElem?_eq_getElem hm, List.getD_eq_getElem?_getD, List.getElem?_eq_getElem hm]
 rfl
theorem Ic {T : AF} {to : Int} {o : Order} {k : Int} (h0 : 0 ≤ k) (h1 : k < (T.Kr o).length) : T.Q4 to o (k + 1).toNat = (T.Q4 to o k.toNat).Cn o.verb to ((T.Kr o).getD k.toNat 0) := by
 unfold Q4
 rw [YX h0 h1, Me]
theorem WX {T : AF} {to : Int} {o : Order} : T.Q4 to o ((T.Kr o).length : Int).toNat = T.RR to o := by
 unfold Q4
 rw [show ((T.Kr o).length : Int).toNat = (T.Kr o).length by omega, List.take_length]
 rfl
theorem SD {T : AF} {o : Order} : (∀ i ∈ T.Kr o, Ij T.w T.b i) ∧ (T.Kr o).Nodup ∧ (T.Kr o).length ≤ 9 :=
 ⟨fun _ hi => (FH (Dn hi)).S7, List.Nodup.sublist (EU ..) (AH.Pu ..), Nat.le_trans (EU ..).length_le (AF.KN T)⟩
theorem Oj (v to : Int) : ∀ (l : List Int) (T : AF), (T.Ej v to l).out.length ≤ T.out.length + l.length ∧ (T.Ej v to l).b = T.b
 | [], _ => ⟨Nat.le_refl _, rfl⟩
 | i :: r, T => by
  obtain ⟨h1, h2⟩ := Oj v to r (T.Cn v to i)
  have h3 := T.NT v to i
  rw [Ej, List.length_cons]
  exact ⟨by omega, h2.trans (T.WZ v to i)⟩
theorem XD (T : AF) (to : Int) (o : Order) (k : Nat) : (T.Q4 to o k).out.length ≤ T.out.length + 10 ∧ (T.Q4 to o k).b = T.b := by
 have hs := T.ZX o
 obtain ⟨h1, h2⟩ := Oj o.verb to ((T.Kr o).take k) (T.Qd o)
 have h3 := (SD (T := T) (o := o)).2.2
 have h4 : ((T.Kr o).take k).length ≤ (T.Kr o).length := (List.take_sublist ..).length_le
 unfold Q4
 exact ⟨by omega, h2.trans hs.2.1⟩
theorem M1.dz {T : AF} {v to : Int} (h : M1 T v to) (hv : v = 10) : to < 6 := by
 rcases h with h | ⟨_, _, h, _⟩ | ⟨_, h, _⟩ <;> omega
theorem VD {T X : AF} {o : Order} {p : Bool} (hX : X = (T.Cs o).1) (hp : p = (T.Cs o).2.2) (h : (!p) = true) : T.E8 o = X := by
 rw [hp] at h
 rw [hX]
 exact if_pos h
theorem Tc {T X : AF} {o : Order} {to : Int} {p : Bool} (hX : X = (T.Cs o).1) (ht : to = (T.Cs o).2.1) (hp : p = (T.Cs o).2.2) (h : (!p) = false) : T.E8 o = X.RR to o ∧ 0 ≤ to ∧ to < 9 ∧ (o.verb = 8 ∨ o.verb = 9 ∨ o.verb = 10 → M1 X o.verb to) := by
 rw [hp] at h
 have h2 : (T.Cs o).2.2 = true := by simpa using h
 rw [hX, ht]
 exact ⟨if_neg (by rw [h]; decide), (T.QJ o).1, (T.QJ o).2, fun hv => XQ hv h2⟩
/-! #### what a being does -/
theorem F6 {T : AF} {o : Order} (h : o.verb < 6) : T.act o = T.walk o.verb := by
 unfold act; rw [if_pos (decide_eq_true h)]
theorem NH (X : AH) (b : Int) (o : Order) : (D8 X b o).2.1.length ≤ 11 := by
 unfold D8
 split
 ·exact Nat.zero_le _
 ·split
  ·exact Nat.zero_le _
  ·split
   ·exact Nat.zero_le _
   ·have := Ub (⟨X, b, []⟩ : AF) o
    exact Nat.le_trans this (Nat.le_refl 11)
end AF
end Go.Ing
/- Engine: the same rules, said shorter. -/
namespace Go.Ing
open Go
section
variable {F : List (Nat × Value)} {v0 v1 v2 v3 v4 v5 v6 v7 v8 v9 v10 v11 : Value}
theorem Sub.t1 (k0 : Nat) (h0 : lk k0 F = some v0 := by rfl) : Sub F [(k0, v0)] := .cons h0 (.nil _)
theorem Sub.t2 (k0 k1 : Nat) (h0 : lk k0 F = some v0 := by rfl) (h1 : lk k1 F = some v1 := by rfl) : Sub F [(k0, v0), (k1, v1)] := .cons h0 (.cons h1 (.nil _))
theorem Sub.t3 (k0 k1 k2 : Nat) (h0 : lk k0 F = some v0 := by rfl) (h1 : lk k1 F = some v1 := by rfl) (h2 : lk k2 F = some v2 := by rfl) : Sub F [(k0, v0), (k1, v1), (k2, v2)] := .cons h0 (.cons h1 (.cons h2 (.nil _)))
theorem Sub.t4 (k0 k1 k2 k3 : Nat) (h0 : lk k0 F = some v0 := by rfl) (h1 : lk k1 F = some v1 := by rfl) (h2 : lk k2 F = some v2 := by rfl) (h3 : lk k3 F = some v3 := by rfl) : Sub F [(k0, v0), (k1, v1), (k2, v2), (k3, v3)] := .cons h0 (.cons h1 (.cons h2 (.cons h3 (.nil _))))
theorem Sub.t5 (k0 k1 k2 k3 k4 : Nat) (h0 : lk k0 F = some v0 := by rfl) (h1 : lk k1 F = some v1 := by rfl) (h2 : lk k2 F = some v2 := by rfl) (h3 : lk k3 F = some v3 := by rfl) (h4 : lk k4 F = some v4 := by rfl) : Sub F [(k0, v0), (k1, v1), (k2, v2), (k3, v3), (k4, v4)] := .cons h0 (.cons h1 (.cons h2 (.cons h3 (.cons h4 (.nil _)))))
theorem Sub.t6 (k0 k1 k2 k3 k4 k5 : Nat) (h0 : lk k0 F = some v0 := by rfl) (h1 : lk k1 F = some v1 := by rfl) (h2 : lk k2 F = some v2 := by rfl) (h3 : lk k3 F = some v3 := by rfl) (h4 : lk k4 F = some v4 := by rfl) (h5 : lk k5 F = some v5 := by rfl) : Sub F [(k0, v0), (k1, v1), (k2, v2), (k3, v3), (k4, v4), (k5, v5)] := .cons h0 (.cons h1 (.cons h2 (.cons h3 (.cons h4 (.cons h5 (.nil _))))))
theorem Sub.t7 (k0 k1 k2 k3 k4 k5 k6 : Nat) (h0 : lk k0 F = some v0 := by rfl) (h1 : lk k1 F = some v1 := by rfl) (h2 : lk k2 F = some v2 := by rfl) (h3 : lk k3 F = some v3 := by rfl) (h4 : lk k4 F = some v4 := by rfl) (h5 : lk k5 F = some v5 := by rfl) (h6 : lk k6 F = some v6 := by rfl) : Sub F [(k0, v0), (k1, v1), (k2, v2), (k3, v3), (k4, v4), (k5, v5), (k6, v6)] := .cons h0 (.cons h1 (.cons h2 (.cons h3 (.cons h4 (.cons h5 (.cons h6 (.nil _)))))))
theorem Sub.t8 (k0 k1 k2 k3 k4 k5 k6 k7 : Nat) (h0 : lk k0 F = some v0 := by rfl) (h1 : lk k1 F = some v1 := by rfl) (h2 : lk k2 F = some v2 := by rfl) (h3 : lk k3 F = some v3 := by rfl) (h4 : lk k4 F = some v4 := by rfl) (h5 : lk k5 F = some v5 := by rfl) (h6 : lk k6 F = some v6 := by rfl) (h7 : lk k7 F = some v7 := by rfl) : Sub F [(k0, v0), (k1, v1), (k2, v2), (k3, v3), (k4, v4), (k5, v5), (k6, v6), (k7, v7)] := .cons h0 (.cons h1 (.cons h2 (.cons h3 (.cons h4 (.cons h5 (.cons h6 (.cons h7 (.nil _))))))))
theorem Sub.t9 (k0 k1 k2 k3 k4 k5 k6 k7 k8 : Nat) (h0 : lk k0 F = some v0 := by rfl) (h1 : lk k1 F = some v1 := by rfl) (h2 : lk k2 F = some v2 := by rfl) (h3 : lk k3 F = some v3 := by rfl) (h4 : lk k4 F = some v4 := by rfl) (h5 : lk k5 F = some v5 := by rfl) (h6 : lk k6 F = some v6 := by rfl) (h7 : lk k7 F = some v7 := by rfl) (h8 : lk k8 F = some v8 := by rfl) : Sub F [(k0, v0), (k1, v1), (k2, v2), (k3, v3), (k4, v4), (k5, v5), (k6, v6), (k7, v7), (k8, v8)] := .cons h0 (.cons h1 (.cons h2 (.cons h3 (.cons h4 (.cons h5 (.cons h6 (.cons h7 (.cons h8 (.nil _)))))))))
theorem Sub.t10 (k0 k1 k2 k3 k4 k5 k6 k7 k8 k9 : Nat) (h0 : lk k0 F = some v0 := by rfl) (h1 : lk k1 F = some v1 := by rfl) (h2 : lk k2 F = some v2 := by rfl) (h3 : lk k3 F = some v3 := by rfl) (h4 : lk k4 F = some v4 := by rfl) (h5 : lk k5 F = some v5 := by rfl) (h6 : lk k6 F = some v6 := by rfl) (h7 : lk k7 F = some v7 := by rfl) (h8 : lk k8 F = some v8 := by rfl) (h9 : lk k9 F = some v9 := by rfl) : Sub F [(k0, v0), (k1, v1), (k2, v2), (k3, v3), (k4, v4), (k5, v5), (k6, v6), (k7, v7), (k8, v8), (k9, v9)] := .cons h0 (.cons h1 (.cons h2 (.cons h3 (.cons h4 (.cons h5 (.cons h6 (.cons h7 (.cons h8 (.cons h9 (.nil _))))))))))
theorem Sub.t11 (k0 k1 k2 k3 k4 k5 k6 k7 k8 k9 k10 : Nat) (h0 : lk k0 F = some v0 := by rfl) (h1 : lk k1 F = some v1 := by rfl) (h2 : lk k2 F = some v2 := by rfl) (h3 : lk k3 F = some v3 := by rfl) (h4 : lk k4 F = some v4 := by rfl) (h5 : lk k5 F = some v5 := by rfl) (h6 : lk k6 F = some v6 := by rfl) (h7 : lk k7 F = some v7 := by rfl) (h8 : lk k8 F = some v8 := by rfl) (h9 : lk k9 F = some v9 := by rfl) (h10 : lk k10 F = some v10 := by rfl) : Sub F [(k0, v0), (k1, v1), (k2, v2), (k3, v3), (k4, v4), (k5, v5), (k6, v6), (k7, v7), (k8, v8), (k9, v9), (k10, v10)] := .cons h0 (.cons h1 (.cons h2 (.cons h3 (.cons h4 (.cons h5 (.cons h6 (.cons h7 (.cons h8 (.cons h9 (.cons h10 (.nil _)))))))))))
end
section
variable {P : Program} {n : Nat} {w0 : World} {M : List Nat} {Q : Exit → Go.Act → World → Prop} {F F' : List (Nat × Value)} {L L' A K : List Ac} {ops : Array Oper} {rest l : List Oper} {d id : Nat} {op : Op} {T : TypeId} {pos : String} {Co : Array Edge} {v v' : Value} {x y : Code}
theorem Gs (h : GL P n w0 M l.toArray (Exit.then (y.wp P Q) Q) l F L) : G P n w0 M (.seq (.region id l.toArray false) y) Q F L := Ao (AJ h)
theorem CG {z : Code} (h : GL P n w0 M l.toArray (Exit.then (y.wp P (Exit.then (z.wp P Q) Q)) (Exit.then (z.wp P Q) Q)) l F L) : G P n w0 M (.seq (.seq (.region id l.toArray false) y) z) Q F L := Ao (Ao (AJ h))
theorem Gn (hs : Sub F F') (h : G P n w0 M y Q F' L) : GL P n w0 M ops (Exit.then (y.wp P Q) Q) [] F L := AQ (AB hs (AA h))
theorem Gt (h : PS P n w0 M op T F L v L') (k : GL P n w0 M ops Q rest ((d, v) :: F) L') (hd : Nat.blt d n = true := by rfl) : GL P n w0 M ops Q (⟨some d, op, T, pos, Co, none⟩ :: rest) F L := J9 hd h k
theorem Gm {x : Operand} (h : ev F x = some v) (k : GL P n w0 M ops Q rest ((d, v) :: F) L) (hd : Nat.blt d n = true := by rfl) : GL P n w0 M ops Q (⟨some d, .move x, T, pos, Co, none⟩ :: rest) F L := J9 hd (AE h) k
theorem Ga {x : Operand} (h : ev F x = some v) (k : GL P n w0 M ops Q rest ((d, v) :: F) L) (hd : Nat.blt d n = true := by rfl) : GL P n w0 M ops Q (⟨some d, .assign x, T, pos, Co, none⟩ :: rest) F L := J9 hd (A0 h) k
theorem Bi {j : Nat} {z : Bool} (t : Nat) (hj : (ops[j]?).bind (·.dst) = some t) (hb : lk t F = some (.bool z)) (h : z = true → PS P n w0 M op T F L v L) (k : GL P n w0 M ops Q rest ((d, cv z v) :: F) L) (hd : Nat.blt d n = true := by rfl) : GL P n w0 M ops Q (⟨some d, op, T, pos, Co, some (j, true)⟩ :: rest) F L := ZJ hj hb hd h k
theorem Ba {j : Nat} {z : Bool} (t : Nat) (hj : (ops[j]?).bind (·.dst) = some t) (hb : lk t F = some (.bool z)) (h : z = false → PS P n w0 M op T F L v L) (k : GL P n w0 M ops Q rest ((d, cv (!z) v) :: F) L) (hd : Nat.blt d n = true := by rfl) : GL P n w0 M ops Q (⟨some d, op, T, pos, Co, some (j, false)⟩ :: rest) F L := ZA hj hb hd h k
theorem Gc {c : Operand} {b : Bool} (ht : b = true → G P n w0 M x Q F L) (hf : b = false → G P n w0 M y Q F L) (hc : ev F c = some (.bool b) := by rfl) : G P n w0 M (.cond c x y) Q F L := Np hc ht hf
end
section
variable {P : Program} {n : Nat} {w0 : World} {M : List Nat} {Q : Exit → Go.Act → World → Prop} {l : List Oper} {Rs : List Nat} {F : List (Nat × Value)}
variable {k i j d : Nat} {V A : List Nat} {D : List (Nat × (Nat × Value))} {L : List Ac} {op : Op} {T : TypeId} {pos : String} {Co : Array Edge} {v v' : Value}
theorem Pf (i : Nat) (ho : l[i]? = some ⟨some d, op, T, pos, Co, none⟩) (h : PS P n w0 M op T (Er D Co.toList ++ F) L v L) (k' : JE P n w0 M Q l Rs F k (i :: V) (i :: A) ((i, (d, v)) :: D) L) (hc : We l V i Co.toList = true := by kernel_rfl) (hlk : TR F d v := by first | exact .inl rfl | exact .inr rfl) : JE P n w0 M Q l Rs F (k + 1) V A D L :=
 BZ i ho rfl hc (Lb (IT h)) k' hlk
theorem Hf {j : Nat} {y : Bool} (i t : Nat) (ho : l[i]? = some ⟨some d, op, T, pos, Co, some (j, false)⟩) (hj : (l.toArray[j]?).bind (·.dst) = some t) (hb : lk t (Er D Co.toList ++ F) = some (.bool y)) (h : y = false → PS P n w0 M op T (Er D Co.toList ++ F) L v L) (k' : JE P n w0 M Q l Rs F k (i :: V) (i :: A) ((i, (d, cv (!y) v)) :: D) L) (hc : We l V i Co.toList = true := by kernel_rfl) (hlk : TR F d (cv (!y) v) := by first | exact .inl rfl | exact .inr rfl) : JE P n w0 M Q l Rs F (k + 1) V A D L :=
 BZ i ho rfl hc (G2 (t := t) hj hb (fun q => IT (h q))) k' hlk
theorem MU {j : Nat} {y : Bool} (i t : Nat) (ho : l[i]? = some ⟨some d, op, T, pos, Co, some (j, true)⟩) (hj : (l.toArray[j]?).bind (·.dst) = some t) (hb : lk t (Er D Co.toList ++ F) = some (.bool y)) (h : y = true → PS P n w0 M op T (Er D Co.toList ++ F) L v L) (k' : JE P n w0 M Q l Rs F k (i :: V) (i :: A) ((i, (d, cv y v)) :: D) L) (hc : We l V i Co.toList = true := by kernel_rfl) (hlk : TR F d (cv y v) := by first | exact .inl rfl | exact .inr rfl) : JE P n w0 M Q l Rs F (k + 1) V A D L :=
 BZ i ho rfl hc (Rh (t := t) hj hb (fun q => IT (h q))) k' hlk
theorem Pk (h : JP P n w0 M Q l Rs F i D L A) (hr : reaches Rs i j = true := by kernel_rfl) : JP P n w0 M Q l Rs F i D L (j :: A) := VQ hr h
theorem Po (ho : l[j]? = some ⟨some d, op, T, pos, Co, none⟩) (h : PS P n w0 M op T (Er D Co.toList ++ F) L v' L) (hl : M4 j D = some (d, v)) (e : v' = v) (k' : JP P n w0 M Q l Rs F i D L A) : JP P n w0 M Q l Rs F i D L (j :: A) := Wx ho (Lb (IT h)) hl e k'
end
section
variable {P : Program} {n : Nat} {w0 : World} {M : List Nat} {F : List (Nat × Value)} {L : List Ac}
theorem cF {x : Operand} {c : Bool} {v : Value} (h : ev F x = some (cv (!c) v)) (q : c = false) : ev F x = some v := Bh h (by rw [q]; rfl)
theorem Ah {T U f off b o : Nat} {x : Operand} (hf : FA P T f off) (hx : ev F x = some (.pointer (some ⟨b, o, none⟩))) : PS P n w0 M (.fieldAddr T x f) U F L (.pointer (some ⟨b, o + off, none⟩)) L := Qv hf hx
theorem BT {T : TypeId} {x : Operand} {p : Addr} (hx : ev F x = some (.pointer (some p))) : PS P n w0 M (.nilCheck x) T F L (.pointer (some p)) L := Rw hx
end
theorem AU.ar {α : Type} {n : Nat} [Inhabited α] {e : α → List Value} {sz : Nat} (fe : Flat e sz) {i : Int} (h : 0 ≤ i ∧ i < (n : Int)) : AU (B3 (n := n) e) e (i.toNat * sz) sz (fun v => v.at i) (fun v y => v.put i y) := AU.arr fe h.1 h.2
class Nz (a : Prop) (b : outParam Prop) : Prop where
 h : a → b
theorem kz {a b : Prop} [i : Nz a b] (h : a) : b := i.h h
section
variable {p : Prop} [Decidable p] {a b : Bool} {x y : Prop} {m n : Int}
instance (priority := low) : Nz p p := ⟨id⟩
instance : Nz (decide p = true) p := ⟨of_decide_eq_true⟩
instance (priority := low) : Nz (decide p = false) (¬ p) := ⟨of_decide_eq_false⟩
instance : Nz (decide (m < n) = false) (n ≤ m) := ⟨fun h => Int.not_lt.1 (of_decide_eq_false h)⟩
instance : Nz (decide (m ≤ n) = false) (n < m) := ⟨fun h => Int.not_le.1 (of_decide_eq_false h)⟩
instance [i : Nz (a = false) x] : Nz ((!a) = true) x := ⟨fun h => i.h (by simpa using h)⟩
instance [i : Nz (a = true) x] : Nz ((!a) = false) x := ⟨fun h => i.h (by simpa using h)⟩
instance [i : Nz (a = true) x] [j : Nz (b = true) y] : Nz ((a && b) = true) (x ∧ y) := ⟨fun h => ⟨i.h (du ▸ h).1, j.h (du ▸ h).2⟩⟩
instance [i : Nz (a = false) x] [j : Nz (b = false) y] : Nz ((a || b) = false) (x ∧ y) := ⟨fun h => ⟨i.h (dt ▸ h).1, j.h (dt ▸ h).2⟩⟩
instance [i : Nz (a = true) x] [j : Nz (b = true) y] : Nz ((a || b) = true) (x ∨ y) := ⟨fun h => (eB ▸ h : a = true ∨ b = true).imp i.h j.h⟩
instance [i : Nz (a = false) x] [j : Nz (b = false) y] : Nz ((a && b) = false) (x ∨ y) := ⟨fun h => (eA ▸ h : a = false ∨ b = false).imp i.h j.h⟩
end
section
variable {F : List (Nat × Value)} {P : Program} {L L' K rs : List Ac} {r r' s : Ac} {x : Operand} {v : Value} {xs : List Operand} {vs : List Value}
theorem LA.h : LA (r :: L) r r' (r' :: L) := .head
theorem LA.t (h : LA L r r' L') : LA (s :: L) r r' (s :: L') := .tail h
theorem LS.h : LS (r :: L) r L := .head
theorem LS.t (h : LS L r L') : LS (s :: L) r (s :: L') := .tail h
theorem Ax.n : Ax L [] L := .nil
theorem Ax.c (h : LS L r L') (hs : Ax L' rs K) : Ax L (r :: rs) K := .cons h hs
theorem ON.n : ON F [] [] := .nil
theorem ON.c (h : ev F x = some v) (hs : ON F xs vs) : ON F (x :: xs) (v :: vs) := .cons h hs
theorem Rs.n : Rs P F L [] [] := .nil
end
section
variable {α : Type} {a b c d e f g h i j : α} {l : List α}
theorem _root_.List.Mem.m0 : List.Mem a (a :: l) := .head _
theorem _root_.List.Mem.m1 : List.Mem a (b :: a :: l) := .tail _ .m0
theorem _root_.List.Mem.m2 : List.Mem a (b :: c :: a :: l) := .tail _ .m1
theorem _root_.List.Mem.m3 : List.Mem a (b :: c :: d :: a :: l) := .tail _ .m2
theorem _root_.List.Mem.m4 : List.Mem a (b :: c :: d :: e :: a :: l) := .tail _ .m3
theorem _root_.List.Mem.m5 : List.Mem a (b :: c :: d :: e :: f :: a :: l) := .tail _ .m4
theorem _root_.List.Mem.m6 : List.Mem a (b :: c :: d :: e :: f :: g :: a :: l) := .tail _ .m5
theorem _root_.List.Mem.m7 : List.Mem a (b :: c :: d :: e :: f :: g :: h :: a :: l) := .tail _ .m6
end
end Go.Ing
/- A house's data, in Lean, and their parts. -/
namespace Go.Ing
open Go
structure A2 where
 state : Int
 Az : Int
 Dk : AP
 EN : BG
 out : Ay
 told : Hd
instance : Inhabited A2 := ⟨⟨0, 0, default, ⟨[], false, false, ⟨none, 0, 0⟩⟩, ⟨⟨none, 0, 0⟩, 0, false, [], false⟩, ⟨none, 0, 0⟩⟩⟩
def A2.enc (x : A2) : List Value := Au x.state ++ Au x.Az ++ AP.enc x.Dk ++ BG.enc x.EN ++ Ay.enc x.out ++ Ec x.told
theorem A2.fl : Flat A2.enc 22 := ⟨fun x => by simp [A2.enc, BG.fl.len, Ay.fl.len, AP.fl.len, PB.len, Bv.len], fun x v hv => by
 simp only [A2.enc, List.mem_append] at hv
 rcases hv with ((((h | h) | h) | h) | h) | h
 ·exact Bv.one _ v h
 ·exact Bv.one _ v h
 ·exact AP.fl.one _ v h
 ·exact BG.fl.one _ v h
 ·exact Ay.fl.one _ v h
 ·exact PB.one _ v h⟩
theorem A2.l0 : AU A2.enc (Au) 0 1 (fun x => x.state) (fun x y => { x with state := y }) :=
 AU.Ee Bv (fun _ => []) (fun x => Au x.Az ++ AP.enc x.Dk ++ BG.enc x.EN ++ Ay.enc x.out ++ Ec x.told) (fun _ => rfl) (fun x => by simp [A2.enc]) (fun x y => by simp [A2.enc])
theorem A2.l1 : AU A2.enc (Au) 1 1 (fun x => x.Az) (fun x y => { x with Az := y }) :=
 AU.Ee Bv (fun x => Au x.state) (fun x => AP.enc x.Dk ++ BG.enc x.EN ++ Ay.enc x.out ++ Ec x.told) (fun x => by simp [Bv.len]) (fun x => by simp [A2.enc]) (fun x y => by simp [A2.enc])
theorem A2.l2 : AU A2.enc (AP.enc) 2 10 (fun x => x.Dk) (fun x y => { x with Dk := y }) :=
 AU.Ee AP.fl (fun x => Au x.state ++ Au x.Az) (fun x => BG.enc x.EN ++ Ay.enc x.out ++ Ec x.told) (fun x => by simp [Bv.len]) (fun x => by simp [A2.enc]) (fun x y => by simp [A2.enc])
theorem A2.l3 : AU A2.enc (BG.enc) 12 4 (fun x => x.EN) (fun x y => { x with EN := y }) :=
 AU.Ee BG.fl (fun x => Au x.state ++ Au x.Az ++ AP.enc x.Dk) (fun x => Ay.enc x.out ++ Ec x.told) (fun x => by simp [AP.fl.len, Bv.len]) (fun x => by simp [A2.enc]) (fun x y => by simp [A2.enc])
theorem A2.l4 : AU A2.enc (Ay.enc) 16 5 (fun x => x.out) (fun x y => { x with out := y }) :=
 AU.Ee Ay.fl (fun x => Au x.state ++ Au x.Az ++ AP.enc x.Dk ++ BG.enc x.EN) (fun x => Ec x.told) (fun x => by simp [BG.fl.len, AP.fl.len, Bv.len]) (fun x => by simp [A2.enc]) (fun x y => by simp [A2.enc])
theorem A2.l5 : AU A2.enc (Ec) 21 1 (fun x => x.told) (fun x y => { x with told := y }) :=
 AU.Ee PB (fun x => Au x.state ++ Au x.Az ++ AP.enc x.Dk ++ BG.enc x.EN ++ Ay.enc x.out) (fun _ => []) (fun x => by simp [BG.fl.len, Ay.fl.len, AP.fl.len, Bv.len]) (fun x => by simp [A2.enc]) (fun x y => by simp [A2.enc])
structure AL where
 w : AH
 Aw : R9 A2 4
 CA : Int
 last : Hd
def AL.enc (x : AL) : List Value := AH.enc x.w ++ B3 A2.enc x.Aw ++ Au x.CA ++ Ec x.last
theorem AL.fl : Flat AL.enc 255 := ⟨fun x => by simp [AL.enc, (Ha A2.fl).len, AH.fl.len, PB.len, Bv.len], fun x v hv => by
 simp only [AL.enc, List.mem_append] at hv
 rcases hv with ((h | h) | h) | h
 ·exact AH.fl.one _ v h
 ·exact (Ha A2.fl).one _ v h
 ·exact Bv.one _ v h
 ·exact PB.one _ v h⟩
theorem AL.l0 : AU AL.enc (AH.enc) 0 165 (fun x => x.w) (fun x y => { x with w := y }) :=
 AU.Ee AH.fl (fun _ => []) (fun x => B3 A2.enc x.Aw ++ Au x.CA ++ Ec x.last) (fun _ => rfl) (fun x => by simp [AL.enc]) (fun x y => by simp [AL.enc])
theorem AL.l1 : AU AL.enc (B3 A2.enc) 165 88 (fun x => x.Aw) (fun x y => { x with Aw := y }) :=
 AU.Ee (Ha A2.fl) (fun x => AH.enc x.w) (fun x => Au x.CA ++ Ec x.last) (fun x => by simp [AH.fl.len]) (fun x => by simp [AL.enc]) (fun x y => by simp [AL.enc])
theorem AL.l2 : AU AL.enc (Au) 253 1 (fun x => x.CA) (fun x y => { x with CA := y }) :=
 AU.Ee Bv (fun x => AH.enc x.w ++ B3 A2.enc x.Aw) (fun x => Ec x.last) (fun x => by simp [(Ha A2.fl).len, AH.fl.len]) (fun x => by simp [AL.enc]) (fun x y => by simp [AL.enc])
theorem AL.l3 : AU AL.enc (Ec) 254 1 (fun x => x.last) (fun x y => { x with last := y }) :=
 AU.Ee PB (fun x => AH.enc x.w ++ B3 A2.enc x.Aw ++ Au x.CA) (fun _ => []) (fun x => by simp [(Ha A2.fl).len, AH.fl.len, Bv.len]) (fun x => by simp [AL.enc]) (fun x y => by simp [AL.enc])
end Go.Ing
/- What a house does: plain functions. -/
namespace Go.Ing
open Go
structure As where
 state : Int
 Az : Int
 Dk : AP
 now : Ap
 Cr : Bool
 ret : Bool
 queue : List Ap
 pg : Page.Pg
 wait : List Ap
 told : List Ap
instance : Inhabited As := ⟨⟨0, 0, default, [], false, false, [], ⟨0, false, [], false⟩, [], []⟩⟩
structure AI where
 w : AH
 Aw : Vector As 4
 CA : Int
 last : List Event
namespace As
def Lt (s : As) : Bool := decide ((s.wait.length : Int) ≤ 60) && decide ((s.pg.ring.length : Int) ≤ 700) && decide (0 ≤ s.pg.shown) && decide (s.pg.shown ≤ 200)
def line (s : As) (u : Ap) : As :=
 if (!s.Lt) = true then s else if s.pg.cut = true then s
 else if decide (60 ≤ (s.wait.length : Int)) = true then { s with pg := { s.pg with cut := true } } else { s with wait := s.wait ++ [u] }
def note (s : As) (u : Ap) : As := if (!s.pg.cut) = true then { s with told := s.told ++ [u] } else s
def tell (s : As) (u : Ap) : As := (s.line u).note u
def send (s : As) (u : Ap) : As := if (!s.Lt) = true then s else if s.pg.cut = true then s else { s with pg := Page.put s.pg u }
def BX (s : As) : As :=
 if (!s.Lt || decide (s.Dk.B1 < 0) || decide (200 < s.Dk.B1)) = true then s
 else { s with pg := (Page.BX s.Dk.B1 s.wait s.pg).1, wait := (Page.BX s.Dk.B1 s.wait s.pg).2 }
def FN (s : As) : As := { s with pg := { s.pg with shown := 0, B7 := false } }
def bR (s : As) (n : Int) : Nat := (max 0 (min n (s.pg.ring.length : Int))).toNat
def G7 (s : As) (n : Int) : As := { s with pg := { s.pg with ring := s.pg.ring.drop (s.bR n) } }
def out (s : As) (n : Int) : Ap := s.pg.ring.take (s.bR n)
def LH (s : As) : Bool :=
 !(decide (60 < (s.now.length : Int)) || decide (6 < (s.queue.length : Int)) || (s.Cr && decide (60 < (s.now.length : Int))) || (s.ret && (!decide (s.now = []) || s.Cr))) && (s.queue ++ [s.now]).all Bb.F0
def typed (s : As) (u : Ap) : As × Int :=
 if (!s.LH) = true then (s, 0)
 else
  let x := Bb.feed ⟨s.now, s.Cr, s.ret, s.queue, 0⟩ u
  ({ s with now := x.now, Cr := x.Cr, ret := x.ret, queue := x.queue }, x.lost)
def bytes (s : As) (u : Ap) : As × Ap := ({ s with Dk := (s.Dk.DR u).1 }.send (s.Dk.DR u).2.2.1, (s.Dk.DR u).2.1)
def offer (s : As) (opt : Int) : As :=
 if decide ((s.Dk.DK opt).2.1 = []) = true then { s with Dk := ((s.Dk.DK opt).1.Ask opt).1 }.send ([] ++ ((s.Dk.DK opt).1.Ask opt).2.1)
 else { s with Dk := (s.Dk.DK opt).1 }.send ((s.Dk.DK opt).2.1 ++ [])
end As
namespace AI
def at_ (H : AI) (k : Int) : As := H.Aw.at k
def set (H : AI) (k : Int) (s : As) : AI := { H with Aw := H.Aw.put k s }
def tell (H : AI) (k : Int) (u : Ap) : AI := H.set k ((H.at_ k).tell u)
def CS (e : Event) (H : AI) : Nat → AI
 | 0 => H
 | k + 1 => if (!decide (((CS e H k).at_ k).state = 2)) = true then CS e H k else if (AH.tell e ((CS e H k).at_ k).Az).2 = true then (CS e H k).tell k (AH.tell e ((CS e H k).at_ k).Az).1 else CS e H k
def Hc (H : AI) (l : List Event) : AI := l.foldl (fun X e => CS e X 4) H
def Gu (H : AI) (l : List Event) : AI := { H with last := H.last ++ l }.Hc l
def EA : Order := { (default : Order) with verb := 20 }
def Tl (H : AI) (k : Int) : AI := { H with w := (AF.D8 H.w (H.at_ k).Az EA).1 }
def leave (H : AI) (k : Int) : AI :=
 (if (decide ((H.at_ k).state = 2) && (H.w.AN.at (H.at_ k).Az).here) = true then ((H.Tl k).set k default).Gu (AF.D8 H.w (H.at_ k).Az EA).2.1 else H).set k default
def Ce (H : AI) : Nat → AI × Bool
 | 0 => (H, false)
 | k + 1 =>
  if decide (((Ce H k).1.at_ k).state = 0) = true then Ce H k
  else if (((Ce H k).1.at_ k).BX).pg.cut = true then (((Ce H k).1.set k (((Ce H k).1.at_ k).BX)).leave k, true)
  else ((Ce H k).1.set k (((Ce H k).1.at_ k).BX), (Ce H k).2)
def HZ (H : AI) : Nat → AI
 | 0 => H
 | n + 1 => if (!(H.Ce 4).2) = true then (H.Ce 4).1 else (H.Ce 4).1.HZ n
def BX (H : AI) : AI := H.HZ 5
def Hg : Ap := [87, 104, 111, 32, 97, 114, 101, 32, 121, 111, 117, 63]
def Mz : Ap := [78, 111, 116, 32, 115, 111, 32, 102, 97, 115, 116, 46]
def Za : Ap := [87, 104, 97, 116, 63]
def QR : Ap := [84, 104, 97, 116, 32, 105, 115, 32, 110, 111, 32, 110, 97, 109, 101, 46]
def noRoom : Ap := [84, 104, 101, 114, 101, 32, 105, 115, 32, 110, 111, 32, 114, 111, 111, 109, 46]
def KP (H : AI) (k : Int) : AI := ((H.set k ((({ (default : As) with state := 1, Az := -1 }).offer 3).offer 31)).tell k Hg).BX
def named (H : AI) (k : Int) (u : Ap) : AI :=
 if decide ((AF.BU H.w u).2.2.2 = 0) = true then ({ H with w := (AF.BU H.w u).1 }.set k { H.at_ k with state := 2, Az := (AF.BU H.w u).2.1 }).Gu (AF.BU H.w u).2.2.1
 else if decide ((AF.BU H.w u).2.2.2 = 4) = true then H.tell k noRoom
 else H.tell k QR
def order (H : AI) (k : Int) (u : Ap) : AI :=
 if (!decide ((Words.parse u).2 = 0)) = true then H.tell k Za
 else if decide ((Words.parse u).1.verb = 20) = true then H.leave k
 else { H with w := (AF.D8 H.w (H.at_ k).Az (Words.parse u).1).1 }.Gu (AF.D8 H.w (H.at_ k).Az (Words.parse u).1).2.1
def D9 (H : AI) (k : Int) : AI :=
 if decide ((H.at_ k).state = 0) = true then H
 else match (H.at_ k).queue with
  | [] => H
  | q :: r =>
   let H1 := H.set k { H.at_ k with queue := r }.FN
   if (H.at_ k).pg.B7 = true then H1
   else if decide ((H.at_ k).state = 1) = true then H1.named k (Words.P0 32 (Words.RM 32 q))
   else H1.order k q
def turns (H : AI) : Nat → AI
 | 0 => H
 | k + 1 => (turns H k).D9 k
def Mn (H : AI) (d : Int) : AI :=
 let X := H.turns 4
 ({ X with w := (AF.CU X.w d).1 }.Gu (AF.CU X.w d).2.1).BX
def EW (H : AI) : Nat → AI
 | 0 => H
 | k + 1 => (EW H k).set k { (EW H k).at_ k with told := [] }
def begun (H : AI) : AI := { H with CA := H.CA + 1, last := [] }.EW 4
def ok : Bm := ⟨0, []⟩
def byte (H : AI) (k : Int) (u : Ap) : AI :=
 let s1 := (H.at_ k).bytes u
 let s2 := s1.1.typed s1.2
 ((if decide (0 < s2.2) = true then (H.set k s2.1).tell k Mz else H.set k s2.1)).BX
def De (X : AI) (a : Bu) : AI × Bm :=
 if decide (a.kind = 5) = true then (X.Mn a.n, ok)
 else if (decide (a.kind < 1) || decide (5 < a.kind)) = true then (X, ⟨5, []⟩)
 else if (decide (a.BJ < 0) || decide (4 ≤ a.BJ)) = true then (X, ⟨2, []⟩)
 else if (decide ((X.at_ a.BJ).state = 0) != decide (a.kind = 1)) = true then (X, ⟨3, []⟩)
 else if decide (a.kind = 1) = true then (X.KP a.BJ, ok)
 else if decide (a.kind = 2) = true then (X.byte a.BJ a.bytes, ok)
 else if decide (a.kind = 3) = true then ((X.set a.BJ ((X.at_ a.BJ).G7 a.n)).BX, ⟨0, (X.at_ a.BJ).out a.n⟩)
 else ((X.leave a.BJ).BX, ok)
def act (H : AI) (a : Bu) : AI × Bm := if decide (400 ≤ H.CA) = true then (H, ⟨4, []⟩) else H.begun.De a
def new : AI := ⟨AH.new, Vector.replicate 4 default, 0, []⟩
def run : AI → List Bu → AI × List Bm
 | H, [] => (H, [])
 | H, a :: l => ((run (H.act a).1 l).1, (H.act a).2 :: (run (H.act a).1 l).2)
end AI
end Go.Ing
/- Engine: several slices together; a seat of a house. -/
namespace Go.Ing
open Go
def Ac.Dz (l : List Ac) : Ac where
 CR := l.flatMap Ac.CR
 ok w := (∀ r ∈ l, r.ok w) ∧ l.Pairwise fun r s => ∀ b : Nat, b ∈ r.CR → b ∉ s.CR
 loc w w' h hw := ⟨fun r hr => r.loc w w' (fun b hb => h b (List.mem_flatMap.2 ⟨r, hr, hb⟩)) (hw.1 r hr), hw.2⟩
section
variable {w0 w : World} {M : List Nat} {l L : List Ac}
theorem St.ZP (h : St w0 M w (Ac.Dz l :: L)) : St w0 M w (l ++ L) := by
 have hm : ∀ r ∈ l, ∀ b ∈ r.CR, b ∈ (Ac.Dz l).CR := fun r hr b hb => List.mem_flatMap.2 ⟨r, hr, hb⟩
 have hf := h.ok (Ac.Dz l) (List.mem_cons_self ..)
 refine ⟨h.os, h.tape, h.output, h.size, h.I0, fun r hr => ?_, fun r hr => ?_, List.pairwise_append.2 ⟨hf.2, (List.pairwise_cons.1 h.I5).2, fun r hr s hs b hb => (List.pairwise_cons.1 h.I5).1 s hs b (hm r hr b hb)⟩⟩
 ·rcases List.mem_append.1 hr with hr | hr
  ·exact hf.1 r hr
  ·exact h.ok r (List.mem_cons_of_mem _ hr)
 ·rcases List.mem_append.1 hr with hr | hr
  ·exact fun b hb => h.CR _ (List.mem_cons_self ..) b (hm r hr b hb)
  ·exact h.CR r (List.mem_cons_of_mem _ hr)
theorem St.Y2 (h : St w0 M w (l ++ L)) : St w0 M w (Ac.Dz l :: L) := by
 have hd := List.pairwise_append.1 h.I5
 refine ⟨h.os, h.tape, h.output, h.size, h.I0, fun r hr => ?_, fun r hr => ?_, List.pairwise_cons.2 ⟨fun s hs b hb => ?_, hd.2.1⟩⟩
 ·rcases List.mem_cons.1 hr with rfl | hr
  ·exact ⟨fun r hr => h.ok r (List.mem_append_left _ hr), hd.1⟩
  ·exact h.ok r (List.mem_append_right _ hr)
 ·rcases List.mem_cons.1 hr with rfl | hr
  ·intro b hb
   obtain ⟨r, hr, hb'⟩ := List.mem_flatMap.1 hb
   exact h.CR r (List.mem_append_left _ hr) b hb'
  ·exact h.CR r (List.mem_append_right _ hr)
 ·obtain ⟨r, hr, hb'⟩ := List.mem_flatMap.1 hb
  exact hd.2.2 r hr s hs b hb'
end
structure BD where
 queue : List Ap
 wait : List Ap
 told : List Ap
 deriving Inhabited
def Ff (T : Nat) (v : A2) (l : BD) : List Ac := [Ac.own v.EN.queue T 1 (l.queue.flatMap A7), Ac.own v.out.wait T 1 (l.wait.flatMap A7), Ac.own v.told T 1 (l.told.flatMap A7)]
def CH (T : Nat) (vs : Vector A2 4) (ls : Vector BD 4) : List Ac := Ff T (vs.at 0) (ls.at 0) ++ (Ff T (vs.at 1) (ls.at 1) ++ (Ff T (vs.at 2) (ls.at 2) ++ Ff T (vs.at 3) (ls.at 3)))
def GX (T : Nat) (k : Int) (vs : Vector A2 4) (ls : Vector BD 4) : List Ac :=
 if k = 0 then Ff T (vs.at 1) (ls.at 1) ++ (Ff T (vs.at 2) (ls.at 2) ++ Ff T (vs.at 3) (ls.at 3))
 else if k = 1 then Ff T (vs.at 0) (ls.at 0) ++ (Ff T (vs.at 2) (ls.at 2) ++ Ff T (vs.at 3) (ls.at 3))
 else if k = 2 then Ff T (vs.at 0) (ls.at 0) ++ (Ff T (vs.at 1) (ls.at 1) ++ Ff T (vs.at 3) (ls.at 3))
 else Ff T (vs.at 0) (ls.at 0) ++ (Ff T (vs.at 1) (ls.at 1) ++ Ff T (vs.at 2) (ls.at 2))
theorem Iy {α : Type} (a b c : List α) : (a ++ (b ++ c)).Perm (b ++ (a ++ c)) := by
 rw [← List.append_assoc, ← List.append_assoc]
 exact List.perm_append_comm.append_right c
theorem four {k : Int} (h0 : 0 ≤ k) (h1 : k < 4) : k = 0 ∨ k = 1 ∨ k = 2 ∨ k = 3 := by omega
theorem P9 (T : Nat) {k : Int} (h0 : 0 ≤ k) (h1 : k < 4) (vs : Vector A2 4) (ls : Vector BD 4) : (CH T vs ls).Perm (Ff T (vs.at k) (ls.at k) ++ GX T k vs ls) := by
 unfold CH GX
 rcases four h0 h1 with e | e | e | e <;> subst e
 ·exact .refl _
 ·exact Iy _ _ _
 ·exact ((Iy _ _ _).append_left _).trans (Iy _ _ _)
 ·exact (((List.perm_append_comm).append_left _).append_left _).trans (((Iy _ _ _).append_left _).trans (Iy _ _ _))
theorem Vm (T : Nat) {k : Int} (h0 : 0 ≤ k) (h1 : k < 4) (vs : Vector A2 4) (ls : Vector BD 4) (v : A2) (l : BD) : GX T k (vs.put k v) (ls.put k l) = GX T k vs ls := by
 have hv : ∀ i : Int, 0 ≤ i → i ≠ k → (vs.put k v).at i = vs.at i := fun i hi hn => Vector.EZ h0 h1 hi hn
 have hl : ∀ i : Int, 0 ≤ i → i ≠ k → (ls.put k l).at i = ls.at i := fun i hi hn => Vector.EZ h0 h1 hi hn
 unfold GX
 rcases four h0 h1 with e | e | e | e <;> subst e
 ·rw [if_pos rfl, if_pos rfl, hv 1 (by decide) (by decide), hv 2 (by decide) (by decide), hv 3 (by decide) (by decide), hl 1 (by decide) (by decide), hl 2 (by decide) (by decide), hl 3 (by decide) (by decide)]
 ·rw [if_neg (by decide), if_pos rfl, if_neg (by decide), if_pos rfl, hv 0 (by decide) (by decide), hv 2 (by decide) (by decide), hv 3 (by decide) (by decide), hl 0 (by decide) (by decide), hl 2 (by decide) (by decide), hl 3 (by decide) (by decide)]
 ·rw [if_neg (by decide), if_neg (by decide), if_pos rfl, if_neg (by decide), if_neg (by decide), if_pos rfl, hv 0 (by decide) (by decide), hv 1 (by decide) (by decide), hv 3 (by decide) (by decide), hl 0 (by decide) (by decide), hl 1 (by decide) (by decide), hl 3 (by decide) (by decide)]
 ·rw [if_neg (by decide), if_neg (by decide), if_neg (by decide), if_neg (by decide), if_neg (by decide), if_neg (by decide), hv 0 (by decide) (by decide), hv 1 (by decide) (by decide), hv 2 (by decide) (by decide), hl 0 (by decide) (by decide), hl 1 (by decide) (by decide), hl 2 (by decide) (by decide)]
def AL.BJ (V : AL) (k : Int) (s : A2) : AL := { V with Aw := V.Aw.put k s }
def Jk (V : AL) (k : Int) (s : A2) : List Value := (V.BJ k s).enc
theorem AU.BJ (V : AL) {k : Int} (h0 : 0 ≤ k) (h1 : k < 4) : AU (Jk V k) A2.enc (165 + k.toNat * 22) 22 (fun s => s) (fun _ y => y) := by
 have hl := AL.l1.comp (AU.arr (n := 4) A2.fl h0 h1)
 refine ⟨fun x => ?_, hl.len, fun x => hl.WB _, fun x y => ?_, hl.one⟩
 ·have := hl.get (V.BJ k x)
  rw [show ((V.BJ k x).Aw.at k) = x from Vector.CD h0 h1] at this
  exact this
 ·have := hl.set (V.BJ k x) y
  rw [show ({ V.BJ k x with Aw := (V.BJ k x).Aw.put k y } : AL) = V.BJ k y from by unfold AL.BJ; rw [Vector.D4]] at this
  exact this
theorem Vector.NP {α : Type} [Inhabited α] {n : Nat} (v : Vector α n) {k : Int} (h0 : 0 ≤ k) (h1 : k < n) : v.put k (v.at k) = v := by
 apply UR
 intro i i0 i1
 by_cases e : i = k
 ·subst e; rw [Vector.CD h0 h1]
 ·rw [Vector.EZ h0 h1 i0 e]
theorem AL.ME (V : AL) {k : Int} (h0 : 0 ≤ k) (h1 : k < 4) : V.BJ k (V.Aw.at k) = V := by
 unfold AL.BJ; rw [Vector.NP _ h0 h1]
def Cl (v : A2) (l : BD) : As := ⟨v.state, v.Az, v.Dk, v.EN.now, v.EN.Cr, v.EN.ret, l.queue, Page.of v.out, l.wait, l.told⟩
def A5 (V : AL) (ls : Vector BD 4) (ev : List Event) : AI := ⟨V.w, Vector.ofFn fun i => Cl (V.Aw.at ((i : Nat) : Int)) (ls.at ((i : Nat) : Int)), V.CA, ev⟩
theorem CZ (V : AL) (ls : Vector BD 4) (ev : List Event) {k : Int} (h0 : 0 ≤ k) (h1 : k < 4) : (A5 V ls ev).at_ k = Cl (V.Aw.at k) (ls.at k) := by
 rcases four h0 h1 with e | e | e | e <;> subst e <;> rfl
theorem Ih (V : AL) (ls : Vector BD 4) (ev : List Event) {k : Int} (h0 : 0 ≤ k) (h1 : k < 4) (v : A2) (l : BD) : A5 (V.BJ k v) (ls.put k l) ev = (A5 V ls ev).set k (Cl v l) := by
 unfold A5 AI.set AL.BJ
 congr 1
 apply UR
 intro i i0 i1
 have hof : ∀ (f : Fin 4 → As), (Vector.ofFn f).at i = f ⟨i.toNat, by omega⟩ := fun f => by
  rcases four i0 i1 with e | e | e | e <;> subst e <;> rfl
 rw [hof]
 have hi : ((i.toNat : Nat) : Int) = i := by omega
 by_cases e : i = k
 ·subst e
  rw [Vector.CD h0 h1]
  show Cl ((V.Aw.put i v).at ((i.toNat : Nat) : Int)) ((ls.put i l).at ((i.toNat : Nat) : Int)) = _
  rw [hi, Vector.CD h0 h1, Vector.CD h0 h1]
 ·rw [Vector.EZ h0 h1 i0 e, hof]
  show Cl ((V.Aw.put k v).at ((i.toNat : Nat) : Int)) ((ls.put k l).at ((i.toNat : Nat) : Int)) = Cl (V.Aw.at ((i.toNat : Nat) : Int)) (ls.at ((i.toNat : Nat) : Int))
  rw [hi, Vector.EZ h0 h1 i0 e, Vector.EZ h0 h1 i0 e]
section
variable {P : Program} {n : Nat} {w0 w : World} {M : List Nat} {Q : Exit → Go.Act → World → Prop} {F : List (Nat × Value)} {L K : List Ac} {cd : Code} {b T TS : Nat} {V : AL} {ls : Vector BD 4} {k : Int}
theorem St.bq (h0 : 0 ≤ k) (h1 : k < 4) (h : St w0 M w (Ac.box b T V.enc :: Ac.Dz (CH TS V.Aw ls) :: K)) :
  St w0 M w (Ac.own (V.Aw.at k).EN.queue TS 1 ((ls.at k).queue.flatMap A7) :: Ac.own (V.Aw.at k).out.wait TS 1 ((ls.at k).wait.flatMap A7) :: Ac.own (V.Aw.at k).told TS 1 ((ls.at k).told.flatMap A7) :: Ac.box b T (Jk V k (V.Aw.at k)) :: Ac.Dz (GX TS k V.Aw ls) :: K) := by
 have h2 : St w0 M w (CH TS V.Aw ls ++ (Ac.box b T V.enc :: K)) := (h.perm (List.Perm.swap ..)).ZP
 have h3 := h2.perm ((P9 TS h0 h1 V.Aw ls).append_right _)
 have h4 : St w0 M w (GX TS k V.Aw ls ++ (Ff TS (V.Aw.at k) (ls.at k) ++ (Ac.box b T V.enc :: K))) := by
  refine h3.perm ?_
  rw [List.append_assoc]
  exact Iy _ _ _
 have h5 := h4.Y2
 unfold Jk
 rw [V.ME h0 h1]
 refine h5.perm ?_
 exact (Iy [Ac.Dz (GX TS k V.Aw ls)] (Ff TS (V.Aw.at k) (ls.at k) ++ [Ac.box b T V.enc]) K).trans (.of_eq (by simp [Ff]))
theorem St.close' (h0 : 0 ≤ k) (h1 : k < 4) {s : A2} {qs ws ts : List Ap} {q w' t : Hd} (hq : s.EN.queue = q) (hw : s.out.wait = w') (ht : s.told = t)
  (h : St w0 M w (Ac.own q TS 1 (qs.flatMap A7) :: Ac.own w' TS 1 (ws.flatMap A7) :: Ac.own t TS 1 (ts.flatMap A7) :: Ac.box b T (Jk V k s) :: Ac.Dz (GX TS k V.Aw ls) :: K)) :
  St w0 M w (Ac.box b T (V.BJ k s).enc :: Ac.Dz (CH TS (V.BJ k s).Aw (ls.put k ⟨qs, ws, ts⟩)) :: K) := by
 subst hq hw ht
 have e1 : (V.BJ k s).Aw.at k = s := Vector.CD h0 h1
 have e2 : (ls.put k ⟨qs, ws, ts⟩).at k = ⟨qs, ws, ts⟩ := Vector.CD h0 h1
 have hp := P9 TS h0 h1 (V.BJ k s).Aw (ls.put k ⟨qs, ws, ts⟩)
 rw [e1, e2, show GX TS k (V.BJ k s).Aw (ls.put k ⟨qs, ws, ts⟩) = GX TS k V.Aw ls from Vm TS h0 h1 _ _ _ _] at hp
 have h2 : St w0 M w (Ac.Dz (GX TS k V.Aw ls) :: (Ff TS s ⟨qs, ws, ts⟩ ++ (Ac.box b T (V.BJ k s).enc :: K))) :=
  h.perm ((Iy [Ac.Dz (GX TS k V.Aw ls)] (Ff TS s ⟨qs, ws, ts⟩ ++ [Ac.box b T (V.BJ k s).enc]) K).symm.trans (.of_eq (by simp [Ff]))|>.symm.symm)
 have h3 := h2.ZP
 have h4 : St w0 M w ((Ff TS s ⟨qs, ws, ts⟩ ++ GX TS k V.Aw ls) ++ (Ac.box b T (V.BJ k s).enc :: K)) := h3.perm (by rw [List.append_assoc]; exact Iy _ _ _)
 have h5 := (h4.perm (hp.symm.append_right _)).Y2
 exact h5.perm (List.Perm.swap ..)
theorem FR (h0 : 0 ≤ k) (h1 : k < 4) (h : ∀ s l, V.Aw.at k = s → ls.at k = l → (s.EN.queue.len = l.queue.length ∧ s.out.wait.len = l.wait.length ∧ s.told.len = l.told.length) → G P n w0 M cd Q F (Ac.own s.EN.queue TS 1 (l.queue.flatMap A7) :: Ac.own s.out.wait TS 1 (l.wait.flatMap A7) :: Ac.own s.told TS 1 (l.told.flatMap A7) :: Ac.box b T (Jk V k s) :: Ac.Dz (GX TS k V.Aw ls) :: K)) :
  G P n w0 M cd Q F (Ac.box b T V.enc :: Ac.Dz (CH TS V.Aw ls) :: K) := fun a w hF hS =>
 have hO := hS.bq h0 h1
 h _ _ rfl rfl ⟨(Kn.own (.head _) w hO).Mu DW (by decide), (Kn.own (.tail _ (.head _)) w hO).Mu DW (by decide), (Kn.own (.tail _ (.tail _ (.head _))) w hO).Mu DW (by decide)⟩ a w hF hO
theorem HC (h0 : 0 ≤ k) (h1 : k < 4) {s : A2} {qs ws ts : List Ap} {q w' t : Hd} (hq : s.EN.queue = q) (hw : s.out.wait = w') (ht : s.told = t) (h : G P n w0 M cd Q F (Ac.box b T (V.BJ k s).enc :: Ac.Dz (CH TS (V.BJ k s).Aw (ls.put k ⟨qs, ws, ts⟩)) :: K)) :
  G P n w0 M cd Q F (Ac.own q TS 1 (qs.flatMap A7) :: Ac.own w' TS 1 (ws.flatMap A7) :: Ac.own t TS 1 (ts.flatMap A7) :: Ac.box b T (Jk V k s) :: Ac.Dz (GX TS k V.Aw ls) :: K) := fun a w hF hS => h a w hF (hS.close' h0 h1 hq hw ht)
theorem Ru {x : Exit} (h0 : 0 ≤ k) (h1 : k < 4) {s : A2} {qs ws ts : List Ap} {q w' t : Hd} (hq : s.EN.queue = q) (hw : s.out.wait = w') (ht : s.told = t) (h : GQ n w0 M Q x F (Ac.box b T (V.BJ k s).enc :: Ac.Dz (CH TS (V.BJ k s).Aw (ls.put k ⟨qs, ws, ts⟩)) :: K)) :
  GQ n w0 M Q x F (Ac.own q TS 1 (qs.flatMap A7) :: Ac.own w' TS 1 (ws.flatMap A7) :: Ac.own t TS 1 (ts.flatMap A7) :: Ac.box b T (Jk V k s) :: Ac.Dz (GX TS k V.Aw ls) :: K) := fun a w hF hS => h a w hF (hS.close' h0 h1 hq hw ht)
end
theorem Eg {V : AL} {ls : Vector BD 4} {ev : List Event} {k : Int} (h0 : 0 ≤ k) (h1 : k < 4) {s v : A2} {l l' : BD} (hs : V.Aw.at k = s) (hl : ls.at k = l) {f : As → As} (e : Cl v l' = f (Cl s l)) : A5 (V.BJ k v) (ls.put k l') ev = (A5 V ls ev).set k (f ((A5 V ls ev).at_ k)) := by
 rw [Ih V ls ev h0 h1, CZ V ls ev h0 h1, hs, hl, e]
theorem Iu {v : A2} {l : BD} (h : v.out.wait.len = l.wait.length) : (Cl v l).Lt = Page.Bg v.out := by
 unfold As.Lt Page.Bg
 rw [h]; rfl
end Go.Ing
/- A house: plain laws for the walks. -/
namespace Go.Ing
open Go
theorem Wy {v : A2} {l : BD} {u : Ap} (hw : v.out.wait.len = l.wait.length) (h : Page.Bg v.out = false) : (Cl v l).line u = Cl v l := if_pos (by rw [Iu hw, h]; rfl)
theorem Xr {v : A2} {l : BD} {u : Ap} (hw : v.out.wait.len = l.wait.length) (h : Page.Bg v.out = true) (c : v.out.cut = true) : (Cl v l).line u = Cl v l := (if_neg (by rw [Iu hw, h]; decide)).trans (if_pos c)
theorem VU {v : A2} {l : BD} {u : Ap} (hw : v.out.wait.len = l.wait.length) (h : Page.Bg v.out = true) (c : v.out.cut = false) (n : 60 ≤ l.wait.length) : (Cl v l).line u = Cl { v with out := ⟨v.out.wait, v.out.shown, v.out.B7, v.out.ring, true⟩ } l :=
 (if_neg (by rw [Iu hw, h]; decide)).trans ((if_neg (by show ¬ v.out.cut = true; rw [c]; decide)).trans (if_pos (decide_eq_true (show (60 : Int) ≤ (l.wait.length : Int) by omega))))
theorem Uz {v : A2} {l : BD} {u : Ap} (hw : v.out.wait.len = l.wait.length) (h : Page.Bg v.out = true) (c : v.out.cut = false) (n : l.wait.length < 60) (w : Hd) : (Cl v l).line u = Cl { v with out := ⟨w, v.out.shown, v.out.B7, v.out.ring, v.out.cut⟩ } ⟨l.queue, l.wait ++ [u], l.told⟩ :=
 (if_neg (by rw [Iu hw, h]; decide)).trans ((if_neg (by show ¬ v.out.cut = true; rw [c]; decide)).trans (if_neg (by rw [decide_eq_true_eq]; show ¬ (60 : Int) ≤ (l.wait.length : Int); omega)))
theorem Zs {v : A2} {l : BD} {u : Ap} (h : (!v.out.cut) = true) (t : Hd) : (Cl v l).note u = Cl { v with told := t } ⟨l.queue, l.wait, l.told ++ [u]⟩ := if_pos h
theorem ZY {v : A2} {l : BD} {u : Ap} (h : (!v.out.cut) = false) : (Cl v l).note u = Cl v l := if_neg (by show ¬ (!v.out.cut) = true; rw [h]; decide)
theorem AI.Cv (H : AI) {k j : Int} (h0 : 0 ≤ k) (h1 : k < 4) (j0 : 0 ≤ j) (s : As) : (H.set k s).at_ j = if j = k then s else H.at_ j := by
 unfold AI.set AI.at_
 by_cases e : j = k
 ·subst e; rw [if_pos rfl]; exact Vector.CD h0 h1
 ·rw [if_neg e]; exact Vector.EZ h0 h1 j0 e
theorem CE (s : As) (u : Ap) : (s.tell u).told.length ≤ s.told.length + 1 := by
 have h : (s.line u).told = s.told := by
  unfold As.line; split
  ·rfl
  ·split
   ·rfl
   ·split <;> rfl
 unfold As.tell As.note
 split
 ·show ((s.line u).told ++ [u]).length ≤ _
  rw [h, List.length_append]; exact Nat.le_refl _
 ·rw [h]; exact Nat.le_succ _
theorem Km {V V' : AL} {ls ls' : Vector BD 4} {ev ev' : List Event} {k : Int} {u : Ap} (h0 : 0 ≤ k) (h1 : k < 4) (e : A5 V' ls' ev' = (A5 V ls ev).tell k u) {j : Int} (j0 : 0 ≤ j) (j1 : j < 4) :
  (ls'.at j).told.length ≤ (ls.at j).told.length + 1 ∧ (j ≠ k → (ls'.at j).told = (ls.at j).told) := by
 have h := congrArg (fun H => (AI.at_ H j).told) e
 simp only [AI.tell] at h
 rw [CZ _ _ _ j0 j1, AI.Cv _ h0 h1 j0] at h
 have h' : (ls'.at j).told = (if j = k then ((A5 V ls ev).at_ k).tell u else (A5 V ls ev).at_ j).told := h
 by_cases c : j = k
 ·subst c
  rw [if_pos rfl, CZ _ _ _ j0 j1] at h'
  exact ⟨by rw [h']; exact CE _ _, fun hn => absurd rfl hn⟩
 ·rw [if_neg c, CZ _ _ _ j0 j1] at h'
  exact ⟨by rw [h']; exact Nat.le_succ _, fun _ => h'⟩
theorem Ko {V : AL} {ls : Vector BD 4} {ev : List Event} {e : Event} {X : AI} {i : Int} (h0 : 0 ≤ i) (h1 : i < 4) (h : A5 V ls ev = AI.CS e X i.toNat) : AI.CS e X (i + 1).toNat = if (!decide ((V.Aw.at i).state = 2)) = true then A5 V ls ev else if (AH.tell e (V.Aw.at i).Az).2 = true then (A5 V ls ev).tell i (AH.tell e (V.Aw.at i).Az).1 else A5 V ls ev := by
 obtain ⟨m, rfl⟩ := Int.eq_ofNat_of_zero_le h0
 have ha := CZ V ls ev h0 h1
 rw [show ((m : Int) + 1).toNat = m + 1 by omega, AI.CS]
 rw [show ((m : Int)).toNat = m by omega] at h
 rw [← h, ha]
 rfl
theorem TC {H : AI} {es : List Event} {k : Int} (h0 : 0 ≤ k) (h1 : k < es.length) : H.Hc (es.take (k + 1).toNat) = AI.CS (es.getD k.toNat default) (H.Hc (es.take k.toNat)) 4 := by
 obtain ⟨m, rfl⟩ := Int.eq_ofNat_of_zero_le h0
 have hm : m < es.length := by omega
 show H.Hc (es.take (m + 1)) = AI.CS (es.getD m default) (H.Hc (es.take m)) 4
 unfold AI.Hc
 rw [List.take_add_one, List.getElem?_eq_getElem hm, List.foldl_append, List.getD_eq_getElem?_getD, List.getElem?_eq_getElem hm]
 rfl
def Wm (ls : Vector BD 4) (n : Nat) : Prop := ∀ j : Int, 0 ≤ j → j < 4 → (ls.at j).told.length ≤ n
theorem WK {H : AI} {ev es : List Event} (h : H.last = ev) : AI.Gu H es = ({ H with last := ev ++ es } : AI).Hc es := by subst h; rfl
end Go.Ing
/- What is said in a land of short names is short: plain laws. -/
namespace Go.Ing
open Go
namespace AH
structure LI (w : AH) : Prop where
 th : ∀ i, (w.AO.at i).name.length ≤ 100
 be : ∀ i, (w.AN.at i).name.length ≤ 100
 ro : ∀ i, (w.BQ.at i).name.length ≤ 100
theorem LI.H4 {w : AH} (h : w.LI) : w.DE := ⟨fun i => Nat.le_trans (h.th i) (by decide), fun i => Nat.le_trans (h.be i) (by decide), fun i => Nat.le_trans (h.ro i) (by decide)⟩
theorem XA {X : AH} (h : X.LI) {i : Int} {t : Ak} (ht : t.name.length ≤ 100) : (X.Gi i t).LI := ⟨fun j => by
 rcases Vector.QG X.AO i j t with e | e
 ·show ((X.AO.put i t).at j).name.length ≤ _; rw [e]; exact ht
 ·show ((X.AO.put i t).at j).name.length ≤ _; rw [e]; exact h.th j, h.be, h.ro⟩
theorem Ir {X : AH} (h : X.LI) {i : Int} {t : Aj} (ht : t.name.length ≤ 100) : (X.C3 i t).LI := ⟨h.th, fun j => by
 rcases Vector.QG X.AN i j t with e | e
 ·show ((X.AN.put i t).at j).name.length ≤ _; rw [e]; exact ht
 ·show ((X.AN.put i t).at j).name.length ≤ _; rw [e]; exact h.be j, h.ro⟩
theorem WS {X : AH} (h : X.LI) {r d : Int} {v : Bool} : (X.Mw r d v).LI := ⟨h.th, h.be, fun j => by
 rcases Vector.QG X.BQ r j { X.BQ.at r with shut := (X.BQ.at r).shut.put d v } with e | e
 ·show ((X.BQ.put r _).at j).name.length ≤ _; rw [e]; exact h.ro r
 ·show ((X.BQ.put r _).at j).name.length ≤ _; rw [e]; exact h.ro j⟩
end AH
namespace AF
structure Cx (T : AF) : Prop where
 Fl : T.w.LI
 out : ∀ e ∈ T.out, AH.Small e
theorem MH {w : AH} (hw : w.LI) : ∀ (l : List Int) (s : Ap), (Hu w s l).length ≤ s.length + l.length * 102
 | [], s => by simp [Hu]
 | i :: r, s => by
  have hn := hw.th i
  unfold Hu
  split
  ·have := MH hw r (s ++ [32] ++ (w.AO.at i).name ++ [42])
   simp only [List.length_append, List.length_cons, List.length_nil] at this ⊢
   omega
  ·have := MH hw r (s ++ [32] ++ (w.AO.at i).name)
   simp only [List.length_append, List.length_cons, List.length_nil] at this ⊢
   omega
theorem Mt : (default : Aj).name.length ≤ 100 := by decide
section
variable {T : AF}
theorem Cx.BO (h : Cx T) {e : Event} (h1 : e.Bs.length ≤ 1000000) (h2 : e.text.length ≤ 1000000) (h3 : e.ER.length ≤ 1000000) (h4 : -9223372036854775808 ≤ e.n) (h5 : e.n ≤ 9223372036854775807) : Cx (T.BO e) := by
 refine ⟨h.Fl, fun x hx => ?_⟩
 rcases List.mem_append.1 (show x ∈ T.out ++ [T.w.Hm (T.Dl e) 6] from hx) with hx | hx
 ·exact h.out x hx
 ·have hx' : x = T.w.Hm (T.Dl e) 6 := by simpa using hx
  subst hx'
  obtain ⟨a1, a2, a3, a4, a5, a6, a7, a8, a9⟩ := AH.KG T.w (T.Dl e) 6
  have e2 : (T.Dl e).n = e.n ∧ (T.Dl e).Hg = T.me.name ∧ (T.Dl e).ER.length ≤ 1000000 ∧ (T.Dl e).Bs = e.Bs ∧ (T.Dl e).text = e.text := by
   unfold Dl
   split
   ·exact ⟨rfl, rfl, Nat.le_trans (h.Fl.be _) (by decide), rfl, rfl⟩
   ·exact ⟨rfl, rfl, h3, rfl, rfl⟩
  obtain ⟨b4, b5, b6, b7, b8⟩ := e2
  refine ⟨?_, ?_, ?_, ?_, ?_, ?_⟩
  ·rw [a6, b5]; exact Nat.le_trans (h.Fl.be T.b) (by decide)
  ·rw [a7]; exact Nat.le_trans b6 (by decide)
  ·rw [a8, b7]; exact Nat.le_trans h1 (by decide)
  ·rw [a9, b8]; exact Nat.le_trans h2 (by decide)
  ·rw [a5, b4]; exact h4
  ·rw [a5, b4]; exact h5
theorem Cx.tell (h : Cx T) {s : Ap} (hs : s.length ≤ 1000000) : Cx (T.tell s) := h.BO (Nat.zero_le _) hs (Nat.zero_le _) (show (-9223372036854775808 : Int) ≤ 0 by decide) (show (0 : Int) ≤ 9223372036854775807 by decide)
theorem Cx.kind (h : Cx T) (k : Int) : Cx (T.kind k) := h.BO (Nat.zero_le _) (Nat.zero_le _) (Nat.zero_le _) (show (-9223372036854775808 : Int) ≤ 0 by decide) (show (0 : Int) ≤ 9223372036854775807 by decide)
theorem Cx.Bs (h : Cx T) (k i : Int) : Cx (T.Bs k i) := h.BO (Nat.le_trans (h.Fl.th i) (by decide)) (Nat.zero_le _) (Nat.zero_le _) (show (-9223372036854775808 : Int) ≤ 0 by decide) (show (0 : Int) ≤ 9223372036854775807 by decide)
theorem Cx.land (h : Cx T) {w' : AH} (ht : w'.LI) : Cx { T with w := w' } := ⟨ht, h.out⟩
theorem Cx.C7 (h : Cx T) {i : Int} {t : Ak} (ht : t.name = (T.w.AO.at i).name) : Cx (T.C7 i t) := h.land (w' := T.w.Gi i t) (AH.XA h.Fl (by rw [ht]; exact h.Fl.th i))
theorem Cx.place (h : Cx T) (i CW at_ : Int) : Cx (T.place i CW at_) := h.C7 rfl
theorem Cx.Ch (h : Cx T) (k f : Int) : Cx (T.Ch k f) := h.land (w' := T.w.C3 k { T.w.AN.at k with B0 := f }) (AH.Ir h.Fl (h.Fl.be k))
theorem Cx.DO (h : Cx T) (k : Int) {x : Aj} (hx : x.name.length ≤ 100) : Cx (T.DO k x) := h.land (w' := T.w.C3 k x) (AH.Ir h.Fl hx)
theorem Cx.C4 (h : Cx T) (r d : Int) (v : Bool) : Cx (T.C4 r d v) := h.land (w' := T.w.Mw r d v) (AH.WS h.Fl)
theorem Cx.F2 (h : Cx T) (r : Int) : Cx (T.F2 r) := h.land (w' := T.w.C3 T.b { T.me with room := r, B0 := 0 }) (AH.Ir h.Fl (h.Fl.be T.b))
theorem Cx.list (h : Cx T) {s : Ap} (hs : s.length ≤ 100) {l : List Int} (hl : l.length ≤ 9) : Cx (T.list s l) := by
 refine h.tell ?_
 have := MH h.Fl l s
 unfold SY
 split <;> simp only [List.length_append, List.length_cons, List.length_nil] <;> omega
theorem Cx.look (h : Cx T) : Cx T.look := by
 have hk : ∀ {T' : AF}, Cx T' → ∀ k : Nat, Cx (T'.FX k) := fun {T'} h' k => by
  induction k with
  | zero => exact h'
  | succ k ih =>
   unfold FX
   split
   ·exact ih.tell (by
     have := ih.Fl.be k
     have e : (T'.FX k).w = T'.w := (KD T' k).1
     rw [e] at this
     simp only [List.length_append, List.length_cons, List.length_nil]; omega)
   ·exact ih
 unfold AF.look
 split
 ·exact h.tell (by show ([73, 116, 32, 105, 115, 32, 100, 97, 114, 107, 46] : Ap).length ≤ _; decide)
 ·refine hk ?_ 6
  have ha : Cx T.Jl := (h.tell (by
   have := h.Fl.ro T.me.room
   simp only [List.length_append, List.length_cons, List.length_nil]; omega)).tell (by
   have := ML (T.w.BQ.at T.me.room) 6
   omega)
  unfold D5
  split
  ·exact ha.list (by decide) (AH.H6 ..)
  ·exact ha
theorem Cx.walk (h : Cx T) (d : Int) : Cx (T.walk d) := by
 unfold AF.walk
 split
 ·exact h.tell (by decide)
 ·split
  ·exact h.tell (by decide)
  ·have i1 : Cx (T.BO { Fk 1 with dir := d }) := h.BO (Nat.zero_le _) (Nat.zero_le _) (Nat.zero_le _) (show (-9223372036854775808 : Int) ≤ 0 by decide) (show (0 : Int) ≤ 9223372036854775807 by decide)
   exact ((i1.F2 _).BO (e := { Fk 2 with dir := AH.opposite d }) (Nat.zero_le _) (Nat.zero_le _) (Nat.zero_le _) (show (-9223372036854775808 : Int) ≤ 0 by decide) (show (0 : Int) ≤ 9223372036854775807 by decide)).look
theorem Cx.box (h : Cx T) (u : Ap) : Cx (T.box u).1 := by
 unfold AF.box
 split
 ·exact h.tell (by decide)
 ·split
  ·exact h.tell (by decide)
  ·exact h
theorem Cx.A6 (h : Cx T) (u : Ap) : Cx (T.A6 u).1 := by
 unfold AF.A6
 split
 ·split
  ·exact h
  ·exact h.tell (by decide)
 ·exact h.tell (by decide)
theorem Cx.DB (l : List Int) : ∀ {T' : AF}, Cx T' → Cx (T'.DB l) := by
 induction l with
 | nil => exact fun h => h
 | cons i r ih => exact fun {T'} h => ih ((h.place i 1 T'.b).Bs 3 i)
theorem Cx.KO (h : Cx T) (l : List Int) (o : Order) : Cx (T.KO l o) := by
 unfold AF.KO
 refine Cx.DB _ ?_
 split
 ·exact h.tell (by decide)
 ·exact h
theorem Cx.get (h : Cx T) (o : Order) : Cx (T.get o) := by
 unfold AF.get
 split
 ·split
  ·exact h.box _
  ·exact (h.box _).KO _ _
 ·exact h.KO _ _
theorem Cx.Cn (h : Cx T) (v to i : Int) : Cx (T.Cn v to i) := by
 unfold AF.Cn
 split
 ·exact h.tell (by decide)
 ·split
  ·exact (h.place _ _ _).Bs _ _
  ·split
   ·exact (h.place i 1 to).BO (e := { Fk 6 with other := to, Bs := (T.w.AO.at i).name }) (Nat.le_trans (h.Fl.th i) (by decide)) (Nat.zero_le _) (Nat.zero_le _) (show (-9223372036854775808 : Int) ≤ 0 by decide) (show (0 : Int) ≤ 9223372036854775807 by decide)
   ·split
    ·exact h.tell (by decide)
    ·exact (h.place i 2 to).BO (e := { Fk 5 with Bs := (T.w.AO.at i).name, text := (T.w.AO.at to).name }) (Nat.le_trans (h.Fl.th i) (by decide)) (Nat.le_trans (h.Fl.th to) (by decide)) (Nat.zero_le _) (show (-9223372036854775808 : Int) ≤ 0 by decide) (show (0 : Int) ≤ 9223372036854775807 by decide)
theorem Cx.Ej {v to : Int} (l : List Int) : ∀ {T' : AF}, Cx T' → Cx (T'.Ej v to l) := by
 induction l with
 | nil => exact fun h => h
 | cons i r ih => exact fun h => ih (h.Cn v to i)
theorem Cx.E8 (h : Cx T) (o : Order) : Cx (T.E8 o) := by
 have ht : Cx (T.Cs o).1 := by
  unfold Cs
  split
  ·exact h.box _
  ·split
   ·exact h.A6 _
   ·exact h
 unfold AF.E8
 split
 ·exact ht
 ·unfold RR
  refine Cx.Ej _ ?_
  split
  ·exact ht.tell (by decide)
  ·exact ht
theorem Cx.E0 (h : Cx T) (o : Order) : Cx (T.E0 o) := by
 unfold AF.E0
 generalize (if (!decide (o.nth = 1) || o.Bj) = true then [] else o.name) = nm
 have hs := h.A6 nm
 split
 ·exact hs
 ·refine Cx.tell ?_ (by decide)
  split
  ·exact (hs.Ch _ _).Ch _ _
  ·exact hs.Ch _ _
theorem Cx.before (h : Cx T) (first : Bool) (i : Int) (v : Bool) (k : Int) : Cx (T.before first i v k) := by
 unfold AF.before
 split
 ·exact (Cx.C7 h (i := i) (t := { T.w.AO.at i with on := v }) rfl).Bs _ _
 ·exact (h.Bs k i).C7 rfl
theorem Cx.Gz (h : Cx T) (d : Int) (on : Bool) (k : Int) : Cx (T.Gz d on k) := by
 unfold AF.Gz
 split
 ·exact h.tell (by decide)
 ·split
  ·exact h.tell (by decide)
  ·refine Cx.BO ?_ (by show ([100, 111, 111, 114] : Ap).length ≤ 1000000; decide) (Nat.zero_le _) (Nat.zero_le _) (show (-9223372036854775808 : Int) ≤ 0 by decide) (show (0 : Int) ≤ 9223372036854775807 by decide)
   split
   ·exact (h.C4 _ _ _).C4 _ _ _
   ·exact h.C4 _ _ _
theorem Cx.set (h : Cx T) (o : Order) : Cx (T.set o) := by
 unfold AF.set
 split
 ·exact h.Gz _ _ _
 ·split
  ·exact h.tell (by decide)
  ·split
   ·exact h.tell (by decide)
   ·split
    ·exact h.before _ _ _ _
    ·exact h.before _ _ _ _
theorem Cx.Ca (l : List Int) : ∀ {T' : AF}, Cx T' → Cx (T'.Ca l) := by
 induction l with
 | nil => exact fun h => h
 | cons i r ih => exact fun {T'} h => ih (Cx.C7 h (i := i) rfl)
theorem Cx.DP (h : Cx T) : ∀ k : Nat, Cx (T.DP k)
 | 0 => h
 | k + 1 => by
  unfold AF.DP
  split
  ·exact (Cx.DP h k).Ch _ _
  ·exact Cx.DP h k
theorem Cx.E4 (h : Cx T) : Cx T.E4 := by
 rw [L0]
 exact ((Cx.Ca _ h).DP 6).Ch _ _
theorem Cx.Ge (h : Cx T) : Cx T.Ge := by
 have hf := Cx.E4 (h.kind 18)
 unfold AF.Ge
 generalize (T.kind 18).E4 = F at *
 exact hf.DO T.b (x := default) Mt
theorem Cx.act (h : Cx T) {o : Order} (hx : o.text.length ≤ 1000000) : Cx (T.act o) := by
 unfold AF.act
 split
 ·exact h.walk _
 ·split
  ·exact h.look
  ·split
   ·exact h.list (by decide) (AH.H6 ..)
   ·split
    ·exact h.BO (e := { Fk 7 with text := o.text }) (Nat.zero_le _) hx (Nat.zero_le _) (show (-9223372036854775808 : Int) ≤ 0 by decide) (show (0 : Int) ≤ 9223372036854775807 by decide)
    ·split
     ·exact h.Ge
     ·split
      ·exact h.E0 _
      ·split
       ·exact h.get _
       ·split
        ·exact h.E8 _
        ·exact h.set _
end
theorem KK {X : AH} {b : Int} {o : Order} (hw : X.LI) (hx : o.text.length ≤ 1000000) : (D8 X b o).1.LI ∧ ∀ e ∈ (D8 X b o).2.1, AH.Small e := by
 unfold D8
 split
 ·exact ⟨hw, fun e h => by cases h⟩
 ·split
  ·exact ⟨hw, fun e h => by cases h⟩
  ·split
   ·exact ⟨hw, fun e h => by cases h⟩
   ·have := Cx.act (T := ⟨X, b, []⟩) ⟨hw, fun e h => by cases h⟩ hx
    exact ⟨this.Fl, this.out⟩
theorem JI {X : AH} {s : Ap} (hw : X.LI) : (BU X s).1.LI ∧ ∀ e ∈ (BU X s).2.2.1, AH.Small e := by
 unfold BU
 split
 ·exact ⟨hw, fun e h => by cases h⟩
 ·split
  ·exact ⟨hw, fun e h => by cases h⟩
  ·rename_i h1
   split
   ·exact ⟨hw, fun e h => by cases h⟩
   ·split
    ·exact ⟨hw, fun e h => by cases h⟩
    ·have hn : s.length ≤ 8 := by
      have h2 : FG s = true := by simpa using h1
      simp only [FG, Bool.and_eq_true, decide_eq_true_eq] at h2
      omega
     have h0 : Cx ⟨X.C3 (CK X 6) (J2 s), CK X 6, []⟩ := ⟨AH.Ir hw (by show s.length ≤ 100; omega), fun e h => by cases h⟩
     have := (h0.kind 17).look
     exact ⟨this.Fl, this.out⟩
theorem Tn {w : AH} {b B0 n : Int} (hw : w.LI) (h0 : 1 ≤ n) (h1 : n ≤ 3) : Cx (CC w b B0 n) := by
 have hs : Cx ⟨w, b, []⟩ := ⟨hw, fun e h => by cases h⟩
 unfold CC
 exact (hs.BO (e := { Fk 14 with other := B0, n := n }) (Nat.zero_le _) (Nat.zero_le _) (Nat.zero_le _) (show -9223372036854775808 ≤ n by omega) (show n ≤ 9223372036854775807 by omega)).DO _ (hw.be B0)
theorem Cx.dR {T : AF} (h : Cx T) (b : Int) : Cx (T.DO b { T.w.AN.at b with room := 0, BL := 10 }) := h.DO b (h.Fl.be b)
theorem Xm {w : AH} {b : Int} (hw : w.LI) : Cx (Hn w b) := by
 have h0 : Cx (FT w b) := ⟨AH.Ir hw (hw.be b), fun e h => by cases h⟩
 have h1 : Cx (Fz w b) := by unfold Fz; exact (h0.kind 15).E4
 unfold Hn
 split
 ·generalize Fz w b = F at *
  exact h1.DO b (x := default) Mt
 ·have h2 : Cx (JA w b) := by unfold JA; exact h1.dR b
  exact (h2.kind 17).look
theorem Tp {draw b : Int} (hb : 0 ≤ b) {s : AH × List Event} (h : s.1.LI ∧ ∀ e ∈ s.2, AH.Small e) : (EG draw b s).1.LI ∧ ∀ e ∈ (EG draw b s).2, AH.Small e := by
 have hh := Le (draw := draw) hb
 unfold EG
 split
 ·exact h
 ·split
  ·exact ⟨AH.Ir h.1 (h.1.be b), h.2⟩
  ·have hk := Tn (b := b) (B0 := (s.1.AN.at b).B0 - 1) h.1 hh.1 hh.2
   split
   ·have hd := Xm (b := (s.1.AN.at b).B0 - 1) hk.Fl
    refine ⟨hd.Fl, fun e he => ?_⟩
    rcases List.mem_append.1 he with he | he
    ·rcases List.mem_append.1 he with he | he
     ·exact h.2 e he
     ·exact hk.out e he
    ·exact hd.out e he
   ·refine ⟨hk.Fl, fun e he => ?_⟩
    rcases List.mem_append.1 he with he | he
    ·exact h.2 e he
    ·exact hk.out e he
theorem Oa {X : AH} {draw : Int} (hw : X.LI) : ∀ k : Nat, (DT X draw k).1.LI ∧ ∀ e ∈ (DT X draw k).2, AH.Small e
 | 0 => ⟨hw, fun e h => by cases h⟩
 | k + 1 => Tp (by omega) (Oa hw k)
theorem Kv {X : AH} {draw : Int} (hw : X.LI) : (CU X draw).1.LI ∧ ∀ e ∈ (CU X draw).2.1, AH.Small e := by
 unfold CU
 split
 ·exact ⟨hw, fun e h => by cases h⟩
 ·have h := Oa (draw := draw) hw 6
  generalize DT X draw 6 = r at *
  exact h
end AF
end Go.Ing
/- What a house keeps: plain laws. -/
namespace Go.Ing
open Go
namespace AI
def Zm (q : List Ap) : Prop := q.length ≤ 6 ∧ ∀ s ∈ q, s.length ≤ 60
structure Fit (H : AI) (n m : Nat) : Prop where
 Fl : H.w.LI
 told : ∀ k : Int, 0 ≤ k → k < 4 → (H.at_ k).told.length ≤ n
 last : H.last.length ≤ m
 Az : ∀ k : Int, 0 ≤ k → k < 4 → (H.at_ k).state = 2 → 0 ≤ (H.at_ k).Az ∧ (H.at_ k).Az < 6
 wait : ∀ k : Int, 0 ≤ k → k < 4 → ∀ s ∈ (H.at_ k).wait, s.length ≤ 70368744000000
 queue : ∀ k : Int, 0 ≤ k → k < 4 → Zm (H.at_ k).queue
variable {H : AI} {n m : Nat}
theorem Fit.mono (h : H.Fit n m) {n' m' : Nat} (hn : n ≤ n') (hm : m ≤ m') : H.Fit n' m' := ⟨h.Fl, fun k a b => Nat.le_trans (h.told k a b) hn, Nat.le_trans h.last hm, h.Az, h.wait, h.queue⟩
theorem Fit.set (h : H.Fit n m) {k : Int} (h0 : 0 ≤ k) (h1 : k < 4) {s : As} (ht : s.told.length ≤ n) (hb : s.state = 2 → 0 ≤ s.Az ∧ s.Az < 6) (hw : ∀ u ∈ s.wait, u.length ≤ 70368744000000) (hq : Zm s.queue) : (H.set k s).Fit n m := by
 have e : ∀ j : Int, 0 ≤ j → (H.set k s).at_ j = if j = k then s else H.at_ j := fun j j0 => AI.Cv H h0 h1 j0 s
 refine ⟨h.Fl, fun j a b => ?_, h.last, fun j a b => ?_, fun j a b => ?_, fun j a b => ?_⟩ <;> rw [e j a] <;> split
 ·exact ht
 ·exact h.told j a b
 ·exact hb
 ·exact h.Az j a b
 ·exact hw
 ·exact h.wait j a b
 ·exact hq
 ·exact h.queue j a b
theorem Fit.land (h : H.Fit n m) {w : AH} (hw : w.LI) : ({ H with w := w } : AI).Fit n m := ⟨hw, h.told, h.last, h.Az, h.wait, h.queue⟩
theorem Pe (s : As) (u : Ap) : (s.line u).wait = s.wait ∨ (s.line u).wait = s.wait ++ [u] := by
 unfold As.line
 split
 ·exact .inl rfl
 ·split
  ·exact .inl rfl
  ·split
   ·exact .inl rfl
   ·exact .inr rfl
theorem U9 (s : As) (u : Ap) : (s.line u).state = s.state ∧ (s.line u).Az = s.Az ∧ (s.line u).queue = s.queue ∧ (s.line u).told = s.told := by
 unfold As.line
 split
 ·exact ⟨rfl, rfl, rfl, rfl⟩
 ·split
  ·exact ⟨rfl, rfl, rfl, rfl⟩
  ·split <;> exact ⟨rfl, rfl, rfl, rfl⟩
theorem Eu (s : As) (u : Ap) : (s.tell u).state = s.state ∧ (s.tell u).Az = s.Az ∧ (s.tell u).queue = s.queue ∧ (s.tell u).wait = (s.line u).wait := by
 obtain ⟨a, b, c, _⟩ := U9 s u
 unfold As.tell As.note
 split
 ·exact ⟨a, b, c, rfl⟩
 ·exact ⟨a, b, c, rfl⟩
theorem Fit.tell (h : H.Fit n m) {k : Int} (h0 : 0 ≤ k) (h1 : k < 4) {u : Ap} (hu : u.length ≤ 70368744000000) : (H.tell k u).Fit (n + 1) m := by
 obtain ⟨a, b, c, d⟩ := Eu (H.at_ k) u
 refine (h.mono (Nat.le_succ n) (Nat.le_refl m)).set h0 h1 (Nat.le_trans (CE _ _) (Nat.succ_le_succ (h.told k h0 h1))) (by rw [a, b]; exact h.Az k h0 h1) (fun s hs => ?_) (by rw [c]; exact h.queue k h0 h1)
 rw [d] at hs
 rcases Pe (H.at_ k) u with e | e <;> rw [e] at hs
 ·exact h.wait k h0 h1 s hs
 ·rcases List.mem_append.1 hs with hs | hs
  ·exact h.wait k h0 h1 s hs
  ·rw [List.mem_singleton.1 hs]; exact hu
theorem YR {e : Event} (he : AH.Small e) (b : Int) : (AH.tell e b).1.length ≤ 70368744000000 := by
 unfold AH.tell
 split
 ·exact Nat.zero_le _
 ·split
  ·exact Nat.zero_le _
  ·refine Nat.le_trans (AH.OP he (AH.Ph he b) (AH.Nh he b) _ _) ?_
   have := AH.Ou e b
   omega
theorem Tz {k j : Int} (h0 : 0 ≤ k) (h1 : k < 4) (j0 : 0 ≤ j) (hn : j ≠ k) (u : Ap) : (H.tell k u).at_ j = H.at_ j := by
 unfold AI.tell
 rw [AI.Cv H h0 h1 j0, if_neg hn]
theorem K4 (e : Event) (H : AI) : ∀ k : Nat, k ≤ 4 → ∀ j : Int, (k : Int) ≤ j → j < 4 → (CS e H k).at_ j = H.at_ j
 | 0, _, _, _, _ => rfl
 | k + 1, hk, j, h0, h1 => by
  have ih := K4 e H k (by omega) j (by omega) h1
  unfold CS
  split
  ·exact ih
  ·split
   ·rw [Tz (by omega) (by omega) (by omega) (by omega)]; exact ih
   ·exact ih
theorem OO {e : Event} (he : AH.Small e) (h : H.Fit n m) : ∀ k : Nat, k ≤ 4 → (CS e H k).Fit (n + 1) m
 | 0, _ => h.mono (Nat.le_succ n) (Nat.le_refl m)
 | k + 1, hk => by
  have ih := OO he h k (by omega)
  unfold CS
  split
  ·exact ih
  ·split
   ·have hr := K4 e H k (by omega) k (Int.le_refl _) (by omega)
    obtain ⟨a, b, c, d⟩ := Eu ((CS e H k).at_ k) (AH.tell e ((CS e H k).at_ k).Az).1
    unfold AI.tell
    refine ih.set (by omega) (by omega) ?_ (by rw [a, b]; exact ih.Az k (by omega) (by omega)) (fun s hs => ?_) (by rw [c]; exact ih.queue k (by omega) (by omega))
    ·refine Nat.le_trans (CE _ _) ?_
     rw [hr]; exact Nat.succ_le_succ (h.told k (by omega) (by omega))
    ·rw [d] at hs
     rcases Pe ((CS e H k).at_ k) (AH.tell e ((CS e H k).at_ k).Az).1 with q | q <;> rw [q] at hs
     ·exact ih.wait k (by omega) (by omega) s hs
     ·rcases List.mem_append.1 hs with hs | hs
      ·exact ih.wait k (by omega) (by omega) s hs
      ·rw [List.mem_singleton.1 hs]; exact YR he _
   ·exact ih
theorem PZ : ∀ (es : List Event) {H : AI} {n : Nat}, (∀ e ∈ es, AH.Small e) → H.Fit n m → (H.Hc es).Fit (n + es.length) m
 | [], _, _, _, h => h
 | e :: r, H, n, he, h => by
  have h1 := OO (he e (List.mem_cons_self ..)) h 4 (Nat.le_refl 4)
  have h2 := PZ r (fun x hx => he x (List.mem_cons_of_mem _ hx)) h1
  rw [List.length_cons, show n + (r.length + 1) = n + 1 + r.length by omega]
  exact h2
theorem Fit.Gu (h : H.Fit n m) {es : List Event} (he : ∀ e ∈ es, AH.Small e) : (H.Gu es).Fit (n + es.length) (m + es.length) := by
 refine PZ (m := m + es.length) es he ?_
 exact ⟨h.Fl, h.told, by show (H.last ++ es).length ≤ _; rw [List.length_append]; exact Nat.add_le_add_right h.last _, h.Az, h.wait, h.queue⟩
theorem Fit.free (h : H.Fit n m) {k : Int} (h0 : 0 ≤ k) (h1 : k < 4) : (H.set k default).Fit n m :=
 h.set h0 h1 (Nat.zero_le _) (fun e => absurd (show (0 : Int) = 2 from e) (by decide)) (fun u hu => by cases hu) ⟨Nat.zero_le _, fun u hu => by cases hu⟩
theorem MQ : EA.text.length ≤ 1000000 := Nat.zero_le _
theorem Fit.leave (h : H.Fit n m) {k : Int} (h0 : 0 ≤ k) (h1 : k < 4) : (H.leave k).Fit (n + 11) (m + 11) := by
 unfold AI.leave
 refine Fit.free ?_ h0 h1
 split
 ·have hd := AF.KK (b := (H.at_ k).Az) (o := EA) h.Fl MQ
  have hl := AF.NH H.w (H.at_ k).Az EA
  exact (((h.land hd.1).free h0 h1).Gu hd.2).mono (Nat.add_le_add_left hl n) (Nat.add_le_add_left hl m)
 ·exact h.mono (Nat.le_add_right ..) (Nat.le_add_right ..)
theorem RO (ht : Int) : ∀ (l : List Ap) (x : Page.Pg), ∀ s ∈ (Page.BX ht l x).2, s ∈ l
 | [], _, s, h => h
 | q :: r, x, s, h => by
  unfold Page.BX at h
  split at h
  ·exact h
  ·split at h
   ·exact h
   ·exact List.mem_cons_of_mem _ (RO ht r _ s h)
theorem F8 (s : As) : s.BX.told = s.told ∧ s.BX.state = s.state ∧ s.BX.Az = s.Az ∧ s.BX.queue = s.queue ∧ ∀ u ∈ s.BX.wait, u ∈ s.wait := by
 unfold As.BX
 split
 ·exact ⟨rfl, rfl, rfl, rfl, fun _ h => h⟩
 ·exact ⟨rfl, rfl, rfl, rfl, RO _ _ _⟩
theorem Fit.XW (h : H.Fit n m) {k : Int} (h0 : 0 ≤ k) (h1 : k < 4) : (H.set k (H.at_ k).BX).Fit n m := by
 obtain ⟨a, b, c, d, e⟩ := F8 (H.at_ k)
 exact h.set h0 h1 (by rw [a]; exact h.told k h0 h1) (by rw [b, c]; exact h.Az k h0 h1) (fun u hu => h.wait k h0 h1 u (e u hu)) (by rw [d]; exact h.queue k h0 h1)
theorem MR (h : H.Fit n m) : ∀ k : Nat, k ≤ 4 → (H.Ce k).1.Fit (n + 11 * k) (m + 11 * k)
 | 0, _ => h
 | k + 1, hk => by
  have ih := MR h k (by omega)
  unfold Ce
  split
  ·exact ih.mono (by omega) (by omega)
  ·split
   ·exact ((ih.XW (by omega) (by omega)).leave (by omega) (by omega)).mono (by omega) (by omega)
   ·exact (ih.XW (by omega) (by omega)).mono (by omega) (by omega)
theorem Ps : ∀ (r : Nat) {H : AI} {n m : Nat}, H.Fit n m → (H.HZ r).Fit (n + 44 * r) (m + 44 * r)
 | 0, _, _, _, h => h
 | r + 1, H, n, m, h => by
  have h1 := MR h 4 (Nat.le_refl 4)
  unfold HZ
  split
  ·exact h1.mono (by omega) (by omega)
  ·exact (Ps r h1).mono (by omega) (by omega)
theorem Fit.BX (h : H.Fit n m) : H.BX.Fit (n + 220) (m + 220) := Ps 5 h
end AI
end Go.Ing
/- A house: plain laws for the walks, on. -/
namespace Go.Ing
open Go
theorem IK {V : AL} {ls : Vector BD 4} {ev : List Event} {k : Int} (h0 : 0 ≤ k) (h1 : k < 4) : A5 (V.BJ k default) (ls.put k ⟨[], [], []⟩) ev = (A5 V ls ev).set k default := Ih V ls ev h0 h1 _ _
theorem PA {V : AL} {ls : Vector BD 4} {ev : List Event} {w : AH} : A5 { V with w := w } ls ev = { A5 V ls ev with w := w } := rfl
theorem RL {V V4 : AL} {ls ls4 : Vector BD 4} {ev ev4 : List Event} {k : Int} (h0 : 0 ≤ k) (h1 : k < 4) (c : (decide ((V.Aw.at k).state = 2) && (V.w.AN.at (V.Aw.at k).Az).here) = true)
  (e : A5 V4 ls4 ev4 = (A5 (AL.BJ { V with w := (AF.D8 V.w (V.Aw.at k).Az AI.EA).1 } k default) (ls.put k ⟨[], [], []⟩) ev).Gu (AF.D8 V.w (V.Aw.at k).Az AI.EA).2.1) :
  A5 (V4.BJ k default) (ls4.put k ⟨[], [], []⟩) ev4 = (A5 V ls ev).leave k := by
 rw [IK h0 h1, e, IK h0 h1, PA]
 have ha := CZ V ls ev h0 h1
 unfold AI.leave AI.Tl
 rw [ha]
 rw [if_pos (show (decide ((Cl (V.Aw.at k) (ls.at k)).state = 2) && ((A5 V ls ev).w.AN.at (Cl (V.Aw.at k) (ls.at k)).Az).here) = true from c)]
 rfl
theorem UE {V : AL} {ls : Vector BD 4} {ev : List Event} {k : Int} (h0 : 0 ≤ k) (h1 : k < 4) (c : (decide ((V.Aw.at k).state = 2) && (V.w.AN.at (V.Aw.at k).Az).here) = false) :
  A5 (V.BJ k default) (ls.put k ⟨[], [], []⟩) ev = (A5 V ls ev).leave k := by
 rw [IK h0 h1]
 have ha := CZ V ls ev h0 h1
 unfold AI.leave
 rw [ha]
 rw [if_neg (show ¬ (decide ((Cl (V.Aw.at k) (ls.at k)).state = 2) && ((A5 V ls ev).w.AN.at (Cl (V.Aw.at k) (ls.at k)).Az).here) = true by rw [show (decide ((Cl (V.Aw.at k) (ls.at k)).state = 2) && ((A5 V ls ev).w.AN.at (Cl (V.Aw.at k) (ls.at k)).Az).here) = false from c]; decide)]
theorem Gj {V : AL} {ls : Vector BD 4} {ev : List Event} {n m : Nat} (h : (A5 V ls ev).Fit n m) : Wm ls n := fun j j0 j1 => by
 have := h.told j j0 j1
 rw [CZ V ls ev j0 j1] at this
 exact this
theorem Ux {V : AL} {ls : Vector BD 4} {ev : List Event} {n m : Nat} (h : (A5 V ls ev).Fit n m) {k : Int} (h0 : 0 ≤ k) (h1 : k < 4) : (V.Aw.at k).state ≠ 2 ∨ (0 ≤ (V.Aw.at k).Az ∧ (V.Aw.at k).Az < 6) := by
 have := h.Az k h0 h1
 rw [CZ V ls ev h0 h1] at this
 by_cases c : (V.Aw.at k).state = 2
 ·exact .inr (this c)
 ·exact .inl c
theorem St.or {w0 w : World} {M : List Nat} {L : List Ac} {T TS : Nat} {h f g : Hd} {xs qs zs : List Ap} (ho : aN T h xs TS f qs TS g zs) (hS : St w0 M w (Ac.own g TS 1 (zs.flatMap A7) :: Ac.own f TS 1 (qs.flatMap A7) :: L)) : St w0 M w (Ac.own h TS 1 (xs.flatMap A7) :: L) := by
 rcases ho with ⟨_, rfl, rfl, _, _⟩ | ⟨_, rfl, rfl⟩
 ·exact hS.sub (List.sublist_cons_self ..)
 ·exact hS.sub (List.Sublist.cons_cons _ (List.sublist_cons_self ..))
theorem bV {n : Nat} {w0 : World} {M : List Nat} {Q : Exit → Go.Act → World → Prop} {F : List (Nat × Value)} {L : List Ac} {x : Exit} {T TS : Nat} {h f g : Hd} {xs qs zs : List Ap} (ho : aN T h xs TS f qs TS g zs) (k : GQ n w0 M Q x F (Ac.own h TS 1 (xs.flatMap A7) :: L)) : GQ n w0 M Q x F (Ac.own g TS 1 (zs.flatMap A7) :: Ac.own f TS 1 (qs.flatMap A7) :: L) := fun a w hF hS => k a w hF (St.or ho hS)
theorem LV {v : A2} {l : BD} (hw : v.out.wait.len = l.wait.length) (h : (!Page.Bg v.out || decide (v.Dk.B1 < 0) || decide (200 < v.Dk.B1)) = true) : Cl v l = (Cl v l).BX :=
 (if_pos (show (!(Cl v l).Lt || decide (v.Dk.B1 < 0) || decide (200 < v.Dk.B1)) = true by rw [Iu hw]; exact h)).symm
theorem Yk {v : A2} {l : BD} (hw : v.out.wait.len = l.wait.length) (h : (!Page.Bg v.out || decide (v.Dk.B1 < 0) || decide (200 < v.Dk.B1)) = false) (w : Hd) :
  Cl { v with out := ⟨w, (Page.BX v.Dk.B1 l.wait (Page.of v.out)).1.shown, (Page.BX v.Dk.B1 l.wait (Page.of v.out)).1.B7, (Page.BX v.Dk.B1 l.wait (Page.of v.out)).1.ring, (Page.BX v.Dk.B1 l.wait (Page.of v.out)).1.cut⟩ } ⟨l.queue, (Page.BX v.Dk.B1 l.wait (Page.of v.out)).2, l.told⟩ = (Cl v l).BX :=
 ((if_neg (show ¬ (!(Cl v l).Lt || decide (v.Dk.B1 < 0) || decide (200 < v.Dk.B1)) = true by rw [Iu hw, h]; decide)).trans rfl).symm
theorem Ky {V : AL} {ls : Vector BD 4} {ev : List Event} {c : Bool} {H : AI} {i : Int} (h0 : 0 ≤ i) (h1 : i < 4) (h : (A5 V ls ev, c) = H.Ce i.toNat) :
  H.Ce (i + 1).toNat = if decide ((V.Aw.at i).state = 0) = true then (A5 V ls ev, c) else if (((A5 V ls ev).at_ i).BX).pg.cut = true then (((A5 V ls ev).set i ((A5 V ls ev).at_ i).BX).leave i, true) else ((A5 V ls ev).set i ((A5 V ls ev).at_ i).BX, c) := by
 obtain ⟨m, rfl⟩ := Int.eq_ofNat_of_zero_le h0
 have ha := CZ V ls ev h0 h1
 rw [show ((m : Int) + 1).toNat = m + 1 by omega, AI.Ce]
 rw [show ((m : Int)).toNat = m by omega] at h
 rw [← h]
 rw [show decide (((A5 V ls ev).at_ (m : Int)).state = 0) = decide ((V.Aw.at (m : Int)).state = 0) by rw [ha]; rfl]
theorem Uo {V V' : AL} {ls ls' : Vector BD 4} {ev ev' : List Event} {i : Int} (h0 : 0 ≤ i) (h1 : i < 4) {s : As} (e : A5 V' ls' ev' = (A5 V ls ev).set i s) : (V'.Aw.at i).out.cut = s.pg.cut := by
 have h := congrArg (fun H => (AI.at_ H i).pg.cut) e
 rw [CZ V' ls' ev' h0 h1, AI.Cv _ h0 h1 h0, if_pos rfl] at h
 exact h
theorem Oi {X : AI} {k : Int} (h0 : 0 ≤ k) (h1 : k < 5) : X.HZ (5 - k).toNat = if (!(X.Ce 4).2) = true then (X.Ce 4).1 else (X.Ce 4).1.HZ (5 - (k + 1)).toNat := by
 rw [show (5 - k).toNat = (5 - (k + 1)).toNat + 1 by omega, AI.HZ]
theorem QI {H : AI} {n m : Nat} (h : H.Fit n m) {V : AL} {ls : Vector BD 4} {ev : List Event} {c : Bool} {i : Int} (h0 : 0 ≤ i) (h1 : i ≤ 4) (e : (A5 V ls ev, c) = H.Ce i.toNat) : (A5 V ls ev).Fit (n + 44) (m + 44) := by
 have := AI.MR h i.toNat (by omega)
 rw [← e] at this
 exact this.mono (by omega) (by omega)
theorem XY {V : AL} {ls : Vector BD 4} {ev : List Event} {n m : Nat} (h : (A5 V ls ev).Fit n m) {k : Int} (h0 : 0 ≤ k) (h1 : k < 4) : ∀ s ∈ (ls.at k).wait, s.length ≤ 70368744000000 := by
 have := h.wait k h0 h1
 rw [CZ V ls ev h0 h1] at this
 exact this
end Go.Ing
/- A house: who comes, and what is typed: plain laws for the walks. -/
namespace Go.Ing
open Go
namespace Words
def NY (N : Nat) (o : Order) : Prop := o.name.length ≤ N ∧ o.second.length ≤ N ∧ o.text.length ≤ N
theorem Fe (N : Nat) : NY N default := ⟨Nat.zero_le _, Nat.zero_le _, Nat.zero_le _⟩
theorem Xz (u p : Ap) : (M7 u p).1.length ≤ u.length := by
 unfold M7
 split
 ·exact Nat.le_refl _
 ·show (List.drop _ u).length ≤ _
  rw [List.length_drop]; omega
theorem Wr (u : Ap) : (EF u).2.1.length ≤ u.length := by
 unfold EF
 split
 ·exact Nat.zero_le _
 ·split
  ·exact Xz u _
  ·split
   ·split
    ·exact Nat.zero_le _
    ·exact Nat.le_refl _
   ·unfold PI
    have := (NR 46 u).2
    split
    ·split
     ·exact Nat.zero_le _
     ·exact this
    ·exact Nat.zero_le _
theorem Xt {N : Nat} {o : Order} {j : Ap × Bool} {W : List Ap} {m : Nat} (h : NY N o) (hw : (W.getD 0 []).length ≤ N) : NY N (Qn o j W m).1 := by
 unfold Qn
 split
 ·exact h
 ·split
  ·exact Fe N
  ·exact ⟨h.1, hw, h.2.2⟩
theorem Zf {N : Nat} {o : Order} {j : Ap × Bool} {W : List Ap} {m : Nat} (h : NY N o) (hw : ∀ i, (W.getD i []).length ≤ N) : NY N (Sv o j W m).1 := by
 unfold Sv
 split
 ·split
  ·exact Fe N
  ·refine Xt h ?_
   have := hw 1
   rw [List.getD_eq_getElem?_getD, List.getElem?_drop, ← List.getD_eq_getElem?_getD]
   exact this
 ·exact Xt h (hw 0)
theorem Wk {N : Nat} {v : Int} {W : List Ap} {m : Nat} (hw : ∀ i, (W.getD i []).length ≤ N) : NY N (Qx v W m).1 := by
 unfold Qx
 split
 ·exact Fe N
 ·refine Zf ⟨Nat.le_trans (Wr _) (hw 0), Nat.zero_le _, Nat.zero_le _⟩ (fun i => ?_)
  rw [List.getD_eq_getElem?_getD, List.getElem?_drop, ← List.getD_eq_getElem?_getD]
  exact hw (1 + i)
theorem SE (i : Nat) : (AH.Gh.getD i []).length ≤ 20 := by
 rw [List.getD_eq_getElem?_getD]
 cases h : AH.Gh[i]? with
 | none => exact Nat.zero_le _
 | some w =>
  have hm : w ∈ AH.Gh := List.mem_of_getElem? h
  have : ∀ w ∈ AH.Gh, w.length ≤ 20 := by decide
  exact this w hm
theorem Jp (s : Ap) : NY (s.length + 20) (parse s).1 := by
 have hw : ∀ i, (((words s).drop 1).getD i []).length ≤ s.length + 20 := fun i => Nat.le_trans (MF s i 1) (by omega)
 unfold parse
 split
 ·exact Fe _
 ·split
  ·exact Fe _
  ·unfold Wa
   split
   ·split
    ·exact Fe _
    ·refine ⟨Nat.zero_le _, Nat.zero_le _, ?_⟩
     show (said s).length ≤ _
     unfold said
     have h1 := Lk 32 (RM 32 (cut 32 (P0 32 s)).2.1)
     have h2 := RD 32 (cut 32 (P0 32 s)).2.1
     have h3 := (NR 32 (P0 32 s)).2
     have h4 := Lk 32 s
     omega
   ·split
    ·split
     ·exact Fe _
     ·exact ⟨Nat.zero_le _, Nat.zero_le _, Nat.zero_le _⟩
    ·split
     ·exact Fe _
     ·split
      ·split
       ·exact ⟨Nat.le_trans (SE _) (by omega), Nat.zero_le _, Nat.zero_le _⟩
       ·exact Wk hw
      ·exact Wk hw
end Words
theorem Va {V : AL} {ls : Vector BD 4} {ev : List Event} {n m : Nat} (h : (A5 V ls ev).Fit n m) {k : Int} (h0 : 0 ≤ k) (h1 : k < 4) : AI.Zm (ls.at k).queue := by
 have := h.queue k h0 h1
 rw [CZ V ls ev h0 h1] at this
 exact this
theorem AI.Lq (H : AI) {k : Int} (h0 : 0 ≤ k) (h1 : k < 4) : H.set k (H.at_ k) = H := by
 unfold AI.set AI.at_
 rw [Vector.NP _ h0 h1]
theorem Ri {X : AH} {s : Ap} (h : (AF.BU X s).2.2.2 = 0) : 0 ≤ (AF.BU X s).2.1 ∧ (AF.BU X s).2.1 < 6 := by
 have hf := AF.Mb X 6 (Nat.le_refl 6)
 unfold AF.BU at h ⊢
 split
 ·exact ⟨Int.le_refl 0, show (0 : Int) < 6 by decide⟩
 ·split
  ·exact ⟨Int.le_refl 0, show (0 : Int) < 6 by decide⟩
  ·split
   ·exact ⟨Int.le_refl 0, show (0 : Int) < 6 by decide⟩
   ·split
    ·rename_i h1 h2 h3 h4
     rw [if_neg h1, if_neg h2, if_neg h3, if_pos h4] at h
     exact absurd h (show ¬ (4 : Int) = 0 by decide)
    ·rename_i h4
     show 0 ≤ AF.CK X 6 ∧ AF.CK X 6 < 6
     rw [decide_eq_true_eq] at h4
     omega
namespace AI
variable {H : AI} {n m : Nat}
theorem Fit.enters (h : H.Fit n m) {k : Int} (h0 : 0 ≤ k) (h1 : k < 4) {u : Ap} (c : (AF.BU H.w u).2.2.2 = 0) : (({ H with w := (AF.BU H.w u).1 } : AI).set k { H.at_ k with state := 2, Az := (AF.BU H.w u).2.1 }).Fit n m := by
 have hs := AF.JI (s := u) h.Fl
 exact (h.land hs.1).set h0 h1 (h.told k h0 h1) (fun _ => Ri c) (h.wait k h0 h1) (h.queue k h0 h1)
theorem Fit.named (h : H.Fit n m) {k : Int} (h0 : 0 ≤ k) (h1 : k < 4) (u : Ap) : (H.named k u).Fit (n + 11) (m + 11) := by
 unfold AI.named
 split
 ·rename_i c
  have hs := AF.JI (s := u) h.Fl
  have hl := AF.QH H.w u
  exact ((h.enters h0 h1 (of_decide_eq_true c)).Gu hs.2).mono (by omega) (by omega)
 ·split
  ·exact (h.tell h0 h1 (show noRoom.length ≤ _ by decide)).mono (by omega) (by omega)
  ·exact (h.tell h0 h1 (show QR.length ≤ _ by decide)).mono (by omega) (by omega)
theorem Fit.order (h : H.Fit n m) {k : Int} (h0 : 0 ≤ k) (h1 : k < 4) {u : Ap} (hu : u.length ≤ 1000) : (H.order k u).Fit (n + 11) (m + 11) := by
 unfold AI.order
 split
 ·exact (h.tell h0 h1 (show Za.length ≤ _ by decide)).mono (by omega) (by omega)
 ·split
  ·exact h.leave h0 h1
  ·have hp := Words.Jp u
   have hd := AF.KK (b := (H.at_ k).Az) (o := (Words.parse u).1) h.Fl (by have := hp.2.2; omega)
   have hl := AF.NH H.w (H.at_ k).Az (Words.parse u).1
   exact ((h.land hd.1).Gu hd.2).mono (by omega) (by omega)
theorem Fit.FN (h : H.Fit n m) {k : Int} (h0 : 0 ≤ k) (h1 : k < 4) {q : Ap} {r : List Ap} (e : (H.at_ k).queue = q :: r) : (H.set k { H.at_ k with queue := r }.FN).Fit n m :=
 h.set h0 h1 (h.told k h0 h1) (h.Az k h0 h1) (h.wait k h0 h1) (by
  have hq := h.queue k h0 h1
  rw [e] at hq
  exact ⟨Nat.le_of_succ_le hq.1, fun u hu => hq.2 u (List.mem_cons_of_mem _ hu)⟩)
theorem Fit.D9 (h : H.Fit n m) {k : Int} (h0 : 0 ≤ k) (h1 : k < 4) : (H.D9 k).Fit (n + 11) (m + 11) := by
 unfold AI.D9
 split
 ·exact h.mono (by omega) (by omega)
 ·split
  ·exact h.mono (by omega) (by omega)
  ·rename_i q r e
   have ht := h.FN h0 h1 e
   have hq := (h.queue k h0 h1).2 q (by rw [e]; exact List.mem_cons_self ..)
   simp only []
   split
   ·exact ht.mono (by omega) (by omega)
   ·split
    ·exact ht.named h0 h1 _
    ·exact ht.order h0 h1 (by omega)
theorem KM (h : H.Fit n m) : ∀ k : Nat, k ≤ 4 → (H.turns k).Fit (n + 11 * k) (m + 11 * k)
 | 0, _ => h
 | k + 1, hk => by
  have ih := KM h k (by omega)
  unfold AI.turns
  exact (ih.D9 (by omega) (by omega)).mono (by omega) (by omega)
end AI
theorem Yw {V V3 V4 : AL} {ls ls3 ls4 : Vector BD 4} {ev ev4 : List Event} {k : Int} {u : Ap} (c : decide ((AF.BU V.w u).2.2.2 = 0) = true)
  (e3 : A5 V3 ls3 ev = ({ A5 V ls ev with w := (AF.BU V.w u).1 } : AI).set k { (A5 V ls ev).at_ k with state := 2, Az := (AF.BU V.w u).2.1 })
  (e : A5 V4 ls4 ev4 = (A5 V3 ls3 ev).Gu (AF.BU V.w u).2.2.1) : A5 V4 ls4 ev4 = (A5 V ls ev).named k u := by
 rw [e, e3]
 exact (if_pos c).symm
theorem Yi {V V4 : AL} {ls ls4 : Vector BD 4} {ev ev4 : List Event} {k : Int} {u : Ap} (c : decide ((AF.BU V.w u).2.2.2 = 0) = false) (c2 : decide ((AF.BU V.w u).2.2.2 = 4) = true)
  (e : A5 V4 ls4 ev4 = (A5 V ls ev).tell k AI.noRoom) : A5 V4 ls4 ev4 = (A5 V ls ev).named k u := e.trans ((if_neg (by show ¬ decide ((AF.BU V.w u).2.2.2 = 0) = true; rw [c]; decide)).trans (if_pos c2)).symm
theorem Yt {V V4 : AL} {ls ls4 : Vector BD 4} {ev ev4 : List Event} {k : Int} {u : Ap} (c : decide ((AF.BU V.w u).2.2.2 = 0) = false) (c2 : decide ((AF.BU V.w u).2.2.2 = 4) = false)
  (e : A5 V4 ls4 ev4 = (A5 V ls ev).tell k AI.QR) : A5 V4 ls4 ev4 = (A5 V ls ev).named k u := e.trans ((if_neg (by show ¬ decide ((AF.BU V.w u).2.2.2 = 0) = true; rw [c]; decide)).trans (if_neg (by show ¬ decide ((AF.BU V.w u).2.2.2 = 4) = true; rw [c2]; decide))).symm
theorem Tw {V V4 : AL} {ls ls4 : Vector BD 4} {ev ev4 : List Event} {k : Int} {u : Ap} (h0 : 0 ≤ k) (h1 : k < 4) (c : (!decide ((Words.parse u).2 = 0)) = false) (c2 : decide ((Words.parse u).1.verb = 20) = false)
  (e : A5 V4 ls4 ev4 = (A5 { V with w := (AF.D8 V.w (V.Aw.at k).Az (Words.parse u).1).1 } ls ev).Gu (AF.D8 V.w (V.Aw.at k).Az (Words.parse u).1).2.1) : A5 V4 ls4 ev4 = (A5 V ls ev).order k u := by
 rw [e, PA]
 have ha := CZ V ls ev h0 h1
 unfold AI.order
 rw [if_neg (by rw [c]; decide), if_neg (by rw [c2]; decide), ha]
 rfl
theorem VM {V : AL} {ls : Vector BD 4} {ev : List Event} {k : Int} (h0 : 0 ≤ k) (h1 : k < 4) (c : decide ((V.Aw.at k).state = 0) = true) : A5 V ls ev = (A5 V ls ev).D9 k := by
 have ha := CZ V ls ev h0 h1
 exact (if_pos (show decide (((A5 V ls ev).at_ k).state = 0) = true by rw [ha]; exact c)).symm
theorem VS {V : AL} {ls : Vector BD 4} {ev : List Event} {k : Int} (h0 : 0 ≤ k) (h1 : k < 4) {sv : A2} {sl : BD} (hs : V.Aw.at k = sv) (hl : ls.at k = sl) (hq : sl.queue = []) (c : decide ((V.Aw.at k).state = 0) = false) :
  A5 (V.BJ k sv) (ls.put k ⟨sl.queue, sl.wait, sl.told⟩) ev = (A5 V ls ev).D9 k := by
 have ha := CZ V ls ev h0 h1
 rw [Eg h0 h1 hs hl (f := fun x => x) rfl, AI.Lq _ h0 h1]
 unfold AI.D9
 rw [if_neg (show ¬ decide (((A5 V ls ev).at_ k).state = 0) = true by rw [ha]; show ¬ decide ((V.Aw.at k).state = 0) = true; rw [c]; decide)]
 have e : ((A5 V ls ev).at_ k).queue = [] := by rw [ha, hl]; exact hq
 split
 ·rfl
 ·rename_i q r e2; rw [e] at e2; cases e2
theorem Dd {V : AL} {ls : Vector BD 4} {ev : List Event} {k : Int} (h0 : 0 ≤ k) (h1 : k < 4) {sv : A2} {sl : BD} (hs : V.Aw.at k = sv) (hl : ls.at k = sl) {q : Ap} {r : List Ap} (hq : sl.queue = q :: r) (c : decide ((V.Aw.at k).state = 0) = false) (h' : Hd) :
  A5 (V.BJ k { sv with EN := ⟨sv.EN.now, sv.EN.Cr, sv.EN.ret, h'⟩, out := ⟨sv.out.wait, 0, false, sv.out.ring, sv.out.cut⟩ }) (ls.put k ⟨r, sl.wait, sl.told⟩) ev = (A5 V ls ev).set k { (A5 V ls ev).at_ k with queue := r }.FN ∧ ((A5 V ls ev).at_ k).queue = q :: r ∧
  (A5 V ls ev).D9 k = if sv.out.B7 = true then (A5 V ls ev).set k { (A5 V ls ev).at_ k with queue := r }.FN else if decide (sv.state = 1) = true then ((A5 V ls ev).set k { (A5 V ls ev).at_ k with queue := r }.FN).named k (Words.P0 32 (Words.RM 32 q)) else ((A5 V ls ev).set k { (A5 V ls ev).at_ k with queue := r }.FN).order k q := by
 have ha := CZ V ls ev h0 h1
 have e : ((A5 V ls ev).at_ k).queue = q :: r := by rw [ha, hl]; exact hq
 refine ⟨Eg h0 h1 hs hl (f := fun x => { x with queue := r }.FN) rfl, e, ?_⟩
 unfold AI.D9
 rw [if_neg (show ¬ decide (((A5 V ls ev).at_ k).state = 0) = true by rw [ha]; show ¬ decide ((V.Aw.at k).state = 0) = true; rw [c]; decide)]
 split
 ·rename_i e2; rw [e] at e2; cases e2
 ·rename_i q' r' e2
  rw [e] at e2
  obtain ⟨rfl, rfl⟩ := List.cons.inj e2
  have e3 : ((A5 V ls ev).at_ k).pg.B7 = sv.out.B7 := by rw [ha, hs]; rfl
  have e4 : ((A5 V ls ev).at_ k).state = sv.state := by rw [ha, hs]; rfl
  simp only [e3, e4]
theorem Te {H : AI} {i : Int} (h0 : 0 ≤ i) : H.turns (i + 1).toNat = (H.turns i.toNat).D9 i := by
 obtain ⟨m, rfl⟩ := Int.eq_ofNat_of_zero_le h0
 rfl
end Go.Ing
/- A house: who comes, bytes that come: plain laws for the walks. -/
namespace Go.Ing
open Go
def Yd : Hd := ⟨none, 0, 0⟩
def EM (t : AP) (g : Page.Pg) : A2 := ⟨1, -1, t, ⟨[], false, false, Yd⟩, ⟨Yd, g.shown, g.B7, g.ring, g.cut⟩, Yd⟩
def YQ : BD := ⟨[], [], []⟩
theorem Rp {v : A2} {l : BD} {u : Ap} (hw : v.out.wait.len = l.wait.length) : (Cl v l).send u = Cl { v with out := ⟨v.out.wait, (Page.send v.out u).1.shown, (Page.send v.out u).1.B7, (Page.send v.out u).1.ring, (Page.send v.out u).1.cut⟩ } l := by
 unfold As.send Page.send
 rw [Iu hw]
 cases h : Page.Bg v.out with
 | false => rfl
 | true =>
  have e : (Cl v l).pg.cut = v.out.cut := rfl
  cases hc : v.out.cut with
  | true => rw [e, hc]; show Cl v l = Cl { v with out := ⟨v.out.wait, v.out.shown, v.out.B7, v.out.ring, v.out.cut⟩ } l; rfl
  | false => rw [e, hc]; rfl
def IH (t : AP) (opt : Int) : AP := if decide ((t.DK opt).2.1 = []) = true then ((t.DK opt).1.Ask opt).1 else (t.DK opt).1
def MO (t : AP) (opt : Int) : Ap := if decide ((t.DK opt).2.1 = []) = true then (t.DK opt).2.1 ++ ((t.DK opt).1.Ask opt).2.1 else (t.DK opt).2.1 ++ []
def Kq (t : AP) (g : Page.Pg) (opt : Int) : Page.Pg := (Page.send ⟨Yd, g.shown, g.B7, g.ring, g.cut⟩ (MO t opt)).1
theorem Mr (t : AP) (g : Page.Pg) (opt : Int) : (Cl (EM t g) YQ).offer opt = Cl (EM (IH t opt) (Kq t g opt)) YQ := by
 have h := Rp (v := EM (IH t opt) g) (l := YQ) (u := MO t opt) rfl
 unfold As.offer
 have e : (Cl (EM t g) YQ).Dk = t := rfl
 rw [e]
 by_cases c : decide ((t.DK opt).2.1 = []) = true
 ·rw [if_pos c]
  have e1 : IH t opt = ((t.DK opt).1.Ask opt).1 := if_pos c
  have e2 : MO t opt = [] ++ ((t.DK opt).1.Ask opt).2.1 := (if_pos c).trans (by rw [of_decide_eq_true c])
  rw [← e1, ← e2]
  exact h
 ·rw [if_neg c]
  have e1 : IH t opt = (t.DK opt).1 := if_neg c
  have e2 : MO t opt = (t.DK opt).2.1 ++ [] := if_neg c
  rw [← e1, ← e2]
  exact h
def Dr (j : Int) : Int := (((Vector.replicate 2 (default : Int)).put 0 3).put 1 31).at j
def Ez : Nat → AP × Page.Pg
 | 0 => (default, ⟨0, false, [], false⟩)
 | j + 1 => (IH (Ez j).1 (Dr j), Kq (Ez j).1 (Ez j).2 (Dr j))
theorem G4 {j : Int} (h0 : 0 ≤ j) : Ez (j + 1).toNat = (IH (Ez j.toNat).1 (Dr j), Kq (Ez j.toNat).1 (Ez j.toNat).2 (Dr j)) := by
 obtain ⟨m, rfl⟩ := Int.eq_ofNat_of_zero_le h0
 rfl
theorem N1 : Cl (EM (Ez 2).1 (Ez 2).2) YQ = (({ (default : As) with state := 1, Az := -1 }).offer 3).offer 31 := by
 have h0 : ({ (default : As) with state := 1, Az := -1 } : As) = Cl (EM (Ez 0).1 (Ez 0).2) YQ := rfl
 rw [h0, Mr, Mr]
 rfl
theorem FW (t : AP) (opt : Int) : (t.DK opt).2.1.length ≤ 3 := by
 unfold AP.DK
 split
 ·exact Nat.zero_le _
 ·split
  ·exact Nat.zero_le _
  ·split
   ·exact Nat.zero_le _
   ·exact Nat.le_refl 3
theorem Hs (t : AP) (opt : Int) : (t.Ask opt).2.1.length ≤ 3 := by
 unfold AP.Ask
 split
 ·exact Nat.zero_le _
 ·split
  ·exact Nat.zero_le _
  ·split
   ·exact Nat.zero_le _
   ·exact Nat.le_refl 3
theorem AI.Fit.comes {H : AI} {n m : Nat} (h : H.Fit n m) {k : Int} (h0 : 0 ≤ k) (h1 : k < 4) (t : AP) (g : Page.Pg) : (H.set k (Cl (EM t g) YQ)).Fit n m :=
 h.set h0 h1 (Nat.zero_le _) (fun e => absurd (show (1 : Int) = 2 from e) (by decide)) (fun u hu => by cases hu) ⟨Nat.zero_le _, fun u hu => by cases hu⟩
theorem AI.Fit.KP {H : AI} {n m : Nat} (h : H.Fit n m) {k : Int} (h0 : 0 ≤ k) (h1 : k < 4) : (H.KP k).Fit (n + 221) (m + 220) := by
 unfold AI.KP
 rw [← N1]
 exact ((h.comes h0 h1 _ _).tell h0 h1 (show AI.Hg.length ≤ _ by decide)).BX.mono (by omega) (by omega)
end Go.Ing
/- A house: an act: plain laws for the walks. -/
namespace Go.Ing
open Go
theorem Pz {v : A2} {l : BD} (h : v.EN.queue.len = l.queue.length) : (Cl v l).LH = Bb.Bg v.EN l.queue := by
 unfold As.LH Bb.Bg Bb.I7
 rw [h]; rfl
theorem Ut {v : A2} {l : BD} {u : Ap} (h : v.EN.queue.len = l.queue.length) (c : Bb.Bg v.EN l.queue = false) : (Cl v l).typed u = (Cl v l, 0) := if_pos (by rw [Pz h, c]; rfl)
theorem Wv {v : A2} {l : BD} {u : Ap} (h : v.EN.queue.len = l.queue.length) (c : Bb.Bg v.EN l.queue = true) (q : Hd) :
  (Cl v l).typed u = (Cl { v with EN := ⟨(Bb.feed (Bb.start v.EN l.queue) u).now, (Bb.feed (Bb.start v.EN l.queue) u).Cr, (Bb.feed (Bb.start v.EN l.queue) u).ret, q⟩ } ⟨(Bb.feed (Bb.start v.EN l.queue) u).queue, l.wait, l.told⟩, (Bb.feed (Bb.start v.EN l.queue) u).lost) :=
 (if_neg (by rw [Pz h, c]; decide)).trans rfl
theorem RX (s : As) (u : Ap) : (s.typed u).1.told = s.told ∧ (s.typed u).1.state = s.state ∧ (s.typed u).1.Az = s.Az ∧ (s.typed u).1.wait = s.wait ∧ (AI.Zm s.queue → AI.Zm (s.typed u).1.queue) := by
 unfold As.typed
 split
 ·exact ⟨rfl, rfl, rfl, rfl, fun h => h⟩
 ·rename_i c
  refine ⟨rfl, rfl, rfl, rfl, fun _ => ?_⟩
  have hg : Bb.Bg ⟨s.now, s.Cr, s.ret, ⟨none, s.queue.length, 0⟩⟩ s.queue = true := by
   have : s.LH = true := by simpa using c
   exact this
  have ho := Bb.UL u ((Bb.HI (l := ⟨s.now, s.Cr, s.ret, ⟨none, s.queue.length, 0⟩⟩) rfl).1 hg)
  exact ⟨ho.len, fun q hq => ((Bb.F4 q).1 (ho.queue q hq)).1⟩
theorem Kl (s : As) (u : Ap) : (s.send u).told = s.told ∧ (s.send u).state = s.state ∧ (s.send u).Az = s.Az ∧ (s.send u).wait = s.wait ∧ (s.send u).queue = s.queue := by
 unfold As.send
 split
 ·exact ⟨rfl, rfl, rfl, rfl, rfl⟩
 ·split <;> exact ⟨rfl, rfl, rfl, rfl, rfl⟩
def Cm (s : As) (u : Ap) : As × Int := (s.bytes u).1.typed (s.bytes u).2
theorem Ey (s : As) (u : Ap) : (Cm s u).1.told = s.told ∧ (Cm s u).1.state = s.state ∧ (Cm s u).1.Az = s.Az ∧ (Cm s u).1.wait = s.wait ∧ (AI.Zm s.queue → AI.Zm (Cm s u).1.queue) := by
 have h1 := RX (s.bytes u).1 (s.bytes u).2
 have h2 := Kl { s with Dk := (s.Dk.DR u).1 } (s.Dk.DR u).2.2.1
 obtain ⟨a, b, c, d, e⟩ := h1
 obtain ⟨a', b', c', d', e'⟩ := h2
 exact ⟨a.trans a', b.trans b', c.trans c', d.trans d', fun hq => e (by rw [show (s.bytes u).1.queue = s.queue from e']; exact hq)⟩
theorem HW (H : AI) (k : Int) (u : Ap) : H.byte k u = (if decide (0 < (Cm (H.at_ k) u).2) = true then (H.set k (Cm (H.at_ k) u).1).tell k AI.Mz else H.set k (Cm (H.at_ k) u).1).BX := rfl
def heard (v : A2) (u : Ap) : A2 := { v with Dk := (v.Dk.DR u).1, out := ⟨v.out.wait, (Page.send v.out (v.Dk.DR u).2.2.1).1.shown, (Page.send v.out (v.Dk.DR u).2.2.1).1.B7, (Page.send v.out (v.Dk.DR u).2.2.1).1.ring, (Page.send v.out (v.Dk.DR u).2.2.1).1.cut⟩ }
theorem Pp {v : A2} {l : BD} {u : Ap} (hw : v.out.wait.len = l.wait.length) : (Cl v l).bytes u = (Cl (heard v u) l, (v.Dk.DR u).2.1) := by
 unfold As.bytes
 exact congrArg (fun x => (x, _)) (Rp (v := { v with Dk := (v.Dk.DR u).1 }) (l := l) (u := (v.Dk.DR u).2.2.1) hw)
theorem HP {v : A2} {l : BD} {u : Ap} (hw : v.out.wait.len = l.wait.length) (h : v.EN.queue.len = l.queue.length) (c : Bb.Bg v.EN l.queue = false) : Cm (Cl v l) u = (Cl (heard v u) l, 0) := by
 unfold Cm
 rw [Pp hw]
 exact Ut (v := heard v u) h c
theorem IN {v : A2} {l : BD} {u : Ap} (hw : v.out.wait.len = l.wait.length) (h : v.EN.queue.len = l.queue.length) (c : Bb.Bg v.EN l.queue = true) (q : Hd) :
  Cm (Cl v l) u = (Cl { heard v u with EN := ⟨(Bb.feed (Bb.start v.EN l.queue) (v.Dk.DR u).2.1).now, (Bb.feed (Bb.start v.EN l.queue) (v.Dk.DR u).2.1).Cr, (Bb.feed (Bb.start v.EN l.queue) (v.Dk.DR u).2.1).ret, q⟩ } ⟨(Bb.feed (Bb.start v.EN l.queue) (v.Dk.DR u).2.1).queue, l.wait, l.told⟩, (Bb.feed (Bb.start v.EN l.queue) (v.Dk.DR u).2.1).lost) := by
 unfold Cm
 rw [Pp hw]
 exact Wv (v := heard v u) h c q
namespace AI
variable {H : AI} {n m : Nat}
theorem QT {i : Int} (h0 : 0 ≤ i) : H.EW (i + 1).toNat = (H.EW i.toNat).set i { (H.EW i.toNat).at_ i with told := [] } := by
 obtain ⟨k, rfl⟩ := Int.eq_ofNat_of_zero_le h0
 rfl
theorem HB : ∀ k : Nat, (H.EW k).w = H.w ∧ (H.EW k).last = H.last ∧ (H.EW k).CA = H.CA
 | 0 => ⟨rfl, rfl, rfl⟩
 | k + 1 => HB k
theorem NX : ∀ k : Nat, k ≤ 4 → ∀ j : Int, 0 ≤ j → j < 4 → (H.EW k).at_ j = if j < k then { H.at_ j with told := [] } else H.at_ j
 | 0, _, j, j0, _ => by rw [if_neg (by omega)]; rfl
 | k + 1, hk, j, j0, j1 => by
  have ih := NX k (by omega)
  show (((H.EW k).set k _).at_ j) = _
  rw [Cv _ (by omega) (by omega) j0]
  by_cases c : j = (k : Int)
  ·subst c
   rw [if_pos rfl, if_pos (by omega), ih _ j0 j1, if_neg (by omega)]
  ·rw [if_neg c, ih j j0 j1]
   by_cases c2 : j < (k : Int)
   ·rw [if_pos c2, if_pos (by omega)]
   ·rw [if_neg c2, if_neg (by omega)]
theorem IL {j : Int} (j0 : 0 ≤ j) (j1 : j < 4) : H.begun.at_ j = { H.at_ j with told := [] } := by
 have := NX (H := { H with CA := H.CA + 1, last := [] }) 4 (Nat.le_refl 4) j j0 j1
 rw [if_pos (by omega)] at this
 exact this
theorem Fit.begun (h : H.Fit n m) : H.begun.Fit 0 0 := by
 have hs := HB (H := { H with CA := H.CA + 1, last := [] }) 4
 refine ⟨by show (EW _ 4).w.LI; rw [hs.1]; exact h.Fl, fun j a b => ?_, by show (EW _ 4).last.length ≤ 0; rw [hs.2.1]; exact Nat.le_refl 0, fun j a b => ?_, fun j a b => ?_, fun j a b => ?_⟩ <;> rw [IL a b]
 ·exact Nat.le_refl 0
 ·exact h.Az j a b
 ·exact h.wait j a b
 ·exact h.queue j a b
theorem Fit.typed (h : H.Fit n m) {k : Int} (h0 : 0 ≤ k) (h1 : k < 4) (u : Ap) : (H.set k (Cm (H.at_ k) u).1).Fit n m := by
 obtain ⟨a, b, c, d, e⟩ := Ey (H.at_ k) u
 exact h.set h0 h1 (by rw [a]; exact h.told k h0 h1) (by rw [b, c]; exact h.Az k h0 h1) (by rw [d]; exact h.wait k h0 h1) (e (h.queue k h0 h1))
theorem Fit.G7 (h : H.Fit n m) {k : Int} (h0 : 0 ≤ k) (h1 : k < 4) (z : Int) : (H.set k ((H.at_ k).G7 z)).Fit n m :=
 h.set h0 h1 (h.told k h0 h1) (h.Az k h0 h1) (h.wait k h0 h1) (h.queue k h0 h1)
theorem Fit.Mn (h : H.Fit n m) (d : Int) : (H.Mn d).Fit (n + 400) (m + 400) := by
 have h1 := KM h 4 (Nat.le_refl 4)
 have hr := AF.Kv (draw := d) h1.Fl
 have hl := AF.QB h1.Fl.H4 d
 exact (((h1.land hr.1).Gu hr.2).BX).mono (by omega) (by omega)
theorem Fit.byte (h : H.Fit 0 0) {k : Int} (h0 : 0 ≤ k) (h1 : k < 4) (u : Ap) : (H.byte k u).Fit 1000 1000 := by
 rw [HW]
 refine (Fit.BX (n := 1) (m := 0) ?_).mono (by omega) (by omega)
 split
 ·exact (h.typed h0 h1 _).tell h0 h1 (show Mz.length ≤ _ by decide)
 ·exact (h.typed h0 h1 _).mono (by omega) (by omega)
theorem JJ (P : AI → Prop) (h0 : P H) (hp : ∀ d, P (H.Mn d)) (hc : ∀ k, 0 ≤ k → k < 4 → P (H.KP k)) (hb : ∀ k u, 0 ≤ k → k < 4 → P (H.byte k u)) (ht : ∀ k z, 0 ≤ k → k < 4 → P ((H.set k ((H.at_ k).G7 z)).BX)) (hl : ∀ k, 0 ≤ k → k < 4 → P (H.leave k).BX) (a : Bu) : P (H.De a).1 := by
 unfold AI.De
 split
 ·dsimp only; exact hp a.n
 ·split
  ·dsimp only; exact h0
  ·split
   ·dsimp only; exact h0
   ·rename_i c
    have hs : 0 ≤ a.BJ ∧ a.BJ < 4 := by simp only [Bool.or_eq_true, decide_eq_true_eq] at c; omega
    split
    ·dsimp only; exact h0
    ·split
     ·dsimp only; exact hc _ hs.1 hs.2
     ·split
      ·dsimp only; exact hb _ _ hs.1 hs.2
      ·split
       ·dsimp only; exact ht _ _ hs.1 hs.2
       ·dsimp only; exact hl _ hs.1 hs.2
theorem Fit.De (h : H.Fit 0 0) (a : Bu) : (H.De a).1.Fit 1000 1000 :=
 JJ (fun X => X.Fit 1000 1000) (h.mono (by omega) (by omega)) (fun d => (h.Mn d).mono (by omega) (by omega)) (fun k h0 h1 => (h.KP h0 h1).mono (by omega) (by omega)) (fun k u h0 h1 => h.byte h0 h1 u)
  (fun k z h0 h1 => ((h.G7 h0 h1 z).BX).mono (by omega) (by omega)) (fun k h0 h1 => ((h.leave h0 h1).BX).mono (by omega) (by omega)) a
theorem Fit.act (h : H.Fit n m) (a : Bu) : (H.act a).1.Fit (n + 1000) (m + 1000) := by
 unfold AI.act
 split
 ·exact h.mono (by omega) (by omega)
 ·exact (h.begun.De a).mono (by omega) (by omega)
theorem F6 {H : AI} (c : decide (400 ≤ H.CA) = false) (a : Bu) : H.act a = H.begun.De a := if_neg (by rw [c]; decide)
end AI
theorem Gf (V : AL) (ls : Vector BD 4) (ev : List Event) {k : Int} (h0 : 0 ≤ k) (h1 : k < 4) : decide (((A5 V ls ev).at_ k).state = 0) = decide ((V.Aw.at k).state = 0) := by rw [CZ V ls ev h0 h1]; rfl
theorem FB {V : AL} {ls : Vector BD 4} {ev : List Event} {k : Int} (h0 : 0 ≤ k) (h1 : k < 4) {sv v : A2} {sl l : BD} (hs : V.Aw.at k = sv) (hl : ls.at k = sl) {u : Ap} {z : Int} (e : Cm (Cl sv sl) u = (Cl v l, z)) :
  A5 (V.BJ k v) (ls.put k l) ev = (A5 V ls ev).set k (Cm ((A5 V ls ev).at_ k) u).1 ∧ (Cm ((A5 V ls ev).at_ k) u).2 = z := by
 have ha : Cm ((A5 V ls ev).at_ k) u = (Cl v l, z) := by rw [CZ V ls ev h0 h1, hs, hl]; exact e
 rw [Ih V ls ev h0 h1, ha]
 exact ⟨rfl, rfl⟩
theorem Ig {V V2 : AL} {ls ls2 : Vector BD 4} {ev : List Event} {k : Int} (h0 : 0 ≤ k) (h1 : k < 4) {u : Ap} {z : Int} (e : A5 V2 ls2 ev = (A5 V ls ev).set k (Cm ((A5 V ls ev).at_ k) u).1 ∧ (Cm ((A5 V ls ev).at_ k) u).2 = z) (hF : (A5 V ls ev).Fit 0 0) : (A5 V2 ls2 ev).Fit 0 0 := by
 rw [e.1]; exact hF.typed h0 h1 u
theorem LK {V V2 V3 V4 : AL} {ls ls2 ls3 ls4 : Vector BD 4} {ev ev3 ev4 : List Event} {k : Int} (_ : 0 ≤ k) (_ : k < 4) {u : Ap} {z : Int} (e : A5 V2 ls2 ev = (A5 V ls ev).set k (Cm ((A5 V ls ev).at_ k) u).1 ∧ (Cm ((A5 V ls ev).at_ k) u).2 = z)
  (e3 : (decide (0 < z) = true ∧ A5 V3 ls3 ev3 = (A5 V2 ls2 ev).tell k AI.Mz) ∨ (decide (0 < z) = false ∧ A5 V3 ls3 ev3 = A5 V2 ls2 ev)) (e4 : A5 V4 ls4 ev4 = (A5 V3 ls3 ev3).BX) : A5 V4 ls4 ev4 = (A5 V ls ev).byte k u := by
 rw [e4, HW, e.2]
 rcases e3 with ⟨c, e3⟩ | ⟨c, e3⟩
 ·rw [e3, if_pos c, e.1]
 ·rw [e3, if_neg (by rw [c]; decide), e.1]
theorem Ws (V : AL) (ls : Vector BD 4) (ev : List Event) {k : Int} (h0 : 0 ≤ k) (h1 : k < 4) {sv : A2} (hs : V.Aw.at k = sv) (n : Int) : sv.out.ring.take (max 0 (min n (sv.out.ring.length : Int))).toNat = ((A5 V ls ev).at_ k).out n := by
 rw [CZ V ls ev h0 h1, hs]; rfl
theorem U7 (t : AP) (u : Ap) : (t.DR u).2.1.length ≤ u.length := by
 unfold AP.DR
 split
 ·exact Nat.zero_le _
 ·exact (AP.Wz u t).1
end Go.Ing
/- A house, from outside: plain laws for the walks. -/
namespace Go.Ing
open Go
namespace AI
def Iz (H : AI) (i : Int) : Int × Int := if decide ((H.at_ i).state = 2) = true then (2, (H.at_ i).Az) else ((H.at_ i).state, -1)
theorem Re : ∀ (l : List Bu) (H : AI) (a : Bu), run H (l ++ [a]) = (((run H l).1.act a).1, (run H l).2 ++ [((run H l).1.act a).2])
 | [], _, _ => rfl
 | b :: r, H, a => by
  have ih := Re r (H.act b).1 a
  show ((run (H.act b).1 (r ++ [a])).1, (H.act b).2 :: (run (H.act b).1 (r ++ [a])).2) = _
  rw [ih]; rfl
theorem Xo {H : AI} {xs : List Bu} {k : Int} (h0 : 0 ≤ k) (h1 : k < xs.length) : run H (xs.take (k + 1).toNat) = (((run H (xs.take k.toNat)).1.act (xs.getD k.toNat default)).1, (run H (xs.take k.toNat)).2 ++ [((run H (xs.take k.toNat)).1.act (xs.getD k.toNat default)).2]) := by
 obtain ⟨m, rfl⟩ := Int.eq_ofNat_of_zero_le h0
 have hm : m < xs.length := by omega
 show run H (xs.take (m + 1)) = (((run H (xs.take m)).1.act (xs.getD m default)).1, (run H (xs.take m)).2 ++ [((run H (xs.take m)).1.act (xs.getD m default)).2])
 rw [List.take_add_one, List.getElem?_eq_getElem hm, List.getD_eq_getElem?_getD, List.getElem?_eq_getElem hm]
 exact Re _ _ _
def Fits (H : AI) : Prop := ∃ n m, H.Fit n m
theorem Fits.act {H : AI} (h : H.Fits) (a : Bu) : (H.act a).1.Fits := by
 obtain ⟨n, m, h⟩ := h
 exact ⟨_, _, h.act a⟩
theorem Fits.run : ∀ (l : List Bu) {H : AI}, H.Fits → (run H l).1.Fits
 | [], _, h => h
 | a :: r, _, h => Fits.run r (h.act a)
theorem UW : AH.new.LI := by
 refine ⟨fun i => ?_, fun i => ?_, fun i => ?_⟩
 ·rcases Vector.Oy AH.new.AO i with e | ⟨j, j0, j1, e⟩
  ·rw [e]; exact Nat.zero_le _
  ·rw [e]
   have : j = 0 ∨ j = 1 ∨ j = 2 ∨ j = 3 ∨ j = 4 ∨ j = 5 ∨ j = 6 ∨ j = 7 ∨ j = 8 := by omega
   rcases this with h | h | h | h | h | h | h | h | h <;> subst h <;> decide
 ·rcases Vector.Oy AH.new.AN i with e | ⟨j, j0, j1, e⟩
  ·rw [e]; exact Nat.zero_le _
  ·rw [e]
   have : j = 0 ∨ j = 1 ∨ j = 2 ∨ j = 3 ∨ j = 4 ∨ j = 5 := by omega
   rcases this with h | h | h | h | h | h <;> subst h <;> decide
 ·rcases Vector.Oy AH.new.BQ i with e | ⟨j, j0, j1, e⟩
  ·rw [e]; exact Nat.zero_le _
  ·rw [e]
   have : j = 0 ∨ j = 1 ∨ j = 2 ∨ j = 3 ∨ j = 4 ∨ j = 5 := by omega
   rcases this with h | h | h | h | h | h <;> subst h <;> decide
theorem MW {k : Int} (h0 : 0 ≤ k) (h1 : k < 4) : AI.new.at_ k = default := by
 rcases four h0 h1 with e | e | e | e <;> subst e <;> rfl
theorem Yr : AI.new.Fit 0 0 := by
 refine ⟨UW, fun k a b => ?_, Nat.le_refl 0, fun k a b => ?_, fun k a b => ?_, fun k a b => ?_⟩ <;> rw [MW a b]
 ·exact Nat.le_refl 0
 ·exact fun e => absurd (show (0 : Int) = 2 from e) (by decide)
 ·exact fun u hu => by cases hu
 ·exact ⟨Nat.zero_le _, fun u hu => by cases hu⟩
end AI
theorem St.YC {w0 w : World} {M : List Nat} {L l : List Ac} (h : St w0 M w L) (hl : ∀ r ∈ l, r.CR = [] ∧ r.ok w) : St w0 M w (Ac.Dz l :: L) := by
 have hf : (Ac.Dz l).CR = [] := by
  show l.flatMap Ac.CR = []
  rw [List.flatMap_eq_nil_iff]
  exact fun r hr => (hl r hr).1
 refine ⟨h.os, h.tape, h.output, h.size, h.I0, fun r hr => ?_, fun r hr => ?_, List.pairwise_cons.2 ⟨fun s hs b hb => ?_, h.I5⟩⟩
 ·rcases List.mem_cons.1 hr with rfl | hr
  ·refine ⟨fun r hr => (hl r hr).2, ?_⟩
   refine List.Pairwise.imp_of_mem (R := fun _ _ => True) (fun {a b} ha hb _ x hx => ?_) (List.pairwise_of_forall (fun _ _ => trivial))
   rw [(hl a ha).1] at hx; cases hx
  ·exact h.ok r hr
 ·rcases List.mem_cons.1 hr with rfl | hr
  ·rw [hf]; exact fun b hb => by cases hb
  ·exact h.CR r hr
 ·rw [hf] at hb; cases hb
def NS : Vector A2 4 := Vector.replicate 4 default
def NL : Vector BD 4 := Vector.replicate 4 ⟨[], [], []⟩
theorem WE (T : Nat) (w : World) : ∀ r ∈ CH T NS NL, r.CR = [] ∧ r.ok w := by
 have hs : ∀ r ∈ Ff T default ⟨[], [], []⟩, r.CR = [] ∧ r.ok w := fun r hr => by
  unfold Ff at hr
  simp only [List.mem_cons, List.mem_nil_iff, or_false] at hr
  rcases hr with rfl | rfl | rfl <;> exact ⟨rfl, .inl ⟨rfl, rfl⟩⟩
 intro r hr
 have e : CH T NS NL = Ff T default ⟨[], [], []⟩ ++ (Ff T default ⟨[], [], []⟩ ++ (Ff T default ⟨[], [], []⟩ ++ Ff T default ⟨[], [], []⟩)) := rfl
 rw [e] at hr
 simp only [List.mem_append] at hr
 rcases hr with h | h | h | h <;> exact hs r h
def Et (v : A2) : Int × Int := if decide (v.state = 2) = true then (2, v.Az) else (v.state, -1)
theorem Qg (V : AL) (ls : Vector BD 4) (ev : List Event) {i : Int} (h0 : 0 ≤ i) (h1 : i < 4) : Et (V.Aw.at i) = (A5 V ls ev).Iz i := by
 unfold AI.Iz
 rw [CZ V ls ev h0 h1]
 rfl
end Go.Ing
/- Engine: calls of closures that read what they are handed; slices that are only read, beside boxes. -/
namespace Go.Ing
open Go
section
variable {P : Program} {n : Nat} {w0 : World} {M : List Nat} {Q : Exit → Go.Act → World → Prop} {F : List (Nat × Value)} {L : List Ac} {ops : Array Oper} {rest : List Oper}
def dP (w : World) (M : List Nat) (h : Hd) (T sz : Nat) (cs : List Value) : Prop := Rd w h T sz cs ∧ (cs ≠ [] → ∀ b o, h.a = some ⟨b, o, none⟩ → b ∉ M)
theorem Kn.Yn {h : Hd} {T sz : Nat} {cs : List Value} (hr : dP w0 M h T sz cs) : Kn w0 M L h T sz cs := fun w hS => by
 by_cases hc : cs = []
 ·subst hc; exact ⟨hr.1.1, fun h => absurd rfl h⟩
 ·exact hS.eC hr.1 (hr.2 hc)
theorem Xx {α β : Type} {ea : α → List Value} {eb : β → List Value} {p q : Nat} {g : α → β} {s : α → β → α} {T U f E : Nat} {fs : Array Field} {x : Operand} {X : α} {v : Value} (hl : AU ea eb p q g s) (hu : P.underlying T = some (.struct fs)) (hf : (fs[f]?).map (fun fd => (fd.offset, fd.type)) = some (p, E)) (hE : Q8 P E) (hx : ev F x = some (.agg (ea X).toArray)) (hv : eb (g X) = [v]) : PS P n w0 M (.field T x f) U F L v L := CI fun a w hF => by
 cases h : fs[f]? with
 | none => rw [h] at hf; cases hf
 | some fd =>
  rw [h] at hf
  simp at hf
  obtain ⟨rfl, rfl⟩ := hf
  have hg := hl.get X
  have hb := hl.WB X
  have hq : q = 1 := by rw [← hl.len (g X), hv]; rfl
  subst hq
  rw [hv, List.drop_eq_getElem_cons (by omega), List.take_succ_cons, List.take_zero] at hg
  have hc : (ea X)[fd.offset]? = some v := by
   rw [List.getElem?_eq_getElem (by omega), List.head_eq_of_cons_eq hg]
  have hE' := hE w
  simp [execOp, Instr.field, hF.ev hx, underlying, hu, h, part, hE', asAgg, hc]
end
theorem Rd.pull {w0 w : World} {L A K : List Ac} {h : Hd} {T sz : Nat} {cs : List Value} (hr : Rd w0 h T sz cs) (hS : St w0 [] w L) (hp : Ax L A K) : dP w (Cd A) h T sz cs :=
 ⟨hS.rd hr, fun hne b o e => by
  obtain ⟨b', o', C, fz, h1, h2, _⟩ := hr.2 hne
  rw [e] at h1
  injection h1 with h1
  injection h1 with h1
  subst h1
  exact Oc h2 (by simp) hS hp⟩
instance : Inhabited AL := ⟨⟨default, Vector.replicate 4 default, 0, ⟨none, 0, 0⟩⟩⟩
end Go.Ing
/- Engine: the texts in a slice of acts that came in, and how much they can take. -/
namespace Go.Ing
open Go Go.RowKit Go.ChangeShapes Go.WideShapes Go.ChangeAt
section
variable {H : Type} {enc : TypeId × Value → H} {P : Program} {w : World}
theorem Mp {e : TypeId} {d : DataW H} : ∀ {l : List (DataW H)}, d ∈ l → ∀ n ∈ d.weights P e, n ∈ DataW.weightsAll P e l
 | [], h, _, _ => by cases h
 | x :: r, h, n, hn => by
  simp only [DataW.weightsAll]
  rcases List.mem_cons.1 h with rfl | h
  ·exact List.mem_append_left _ hn
  ·exact List.mem_append_right _ (Mp h n hn)
theorem TZ {t E TS : TypeId} {fs : Array Field} {h : Hd} {d : DataW H} {p : List MemPlace} {T0 : Nat} {xs : List Bu} (hT : P.underlying t = some (.slice E)) (hE : P.underlying E = some (.struct fs)) (hf : (fs[3]?).map (fun f => (f.type, f.offset)) = some (TS, 3)) (hS : P.underlying TS = some .string) (zE : P.cellsOf E = 4) (zS : P.cellsOf TS = 1)
  (hd : DataW.Trod enc P w 0 (fun _ => true) true t h.val d p) (hr : Rd w h T0 4 (xs.flatMap Bu.enc)) (hw : ∀ n ∈ d.weights P t, n ≤ reachBytes) : ∀ a ∈ xs, a.bytes.length ≤ 140737488351232 := by
 have hlen : h.len = xs.length := hr.Mu Bu.fl (by decide)
 intro a ha
 obtain ⟨i, hi, rfl⟩ := List.getElem_of_mem ha
 have hb : ∃ b o, h.a = some ⟨b, o, none⟩ := by
  have hne : xs.flatMap Bu.enc ≠ [] := fun e => by
   have := congrArg List.length e
   rw [Cz Bu.fl.len] at this
   simp only [List.length_nil] at this
   omega
  obtain ⟨b, o, _, _, e, _⟩ := hr.2 hne
  exact ⟨b, o, e⟩
 obtain ⟨b, o, hb⟩ := hb
 obtain ⟨fuel, hfu⟩ := hd
 have hv : h.val = .slice (some ⟨b, o, none⟩) h.len h.cap := by rw [← hb]; rfl
 have hcs : h.val.cells.toList = [.slice (some ⟨b, o, none⟩) h.len h.cap] := by rw [hv]; rfl
 rw [hcs] at hfu
 rcases DataW.trod_slice hT hfu with ⟨h3, _⟩ | ⟨a', len, cap, elems, rest, m, _, h3, h4, _, hlc, _, h5, hel, _⟩
 ·simp at h3
 ·simp at h3
  obtain ⟨rfl, rfl, rfl⟩ := h3
  have hd' : d = .slice (elems.map (·.1)) (rest.map (·.1)) := congrArg Prod.fst h4
  have h6 := hel i (by omega)
  have hi' : i < elems.length := by omega
  rw [List.getElem?_eq_getElem hi', Option.bind_eq_some_iff] at h6
  obtain ⟨c, h7, h9⟩ := h6
  obtain ⟨ys, q, _, hx, hl, hlen', hfl⟩ := DataW.trod_struct hE h9
  cases hf3 : fs[3]? with
  | none => rw [hf3] at hf; cases hf
  | some f =>
   rw [hf3] at hf
   simp at hf
   obtain ⟨rfl, hoff⟩ := hf
   have h1 := hfl 3 f hf3
   have h3s : 3 < fs.size := by
    rcases Nat.lt_or_ge 3 fs.size with h' | h'
    ·exact h'
    ·rw [Array.getElem?_eq_none h'] at hf3; cases hf3
   have h2 : ys[3]? = some (ys[3]'(by omega)) := List.getElem?_eq_getElem (by omega)
   rw [h2, zS, hoff] at h1
   obtain ⟨s, e1, e2, _⟩ := DataW.trod_string hS h1
   have hc := World.cells?_some h7
   rw [zE] at hc
   have h10 := hc.2.2 3 (by omega)
   have h11 : c[3]? = some (.string s) := by
    have := congrArg (fun l => l[0]?) e1
    simp only [List.getElem?_take, List.getElem?_drop] at this
    simpa using this
   obtain ⟨b', o', C, fz, k1, k2, k3, k4⟩ := OF Bu.fl Bu.l3 hr hi (by decide)
   have k1' : (some ⟨b, o, none⟩ : Option Addr) = some ⟨b', o', none⟩ := hb.symm.trans k1
   injection k1' with k1'
   injection k1' with kb ko
   subst kb; subst ko
   rw [EV, EV] at h10
   unfold World.cell? at h10
   simp only [k2] at h10
   have k5 : C[o + i * 4 + 3]? = some (BS xs[i].bytes) := by
    have := congrArg (fun l => l[0]?) k4
    simp only [List.getElem?_take, List.getElem?_drop] at this
    simpa [A7] using this
   have k6 : BS xs[i].bytes = .string s := by
    rw [h11] at h10
    have : C[o + i * 4 + 3]? = some (Value.string s) := by simpa using h10
    rw [k5] at this
    injection this
   have k7 : s.data.toList = xs[i].bytes := by
    simp [BS] at k6
    rw [← k6]
   have hmem : xs[i].bytes.length ∈ d.weights P t := by
    rw [hd']
    simp only [DataW.weights, hT]
    refine List.mem_cons_of_mem _ (List.mem_append_left _ (Mp (d := elems[i].1) (List.mem_map.2 ⟨elems[i], List.getElem_mem _, rfl⟩) _ ?_))
    have hx' : elems[i].1 = .agg (ys.map (·.1)) := congrArg Prod.fst hx
    rw [hx']
    simp only [DataW.weights, hE]
    refine DataW.weights_mem_each (j := 3) (t := f.type) (d := (ys[3]'(by omega)).1) ?_ ?_ _ ?_
    ·rw [List.getElem?_map]; simp [hf3]
    ·rw [List.getElem?_map, h2]; rfl
    ·rw [e2, k7]; simp [DataW.weights]
   exact hw _ hmem
end
end Go.Ing
/- What every turn keeps: a principle. -/
namespace Go.Ing
open Go
namespace AF
inductive S4 (w : AH) : Ap → Prop
 | word {s : Ap} : s ∈ [L6, Wj, Tk, KI, OU, Nt, aU, ZK, Zg, QM] → S4 w s
 | room (r : Int) : S4 w ([84, 104, 101, 32] ++ (w.BQ.at r).name ++ [46])
 | ways (r : Room) : S4 w (Ia r 6)
 | list {s : Ap} (l : List Int) : s ∈ [[72, 101, 114, 101, 32, 105, 115], [89, 111, 117, 32, 104, 97, 118, 101]] → S4 w (SY w s l ++ [46])
 | seen (k : Int) : S4 w ((w.AN.at k).name ++ [32, 105, 115, 32, 104, 101, 114, 101, 46])
inductive Shape (x : Ap) (w : AH) : Event → Prop
 | bJ {s : Ap} : S4 w s → Shape x w { Fk 16 with text := s }
 | said : Shape x w { Fk 7 with text := x }
 | kind {k : Int} : k = 15 ∨ k = 17 → Shape x w (Fk k)
 | dir {k d : Int} : k = 1 ∨ k = 2 → Shape x w { Fk k with dir := d }
 | Bs {k i : Int} : k = 3 ∨ k = 4 ∨ (8 ≤ k ∧ k ≤ 13) → Shape x w { Fk k with Bs := (w.AO.at i).name }
 | Gz {k : Int} : k = 8 ∨ k = 9 → Shape x w { Fk k with Bs := Pb }
 | bT {i to : Int} : Shape x w { Fk 6 with other := to, Bs := (w.AO.at i).name }
 | WY {i to : Int} : Shape x w { Fk 5 with Bs := (w.AO.at i).name, text := (w.AO.at to).name }
 | CC {B0 n : Int} : 1 ≤ n → n ≤ 3 → Shape x w { Fk 14 with other := B0, n := n }
def ev (w : AH) (b : Int) (e : Event) : Event := w.Hm (Dl ⟨w, b, []⟩ e) 6
theorem Om (T : AF) (e : Event) : (T.BO e).out = T.out ++ [ev T.w T.b e] := rfl
structure Rel (x : Ap) (q : Prop) (b : Int) (R : AH → List Event → AH → Prop) : Prop where
 refl : ∀ w, R w [] w
 trans : ∀ {X l Y m Z}, R X l Y → R Y m Z → R X (l ++ m) Z
 bB : ∀ {w e}, Shape x w e → R w [ev w b e] w
 Bs : ∀ {w : AH} {i : Int} {t : Ak}, t.name = (w.AO.at i).name → t.kind = (w.AO.at i).kind → R w [] (w.Gi i t)
 B0 : ∀ {w : AH} {k f : Int}, R w [] (w.C3 k { w.AN.at k with B0 := f })
 shut : ∀ {w : AH} {r d : Int} {v : Bool}, R w [] (w.Mw r d v)
 F2 : ∀ {w : AH} {d r : Int}, R w [ev w b { Fk 1 with dir := d }] (w.C3 b { w.AN.at b with room := r, B0 := 0 })
 Ge : q → ∀ {w}, R w [ev w b (Fk 18)] w
 gone : ∀ {X l w}, R X l w → (∃ e ∈ l, (e.kind = 18 ∨ (e.kind = 15 ∧ b < 2)) ∧ e.DZ = b) → R X l (w.C3 b default)
structure On (R : AH → List Event → AH → Prop) (X : AH) (b : Int) (T : AF) : Prop where
 b : T.b = b
 r : R X T.out T.w
theorem OC (T : AF) (i j CW at_ : Int) : ((T.place i CW at_).w.AO.at j).name = (T.w.AO.at j).name := by
 show ((T.w.AO.put i { T.w.AO.at i with CW := CW, at_ := at_ }).at j).name = _
 unfold Vector.put Vector.at
 rw [List.getD_eq_getElem?_getD, List.getD_eq_getElem?_getD, List.getD_eq_getElem?_getD]
 simp only [Vector.toList_setIfInBounds]
 rw [List.getElem?_set]
 split
 ·rename_i h1
  split
  ·rw [h1]; rfl
  ·rename_i h2
   rw [← h1, List.getElem?_eq_none (by omega)]
 ·rfl
theorem G3 (w : AH) (b : Int) (e : Event) : (ev w b e).kind = e.kind ∧ (ev w b e).DZ = b := by
 obtain ⟨a1, a2, _⟩ := AH.KG w (Dl ⟨w, b, []⟩ e) 6
 refine ⟨a1.trans ?_, a2.trans ?_⟩
 ·unfold Dl; split <;> rfl
 ·unfold Dl; split <;> rfl
section
variable {x : Ap} {q : Prop} {b : Int} {R : AH → List Event → AH → Prop} (K : Rel x q b R) {X : AH} {T : AF}
include K
theorem On.start (X : AH) : On R X b ⟨X, b, []⟩ := ⟨rfl, K.refl X⟩
theorem On.land (h : On R X b T) {w' : AH} (hr : R T.w [] w') : On R X b { T with w := w' } := ⟨h.b, by have := K.trans h.r hr; rwa [List.append_nil] at this⟩
theorem On.BO (h : On R X b T) {e : Event} (he : Shape x T.w e) : On R X b (T.BO e) := ⟨h.b, by rw [Om, h.b]; exact K.trans h.r (K.bB he)⟩
theorem On.tell (h : On R X b T) {s : Ap} (hs : S4 T.w s) : On R X b (T.tell s) := h.BO K (.bJ hs)
theorem On.kind (h : On R X b T) {k : Int} (hk : k = 15 ∨ k = 17) : On R X b (T.kind k) := h.BO K (.kind hk)
theorem On.cT (h : On R X b T) {k : Int} (i : Int) (hk : k = 3 ∨ k = 4 ∨ (8 ≤ k ∧ k ≤ 13)) : On R X b (T.Bs k i) := h.BO K (.Bs hk)
theorem On.C7 (h : On R X b T) {i : Int} {t : Ak} (hn : t.name = (T.w.AO.at i).name) (hk : t.kind = (T.w.AO.at i).kind) : On R X b (T.C7 i t) := h.land K (w' := T.w.Gi i t) (K.Bs hn hk)
theorem On.place (h : On R X b T) (i CW at_ : Int) : On R X b (T.place i CW at_) := h.C7 K rfl rfl
theorem On.Ch (h : On R X b T) (k f : Int) : On R X b (T.Ch k f) := h.land K (w' := T.w.C3 k { T.w.AN.at k with B0 := f }) K.B0
theorem On.C4 (h : On R X b T) (r d : Int) (v : Bool) : On R X b (T.C4 r d v) := h.land K (w' := T.w.Mw r d v) K.shut
theorem On.list (h : On R X b T) {s : Ap} (hs : s ∈ [[72, 101, 114, 101, 32, 105, 115], [89, 111, 117, 32, 104, 97, 118, 101]]) (l : List Int) : On R X b (T.list s l) := h.tell K (.list l hs)
theorem On.look (h : On R X b T) : On R X b T.look := by
 have hk : ∀ {T' : AF}, On R X b T' → ∀ k : Nat, On R X b (T'.FX k) := fun {T'} h' k => by
  induction k with
  | zero => exact h'
  | succ k ih =>
   unfold FX
   split
   ·refine ih.tell K ?_
    rw [(KD T' k).1]
    exact .seen k
   ·exact ih
 unfold AF.look
 split
 ·exact h.tell K (.word (by simp))
 ·refine hk ?_ 6
  have ha : On R X b T.Jl := (h.tell K (.room _)).tell K (.ways _)
  unfold D5
  split
  ·exact ha.list K (by simp) _
  ·exact ha
theorem On.walk (h : On R X b T) (d : Int) : On R X b (T.walk d) := by
 unfold AF.walk
 split
 ·exact h.tell K (.word (by simp))
 ·split
  ·exact h.tell K (.word (by simp))
  ·have i1 : On R X b ((T.BO { Fk 1 with dir := d }).F2 ((T.w.BQ.at T.me.room).CM.at d - 1)) := ⟨h.b, by
    have := K.trans h.r (K.F2 (w := T.w) (d := d) (r := (T.w.BQ.at T.me.room).CM.at d - 1))
    rw [← h.b] at this
    exact this⟩
   exact (i1.BO K (.dir (.inr rfl))).look K
theorem On.box (h : On R X b T) (u : Ap) : On R X b (T.box u).1 := by
 unfold AF.box
 split
 ·exact h.tell K (.word (by simp))
 ·split
  ·exact h.tell K (.word (by simp))
  ·exact h
theorem On.A6 (h : On R X b T) (u : Ap) : On R X b (T.A6 u).1 := by
 unfold AF.A6
 split
 ·split
  ·exact h
  ·exact h.tell K (.word (by simp))
 ·exact h.tell K (.word (by simp))
theorem On.DB (l : List Int) : ∀ {T' : AF}, On R X b T' → On R X b (T'.DB l) := by
 induction l with
 | nil => exact fun h => h
 | cons i r ih => exact fun {T'} h => ih ((h.place K i 1 T'.b).cT K i (.inl rfl))
theorem On.KO (h : On R X b T) (l : List Int) (o : Order) : On R X b (T.KO l o) := by
 unfold AF.KO
 refine On.DB K _ ?_
 split
 ·exact h.tell K (.word (by simp))
 ·exact h
theorem On.get (h : On R X b T) (o : Order) : On R X b (T.get o) := by
 unfold AF.get
 split
 ·split
  ·exact h.box K _
  ·exact (h.box K _).KO K _ _
 ·exact h.KO K _ _
theorem On.Cn (h : On R X b T) (v to i : Int) : On R X b (T.Cn v to i) := by
 unfold AF.Cn
 split
 ·exact h.tell K (.word (by simp))
 ·split
  ·exact (h.place K _ _ _).cT K _ (.inr (.inl rfl))
  ·split
   ·refine (h.place K i 1 to).BO K ?_
    rw [← OC T i i 1 to]
    exact .bT
   ·split
    ·exact h.tell K (.word (by simp))
    ·refine (h.place K i 2 to).BO K ?_
     rw [← OC T i i 2 to, ← OC T i to 2 to]
     exact .WY
theorem On.Ej {v to : Int} (l : List Int) : ∀ {T' : AF}, On R X b T' → On R X b (T'.Ej v to l) := by
 induction l with
 | nil => exact fun h => h
 | cons i r ih => exact fun h => ih (h.Cn K v to i)
theorem On.E8 (h : On R X b T) (o : Order) : On R X b (T.E8 o) := by
 have ht : On R X b (T.Cs o).1 := by
  unfold Cs
  split
  ·exact h.box K _
  ·split
   ·exact h.A6 K _
   ·exact h
 unfold AF.E8
 split
 ·exact ht
 ·unfold RR
  refine On.Ej K _ ?_
  split
  ·exact ht.tell K (.word (by simp))
  ·exact ht
theorem On.E0 (h : On R X b T) (o : Order) : On R X b (T.E0 o) := by
 unfold AF.E0
 generalize (if (!decide (o.nth = 1) || o.Bj) = true then [] else o.name) = nm
 have hs := h.A6 K nm
 split
 ·exact hs
 ·refine On.tell K ?_ (.word (by simp))
  split
  ·exact (hs.Ch K _ _).Ch K _ _
  ·exact hs.Ch K _ _
theorem On.before (h : On R X b T) (first : Bool) (i : Int) (v : Bool) {k : Int} (hk : k = 3 ∨ k = 4 ∨ (8 ≤ k ∧ k ≤ 13)) : On R X b (T.before first i v k) := by
 unfold AF.before
 split
 ·exact (On.C7 K h (i := i) (t := { T.w.AO.at i with on := v }) rfl rfl).cT K _ hk
 ·exact (h.cT K i hk).C7 K rfl rfl
theorem On.Gz (h : On R X b T) (d : Int) (on : Bool) {k : Int} (hk : k = 8 ∨ k = 9) : On R X b (T.Gz d on k) := by
 unfold AF.Gz
 split
 ·exact h.tell K (.word (by simp))
 ·split
  ·exact h.tell K (.word (by simp))
  ·refine On.BO K ?_ (.Gz hk)
   split
   ·exact (h.C4 K _ _ _).C4 K _ _ _
   ·exact h.C4 K _ _ _
theorem On.set (h : On R X b T) {o : Order} (h0 : 12 ≤ o.verb) (h1 : o.verb ≤ 17) : On R X b (T.set o) := by
 unfold AF.set
 split
 ·rename_i c
  rw [Bool.and_eq_true] at c
  have h3 := of_decide_eq_true c.2
  have : o.verb = 12 ∨ o.verb = 13 := by
   unfold setKind at h3
   split at h3
   ·omega
   ·split at h3
    ·omega
    ·rename_i c1 c2
     simp only [Bool.or_eq_true, decide_eq_true_eq, not_or] at c1 c2
     omega
  exact h.Gz K _ _ (by unfold O7; omega)
 ·split
  ·exact h.tell K (.word (by simp))
  ·split
   ·exact h.tell K (.word (by simp))
   ·split
    ·exact h.before K _ _ _ (by unfold O7; omega)
    ·exact h.before K _ _ _ (by unfold O7; omega)
theorem On.Ca (l : List Int) : ∀ {T' : AF}, On R X b T' → On R X b (T'.Ca l) := by
 induction l with
 | nil => exact fun h => h
 | cons i r ih => exact fun {T'} h => ih (On.C7 K h (i := i) rfl rfl)
theorem On.DP (h : On R X b T) : ∀ k : Nat, On R X b (T.DP k)
 | 0 => h
 | k + 1 => by
  unfold AF.DP
  split
  ·exact (On.DP h k).Ch K _ _
  ·exact On.DP h k
theorem On.E4 (h : On R X b T) : On R X b T.E4 := by
 rw [L0]
 exact ((On.Ca K _ h).DP K 6).Ch K _ _
theorem On.Ge (h : On R X b T) (hq : q) : On R X b T.Ge := by
 have h18 : On R X b (T.kind 18) := ⟨h.b, by show R X (T.BO (Fk 18)).out _; rw [Om, h.b]; exact K.trans h.r (K.Ge hq)⟩
 have hf := On.E4 K h18
 have hb := T.Nf
 refine ⟨hb.1.trans h.b, ?_⟩
 rw [hb.2.1, hb.2.2]
 have h2 := hf.r
 rw [(Q1 (T.kind 18)).2] at h2
 have := K.gone h2 ⟨ev T.w T.b (Fk 18), by show _ ∈ T.out ++ [_]; exact List.mem_append_right _ (List.mem_cons_self ..), .inl (G3 ..).1, (G3 ..).2.trans h.b⟩
 rw [← h.b] at this
 exact this
theorem On.act (h : On R X b T) {o : Order} (hx : o.text = x) (hq : o.verb = 20 → q) (h0 : 0 ≤ o.verb) (h20 : o.verb ≤ 20) : On R X b (T.act o) := by
 unfold AF.act
 split
 ·exact h.walk K _
 ·split
  ·exact h.look K
  ·split
   ·exact h.list K (by simp) _
   ·split
    ·refine h.BO K ?_; rw [hx]; exact .said
    ·split
     ·rename_i c; exact h.Ge K (hq (of_decide_eq_true c))
     ·split
      ·exact h.E0 K _
      ·split
       ·exact h.get K _
       ·split
        ·exact h.E8 K _
        ·rename_i c1 c2 c3 c4 c5 c6 c7 c8
         simp only [Bool.or_eq_true, decide_eq_true_eq, not_or] at c1 c2 c3 c4 c5 c6 c7 c8
         exact h.set K (by omega) (by omega)
theorem Q3 {o : Order} (hx : o.text = x) (hq : o.verb = 20 → q) : R X (D8 X b o).2.1 (D8 X b o).1 := by
 unfold D8
 split
 ·exact K.refl X
 ·split
  ·exact K.refl X
  ·split
   ·exact K.refl X
   ·rename_i c
    simp only [Bool.or_eq_true, decide_eq_true_eq, not_or] at c
    exact ((On.start K X).act K hx hq (by omega) (by omega)).r
end
end AF
end Go.Ing
/- What every round of fights keeps, and every coming in: a principle. -/
namespace Go.Ing
open Go
namespace AF
structure Yo (R : AH → List Event → AH → Prop) : Prop where
 all : ∀ b, 0 ≤ b → b < 6 → Rel [] False b R
 bE : ∀ {w : AH} {k h : Int}, R w [] (w.C3 k { w.AN.at k with BL := h })
 dQ : ∀ {X l w} {b : Int}, 2 ≤ b → R X l w → (∃ e ∈ l, e.kind = 15 ∧ e.DZ = b) → R X l (w.C3 b { w.AN.at b with room := 0, BL := 10 })
section
variable {R : AH → List Event → AH → Prop} (K : Yo R)
include K
theorem Um {X : AH} : R X [] X := (K.all 0 (Int.le_refl _) (by decide)).refl X
theorem rel_trans {X Y Z : AH} {l m : List Event} (h : R X l Y) (k : R Y m Z) : R X (l ++ m) Z := (K.all 0 (Int.le_refl _) (by decide)).trans h k
theorem Sx {w : AH} {b B0 n : Int} (b0 : 0 ≤ b) (b6 : b < 6) (h1 : 1 ≤ n) (h3 : n ≤ 3) : R w (CC w b B0 n).out (CC w b B0 n).w := by
 have a := (On.start (K.all b b0 b6) w).BO (K.all b b0 b6) (e := { Fk 14 with other := B0, n := n }) (.CC h1 h3)
 have := rel_trans K a.r (K.bE (k := B0) (h := max 0 ((w.AN.at B0).BL - n)))
 rw [List.append_nil] at this
 exact this
theorem Yu {w : AH} {b : Int} (b0 : 0 ≤ b) (b6 : b < 6) : R w (Hn w b).out (Hn w b).w := by
 have KB := K.all b b0 b6
 have h0 : On R w b (FT w b) := ⟨rfl, K.bE⟩
 have h1 := On.E4 KB (h0.kind KB (k := 15) (.inl rfl))
 have e1 : ((FT w b).kind 15).E4 = Fz w b := rfl
 have hm : ∃ e ∈ (Fz w b).out, e.kind = 15 ∧ e.DZ = b := by
  rw [(Ja w b).2]
  exact ⟨ev (FT w b).w b (Fk 15), List.mem_append_right _ (List.mem_cons_self ..), (G3 ..).1, (G3 ..).2⟩
 rw [e1] at h1
 clear e1
 unfold Hn
 split
 ·rename_i c
  have c2 := of_decide_eq_true c
  rw [(C9 _ _ _).2.1, (C9 _ _ _).2.2]
  obtain ⟨e, he, hk, ha⟩ := hm
  exact KB.gone h1.r ⟨e, he, .inr ⟨hk, c2⟩, ha⟩
 ·rename_i c
  have h2 : On R w b (JA w b) := by
   obtain ⟨d1, d2, d3⟩ := QZ w b
   refine ⟨d1, ?_⟩
   rw [d3, d2, ← (Ja w b).2]
   have hb2 : 2 ≤ b := Int.not_lt.1 fun e => c (decide_eq_true e)
   exact K.dQ (b := b) hb2 h1.r hm
  exact ((h2.kind KB (k := 17) (.inr rfl)).look KB).r
theorem Sm {X : AH} {s : AH × List Event} {draw b : Int} (b0 : 0 ≤ b) (b6 : b < 6) (hg : s.1.Bg = true) (h : R X s.2 s.1) : R X (EG draw b s).2 (EG draw b s).1 := by
 have hh := Le (draw := draw) b0
 have kb := (G6 hg b0 b6).B0
 unfold EG
 split
 ·exact h
 ·rename_i c0
  simp only [Bool.or_eq_true, Bool.not_eq_true', decide_eq_true_eq, not_or, Bool.not_eq_false] at c0
  split
  ·have := rel_trans K h ((K.all b b0 b6).B0 (k := b) (f := 0))
   rw [List.append_nil] at this
   exact this
  ·have hk := Sx K (w := s.1) (b := b) (B0 := (s.1.AN.at b).B0 - 1) b0 b6 hh.1 hh.2
   split
   ·exact rel_trans K (rel_trans K h hk) (Yu K (by omega) (by omega))
   ·exact rel_trans K h hk
theorem K5 {X : AH} {draw : Int} (hg : X.Bg = true) (hw : X.DE) : ∀ k : Nat, k ≤ 6 → R X (DT X draw k).2 (DT X draw k).1 ∧ (DT X draw k).1.Bg = true ∧ (DT X draw k).1.DE
 | 0, _ => ⟨Um K, hg, hw⟩
 | k + 1, hk => by
  obtain ⟨a, b, c⟩ := K5 hg hw k (by omega)
  have := Fa (draw := draw) (b := k) b c (by omega) (by omega)
  exact ⟨Sm K (by omega) (by omega) b a, this.1, this.2.1⟩
theorem Pj {X : AH} {draw : Int} (hw : X.DE) : R X (CU X draw).2.1 (CU X draw).1 := by
 unfold CU
 split
 ·exact Um K
 ·rename_i c
  have h := (K5 K (draw := draw) (show X.Bg = true by simpa using c) hw 6 (Nat.le_refl 6)).1
  generalize DT X draw 6 = r at *
  exact h
omit K in
theorem SS (X : AH) (s : Ap) : ((BU X s).2.2.2 ≠ 0 ∧ (BU X s).1 = X ∧ (BU X s).2.2.1 = []) ∨ (BU X s = ((JH X s (CK X 6)).w, CK X 6, (JH X s (CK X 6)).out, 0) ∧ 2 ≤ CK X 6 ∧ CK X 6 ≤ 5 ∧ FG s = true ∧ X.Bg = true ∧ ∀ k, 0 ≤ k → k < 6 → IY X s k = false) := by
 have bad : ∀ z : Int, z ≠ 0 → BU X s = (X, 0, [], z) → (BU X s).2.2.2 ≠ 0 ∧ (BU X s).1 = X ∧ (BU X s).2.2.1 = [] := fun z hz e => by rw [e]; exact ⟨hz, rfl, rfl⟩
 cases c1 : X.Bg with
 | false => exact .inl (bad 2 (by decide) (if_pos (by rw [c1]; rfl)))
 | true =>
  have e1 : BU X s = if (!FG s) = true then (X, 0, [], 1) else if (!B5 6 (fun k => !IY X s k) 6) = true then (X, 0, [], 1) else if decide (CK X 6 < 0) = true then (X, 0, [], 4) else ((JH X s (CK X 6)).w, CK X 6, (JH X s (CK X 6)).out, 0) := if_neg (by rw [c1]; decide)
  cases c2 : FG s with
  | false => exact .inl (bad 1 (by decide) (e1.trans (if_pos (by rw [c2]; rfl))))
  | true =>
   have e2 := e1.trans (if_neg (by rw [c2]; decide))
   cases c3 : B5 6 (fun k => !IY X s k) 6 with
   | false => exact .inl (bad 1 (by decide) (e2.trans (if_pos (by rw [c3]; rfl))))
   | true =>
    have e3 := e2.trans (if_neg (by rw [c3]; decide))
    cases c4 : decide (CK X 6 < 0) with
    | true => exact .inl (bad 4 (by decide) (e3.trans (if_pos c4)))
    | false =>
     have e4 := e3.trans (if_neg (by rw [c4]; decide))
     have hf : 2 ≤ CK X 6 ∧ CK X 6 ≤ 5 := by
      rcases Mb X 6 (Nat.le_refl 6) with e | e
      ·exact absurd (show CK X 6 < 0 by omega) (of_decide_eq_false c4)
      ·exact e
     refine .inr ⟨e4, hf.1, hf.2, rfl, rfl, fun k k0 k6 => ?_⟩
     have := (DY 6).1 c3 k (by omega) k6
     simpa using this
end
end AF
end Go.Ing
/- What happens within an act of a house, in small steps. -/
namespace Go.Ing
open Go
namespace As
def CS (s : As) (e : Event) : As := if (AH.tell e s.Az).2 = true then s.tell (AH.tell e s.Az).1 else s
def Ef (s : As) (es : List Event) : As := if s.state = 2 then es.foldl CS s else s
end As
theorem lt_next {j : Int} {k : Nat} (c : ¬ j = (k : Int)) : (j < ((k + 1 : Nat) : Int)) = (j < (k : Int)) := propext ⟨fun _ => by omega, fun _ => by omega⟩
namespace AI
theorem Ke (e : Event) (H : AI) : ∀ k : Nat, k ≤ 4 → ∀ j : Int, 0 ≤ j → j < 4 → (CS e H k).at_ j = if j < k ∧ (H.at_ j).state = 2 then (H.at_ j).CS e else H.at_ j
 | 0, _, j, h0, _ => by rw [if_neg (by omega)]; rfl
 | k + 1, hk, j, h0, h1 => by
  have ih := Ke e H k (by omega) j h0 h1
  have ihk := K4 e H k (by omega) k (Int.le_refl _) (by omega)
  by_cases c : j = (k : Int)
  ·subst c
   unfold CS
   rw [ihk]
   split
   ·rename_i c1
    rw [if_neg (by simp at c1; exact fun h => c1 h.2)]; exact ihk
   ·rename_i c1
    have hr : (if (k : Int) < ((k + 1 : Nat) : Int) ∧ (H.at_ k).state = 2 then (H.at_ k).CS e else H.at_ k) = if (AH.tell e (H.at_ k).Az).2 = true then (H.at_ k).tell (AH.tell e (H.at_ k).Az).1 else H.at_ k := if_pos ⟨by omega, by simpa using c1⟩
    rw [hr]
    by_cases c2 : (AH.tell e (H.at_ k).Az).2 = true
    ·rw [if_pos c2, if_pos c2]
     unfold AI.tell
     rw [AI.Cv _ (by omega) (by omega) h0, if_pos rfl, ihk]
    ·rw [if_neg c2, if_neg c2]; exact ihk
  ·have e2 : (CS e H (k + 1)).at_ j = (CS e H k).at_ j := by
    rw [CS.eq_2]
    split
    ·rfl
    ·split
     ·exact Tz (by omega) (by omega) h0 c _
     ·rfl
   rw [e2, ih]; simp only [lt_next c]
theorem O2 (e : Event) (H : AI) : ∀ k : Nat, (CS e H k).w = H.w ∧ (CS e H k).last = H.last ∧ (CS e H k).CA = H.CA
 | 0 => ⟨rfl, rfl, rfl⟩
 | k + 1 => by
  have ih := O2 e H k
  rw [CS.eq_2]
  split
  ·exact ih
  ·split
   ·exact ih
   ·exact ih
theorem UF (s : As) (e : Event) : (s.CS e).state = s.state ∧ (s.CS e).Az = s.Az := by
 unfold As.CS
 split
 ·exact ⟨(Eu _ _).1, (Eu _ _).2.1⟩
 ·exact ⟨rfl, rfl⟩
theorem Rv {j : Int} (j0 : 0 ≤ j) (j1 : j < 4) : ∀ (es : List Event) (H : AI), (H.Hc es).at_ j = (H.at_ j).Ef es
 | [], H => by show H.at_ j = _; unfold As.Ef; split <;> rfl
 | e :: r, H => by
  have ih := Rv j0 j1 r (CS e H 4)
  show ((CS e H 4).Hc r).at_ j = _
  have h1 := Ke e H 4 (Nat.le_refl 4) j j0 j1
  rw [ih, h1]
  by_cases c : (H.at_ j).state = 2
  ·rw [if_pos ⟨by omega, c⟩]
   unfold As.Ef
   rw [if_pos c, if_pos (by rw [(UF _ e).1]; exact c)]
   rfl
  ·rw [if_neg (fun h => c h.2)]
   unfold As.Ef
   rw [if_neg c, if_neg c]
theorem N4 : ∀ (es : List Event) (H : AI), (H.Hc es).w = H.w ∧ (H.Hc es).last = H.last ∧ (H.Hc es).CA = H.CA
 | [], H => ⟨rfl, rfl, rfl⟩
 | e :: r, H => by
  have ih := N4 r (CS e H 4)
  have h1 := O2 e H 4
  exact ⟨ih.1.trans h1.1, ih.2.1.trans h1.2.1, ih.2.2.trans h1.2.2⟩
theorem UC (H : AI) (es : List Event) {j : Int} (j0 : 0 ≤ j) (j1 : j < 4) : (H.Gu es).at_ j = (H.at_ j).Ef es := Rv j0 j1 es _
theorem Vz (H : AI) (es : List Event) : (H.Gu es).w = H.w ∧ (H.Gu es).last = H.last ++ es ∧ (H.Gu es).CA = H.CA := N4 es _
def Wi : List Ap := [Hg, Mz, Za, QR, noRoom]
inductive DI (U : Ap → Prop) (H : AI) : Int → AH → As → List Event → Prop
 | left {k : Int} : (H.at_ k).state = 2 → (H.w.AN.at (H.at_ k).Az).here = true → DI U H k (AF.D8 H.w (H.at_ k).Az EA).1 default (AF.D8 H.w (H.at_ k).Az EA).2.1
 | L8 {k : Int} {u : Ap} : (H.at_ k).state = 1 → (AF.BU H.w u).2.2.2 = 0 → DI U H k (AF.BU H.w u).1 { H.at_ k with state := 2, Az := (AF.BU H.w u).2.1 } (AF.BU H.w u).2.2.1
 | bX {k : Int} {q : Ap} : U q → (H.at_ k).state ≠ 0 → (H.at_ k).state ≠ 1 → (Words.parse q).1.verb ≠ 20 → DI U H k (AF.D8 H.w (H.at_ k).Az (Words.parse q).1).1 (H.at_ k) (AF.D8 H.w (H.at_ k).Az (Words.parse q).1).2.1
 | round {d : Int} : DI U H 0 (AF.CU H.w d).1 (H.at_ 0) (AF.CU H.w d).2.1
def HX (H : AI) (k : Int) (w : AH) (s : As) (es : List Event) : AI := ({ H with w := w }.set k s).Gu es
inductive Step (U : Ap → Prop) (H : AI) : AI → Prop
 | told {k : Int} {u : Ap} : 0 ≤ k → k < 4 → (H.at_ k).state ≠ 0 → u ∈ Wi → Step U H (H.tell k u)
 | BX {k : Int} : 0 ≤ k → k < 4 → (H.at_ k).state ≠ 0 → Step U H (H.set k (H.at_ k).BX)
 | goes {k : Int} {w : AH} {s : As} {es : List Event} : 0 ≤ k → k < 4 → DI U H k w s es → Step U H (H.HX k w s es)
 | free {k : Int} : 0 ≤ k → k < 4 → ¬ ((H.at_ k).state = 2 ∧ (H.w.AN.at (H.at_ k).Az).here = true) → Step U H (H.set k default)
inductive Steps (U : Ap → Prop) (H : AI) : AI → Prop
 | refl : Steps U H H
 | tail {X Y : AI} : Steps U H X → Step U X Y → Steps U H Y
section
variable {U : Ap → Prop} {H X Y : AI}
theorem Step.one (h : Step U H X) : Steps U H X := .tail .refl h
theorem Steps.trans (h : Steps U H X) (k : Steps U X Y) : Steps U H Y := by
 induction k with
 | refl => exact h
 | tail _ s ih => exact ih.tail s
theorem Steps.Jw {P : AI → Prop} (hs : ∀ {H X : AI}, P H → Step U H X → P X) (h : P H) (k : Steps U H X) : P X := by
 induction k with
 | refl => exact h
 | tail _ s ih => exact hs ih s
theorem HE (H : AI) {k : Int} (h0 : 0 ≤ k) (h1 : k < 4) (w : AH) (s : As) (es : List Event) {j : Int} (j0 : 0 ≤ j) (j1 : j < 4) : (H.HX k w s es).at_ j = (if j = k then s else H.at_ j).Ef es := by
 unfold HX
 rw [UC _ _ j0 j1, Cv _ h0 h1 j0]
 rfl
theorem MD (H : AI) (k : Int) (w : AH) (s : As) (es : List Event) : (H.HX k w s es).w = w ∧ (H.HX k w s es).last = H.last ++ es ∧ (H.HX k w s es).CA = H.CA := Vz _ es
theorem OQ (es : List Event) : (default : As).Ef es = default := if_neg (show ¬ (0 : Int) = 2 by decide)
theorem Fc (H : AI) {k : Int} (h0 : 0 ≤ k) (h1 : k < 4) : Steps U H (H.leave k) := by
 unfold AI.leave
 split
 ·rename_i c
  rw [Bool.and_eq_true, decide_eq_true_eq] at c
  have s : Step U H (H.HX k (AF.D8 H.w (H.at_ k).Az EA).1 default (AF.D8 H.w (H.at_ k).Az EA).2.1) := .goes h0 h1 (.left c.1 c.2)
  have e : (((H.Tl k).set k default).Gu (AF.D8 H.w (H.at_ k).Az EA).2.1).set k default = H.HX k (AF.D8 H.w (H.at_ k).Az EA).1 default (AF.D8 H.w (H.at_ k).Az EA).2.1 := by
   show (H.HX k _ default _).set k default = _
   have := HE H h0 h1 (AF.D8 H.w (H.at_ k).Az EA).1 default (AF.D8 H.w (H.at_ k).Az EA).2.1 h0 h1
   rw [if_pos rfl, OQ] at this
   have h2 := Lq (H.HX k (AF.D8 H.w (H.at_ k).Az EA).1 default (AF.D8 H.w (H.at_ k).Az EA).2.1) h0 h1
   rw [this] at h2
   exact h2
  rw [e]
  exact s.one
 ·rename_i c
  exact (Step.free h0 h1 (fun h => c (by rw [Bool.and_eq_true, decide_eq_true_eq]; exact h))).one
theorem Hx (H : AI) : ∀ k : Nat, k ≤ 4 → Steps U H (H.Ce k).1
 | 0, _ => .refl
 | k + 1, hk => by
  have ih := Hx H k (by omega)
  unfold Ce
  split
  ·exact ih
  ·rename_i c
   have s : Step U (H.Ce k).1 ((H.Ce k).1.set k (((H.Ce k).1.at_ k).BX)) := .BX (by omega) (by omega) (by simpa using c)
   split
   ·exact (ih.tail s).trans (Fc _ (by omega) (by omega))
   ·exact ih.tail s
theorem Mi : ∀ (n : Nat) (H : AI), Steps U H (H.HZ n)
 | 0, _ => .refl
 | n + 1, H => by
  unfold HZ
  split
  ·exact Hx H 4 (Nat.le_refl 4)
  ·exact (Hx H 4 (Nat.le_refl 4)).trans (Mi n _)
theorem It (H : AI) : Steps U H H.BX := Mi 5 H
theorem R4 (H : AI) {k : Int} (h0 : 0 ≤ k) (h1 : k < 4) (hs : (H.at_ k).state = 1) (u : Ap) : Steps U H (H.named k u) := by
 unfold AI.named
 split
 ·rename_i c
  exact (Step.goes h0 h1 (.L8 hs (of_decide_eq_true c))).one
 ·have hn : (H.at_ k).state ≠ 0 := by omega
  split
  ·exact (Step.told h0 h1 hn (by simp [Wi])).one
  ·exact (Step.told h0 h1 hn (by simp [Wi])).one
theorem SN (H : AI) {k : Int} (h0 : 0 ≤ k) (h1 : k < 4) (hs : (H.at_ k).state ≠ 0) (h2 : (H.at_ k).state ≠ 1) {u : Ap} (hu : U u) : Steps U H (H.order k u) := by
 unfold AI.order
 split
 ·exact (Step.told h0 h1 hs (by simp [Wi])).one
 ·split
  ·exact Fc H h0 h1
  ·rename_i c
   have := (Step.goes (H := H) h0 h1 (.bX hu hs h2 (fun e => c (decide_eq_true e)))).one
   unfold HX at this
   rw [show ({ H with w := (AF.D8 H.w (H.at_ k).Az (Words.parse u).1).1 } : AI).set k (H.at_ k) = { H with w := (AF.D8 H.w (H.at_ k).Az (Words.parse u).1).1 } from Lq { H with w := (AF.D8 H.w (H.at_ k).Az (Words.parse u).1).1 } h0 h1] at this
   exact this
theorem H5 (H : AI) (d : Int) : Steps U H ({ H with w := (AF.CU H.w d).1 }.Gu (AF.CU H.w d).2.1) := by
 have := (Step.goes (U := U) (H := H) (Int.le_refl 0) (by decide) (.round (d := d))).one
 unfold HX at this
 rw [show ({ H with w := (AF.CU H.w d).1 } : AI).set 0 (H.at_ 0) = { H with w := (AF.CU H.w d).1 } from Lq { H with w := (AF.CU H.w d).1 } (Int.le_refl 0) (by decide)] at this
 exact this
def next (H : AI) (k : Int) (r : List Ap) : AI := H.set k { H.at_ k with queue := r }.FN
theorem I2 (H : AI) {k : Int} (h0 : 0 ≤ k) (h1 : k < 4) (hU : ∀ q ∈ (H.at_ k).queue, U q) : (((H.at_ k).state = 0 ∨ (H.at_ k).queue = []) ∧ H.D9 k = H) ∨ ∃ q r, (H.at_ k).state ≠ 0 ∧ (H.at_ k).queue = q :: r ∧ Steps U (H.next k r) (H.D9 k) := by
 unfold AI.D9
 split
 ·rename_i c; exact .inl ⟨.inl (of_decide_eq_true c), rfl⟩
 ·rename_i c
  have c' : (H.at_ k).state ≠ 0 := fun e => c (decide_eq_true e)
  split
  ·rename_i e; exact .inl ⟨.inr e, rfl⟩
  ·rename_i q r e
   refine .inr ⟨q, r, c', e, ?_⟩
   have ha : (H.next k r).at_ k = { H.at_ k with queue := r }.FN := by unfold next; rw [Cv _ h0 h1 h0, if_pos rfl]
   have hst : ((H.next k r).at_ k).state = (H.at_ k).state := by rw [ha]; rfl
   show Steps U (H.next k r) (if (H.at_ k).pg.B7 = true then H.next k r else if decide ((H.at_ k).state = 1) = true then (H.next k r).named k (Words.P0 32 (Words.RM 32 q)) else (H.next k r).order k q)
   split
   ·exact .refl
   ·split
    ·rename_i c2
     exact R4 _ h0 h1 (by rw [hst]; exact of_decide_eq_true c2) _
    ·rename_i c2
     exact SN _ h0 h1 (by rw [hst]; exact c') (by rw [hst]; exact fun e => c2 (decide_eq_true e)) (hU q (by rw [e]; exact List.mem_cons_self ..))
end
end AI
end Go.Ing
/- What a seat is behind every act: plain laws. -/
namespace Go.Ing
open Go
namespace Page
theorem Pt (ht : Int) : ∀ (l : List Ap) (x : Pg), BX ht (BX ht l x).2 (BX ht l x).1 = BX ht l x
 | [], x => rfl
 | s :: r, x => by
  by_cases c1 : (x.B7 || x.cut) = true
  ·have e : BX ht (s :: r) x = (x, s :: r) := by rw [BX, if_pos c1]
   rw [e]; exact e
  ·by_cases c2 : (decide (0 < ht) && decide (ht ≤ x.shown)) = true
   ·have e : BX ht (s :: r) x = (put { x with B7 := true } UZ, s :: r) := by rw [BX, if_neg c1, if_pos c2]
    rw [e]
    have ha : (put { x with B7 := true } UZ).B7 = true := by
     unfold put; split
     ·rfl
     ·split <;> rfl
    rw [BX, if_pos (by rw [ha]; rfl)]
   ·have e : BX ht (s :: r) x = BX ht r (put { x with shown := min (x.shown + 1) 200 } (escape s ++ [13, 10])) := by rw [BX, if_neg c1, if_neg c2]
    rw [e]
    exact Pt ht r _
theorem Nc (ht : Int) : ∀ (l : List Ap) (x : Pg), x.ring.length ≤ 700 → 0 ≤ x.shown → x.shown ≤ 200 → (BX ht l x).1.ring.length ≤ 700 ∧ 0 ≤ (BX ht l x).1.shown ∧ (BX ht l x).1.shown ≤ 200
 | [], x, h1, h2, h3 => ⟨h1, h2, h3⟩
 | s :: r, x, h1, h2, h3 => by
  unfold BX
  split
  ·exact ⟨h1, h2, h3⟩
  ·split
   ·refine ⟨LP h1, ?_, ?_⟩ <;> rw [HH]
    ·exact h2
    ·exact h3
   ·refine Nc ht r _ (LP h1) ?_ ?_ <;> rw [HH]
    ·show 0 ≤ min (x.shown + 1) 200; omega
    ·show min (x.shown + 1) 200 ≤ 200; omega
end Page
namespace As
structure Ok (s : As) : Prop where
 st : 0 ≤ s.state ∧ s.state ≤ 2
 n : s.wait.length ≤ 60
 ring : s.pg.ring.length ≤ 700
 s0 : 0 ≤ s.pg.shown
 s1 : s.pg.shown ≤ 200
 ln : Bb.Ok ⟨s.now, s.Cr, s.ret, s.queue, 0⟩
theorem XJ (s : As) : s.Lt = true ↔ s.wait.length ≤ 60 ∧ s.pg.ring.length ≤ 700 ∧ 0 ≤ s.pg.shown ∧ s.pg.shown ≤ 200 := by
 simp only [Lt, Bool.and_eq_true, decide_eq_true_eq]; omega
theorem Ze (s : As) : s.LH = true ↔ Bb.Ok ⟨s.now, s.Cr, s.ret, s.queue, 0⟩ :=
 Bb.HI (l := ⟨s.now, s.Cr, s.ret, ⟨none, s.queue.length, 0⟩⟩) (qs := s.queue) rfl
variable {s : As}
theorem Ok.Lt (h : s.Ok) : s.Lt = true := (XJ s).2 ⟨h.n, h.ring, h.s0, h.s1⟩
theorem Ok.LH (h : s.Ok) : s.LH = true := (Ze s).2 h.ln
theorem DJ : (default : As).Ok := ⟨⟨Int.le_refl 0, by decide⟩, Nat.zero_le _, Nat.zero_le _, Int.le_refl 0, by decide, (⟨Bb.MV, (fun s hs => by cases hs), Nat.zero_le _, (fun h => by cases h)⟩ : Bb.Ok ⟨[], false, false, [], 0⟩)⟩
theorem Ok.line (h : s.Ok) (u : Ap) : (s.line u).Ok := by
 unfold As.line
 split
 ·exact h
 ·split
  ·exact h
  ·split
   ·exact ⟨h.st, h.n, h.ring, h.s0, h.s1, h.ln⟩
   ·rename_i c
    refine ⟨h.st, ?_, h.ring, h.s0, h.s1, h.ln⟩
    have hn := h.n
    have c' : ¬ (60 : Int) ≤ s.wait.length := fun e => c (decide_eq_true e)
    show (s.wait ++ [u]).length ≤ 60
    rw [List.length_append, List.length_singleton]; omega
theorem Ok.tell (h : s.Ok) (u : Ap) : (s.tell u).Ok := by
 have := h.line u
 unfold As.tell As.note
 split
 ·exact ⟨this.st, this.n, this.ring, this.s0, this.s1, this.ln⟩
 ·exact this
theorem Ok.BX (h : s.Ok) : s.BX.Ok := by
 unfold As.BX
 split
 ·exact h
 ·have hk := Page.Nc s.Dk.B1 s.wait s.pg h.ring h.s0 h.s1
  exact ⟨h.st, Nat.le_trans (Page.Yb _ _ _) h.n, hk.1, hk.2.1, hk.2.2, h.ln⟩
theorem Ok.send (h : s.Ok) (u : Ap) : (s.send u).Ok := by
 unfold As.send
 split
 ·exact h
 ·split
  ·exact h
  ·exact ⟨h.st, h.n, Page.LP h.ring, by show 0 ≤ (Page.put s.pg u).shown; rw [Page.HH]; exact h.s0, by show (Page.put s.pg u).shown ≤ 200; rw [Page.HH]; exact h.s1, h.ln⟩
theorem Ok.Dk (h : s.Ok) (t : AP) : ({ s with Dk := t } : As).Ok := ⟨h.st, h.n, h.ring, h.s0, h.s1, h.ln⟩
theorem Ok.offer (h : s.Ok) (opt : Int) : (s.offer opt).Ok := by
 unfold As.offer
 split
 ·exact (h.Dk _).send _
 ·exact (h.Dk _).send _
theorem Ok.G7 (h : s.Ok) (n : Int) : (s.G7 n).Ok := ⟨h.st, h.n, by show (s.pg.ring.drop _).length ≤ 700; rw [List.length_drop]; have := h.ring; omega, h.s0, h.s1, h.ln⟩
theorem Ok.next (h : s.Ok) {q : Ap} {r : List Ap} (e : s.queue = q :: r) : ({ s with queue := r } : As).FN.Ok :=
 ⟨h.st, h.n, h.ring, Int.le_refl 0, show (0 : Int) ≤ 200 by decide, ⟨h.ln.now, fun x hx => h.ln.queue x (by show x ∈ s.queue; rw [e]; exact List.mem_cons_of_mem _ hx), by
  have := h.ln.len
  have h2 : s.queue.length ≤ 6 := this
  rw [e, List.length_cons] at h2
  show r.length ≤ 6; omega, h.ln.ret⟩⟩
theorem Ok.typed (h : s.Ok) (u : Ap) : (Cm s u).1.Ok := by
 have h1 : (s.bytes u).1.Ok := (h.Dk _).send _
 unfold Cm As.typed
 split
 ·exact h1
 ·have ho := Bb.UL (s.bytes u).2 h1.ln
  exact ⟨h1.st, h1.n, h1.ring, h1.s0, h1.s1, ⟨ho.now, ho.queue, ho.len, ho.ret⟩⟩
theorem Ok.L8 (h : s.Ok) (b : Int) : ({ s with state := 2, Az := b } : As).Ok := ⟨⟨show (0 : Int) ≤ 2 by decide, show (2 : Int) ≤ 2 by decide⟩, h.n, h.ring, h.s0, h.s1, h.ln⟩
theorem Ok.CS (h : s.Ok) (e : Event) : (s.CS e).Ok := by
 unfold As.CS; split
 ·exact h.tell _
 ·exact h
theorem US : ∀ (es : List Event) {s : As}, s.Ok → (es.foldl As.CS s).Ok
 | [], _, h => h
 | e :: r, _, h => US r (h.CS e)
theorem Ok.Ef (h : s.Ok) (es : List Event) : (s.Ef es).Ok := by
 unfold As.Ef
 split
 ·exact US es h
 ·exact h
theorem Ok.heard (h : s.Ok) : ({ s with told := [] } : As).Ok := ⟨h.st, h.n, h.ring, h.s0, h.s1, h.ln⟩
theorem Fo (s : As) (es : List Event) : (s.Ef es).state = s.state ∧ (s.Ef es).Az = s.Az := by
 unfold As.Ef
 split
 ·induction es generalizing s with
  | nil => exact ⟨rfl, rfl⟩
  | cons e r ih =>
   rename_i c
   have h1 := AI.UF s e
   have := ih (s.CS e) (by rw [h1.1]; exact c)
   exact ⟨this.1.trans h1.1, this.2.trans h1.2⟩
 ·exact ⟨rfl, rfl⟩
structure Still (s : As) : Prop where
 fl : s.BX = s
 cut : s.pg.cut = false
theorem QC (s : As) (h : s.wait.length ≤ 60 ∧ s.pg.ring.length ≤ 700 ∧ 0 ≤ s.pg.shown ∧ s.pg.shown ≤ 200) (c : (decide (s.Dk.B1 < 0) || decide (200 < s.Dk.B1)) = false) : s.BX = { s with pg := (Page.BX s.Dk.B1 s.wait s.pg).1, wait := (Page.BX s.Dk.B1 s.wait s.pg).2 } := by
 unfold As.BX
 rw [if_neg]
 rw [(XJ s).2 h]
 simpa using c
theorem LV (s : As) (c : (decide (s.Dk.B1 < 0) || decide (200 < s.Dk.B1)) = true) : s.BX = s := by
 unfold As.BX
 rw [if_pos]
 rw [Bool.or_assoc, c, Bool.or_true]
theorem Ok.idem (h : s.Ok) : s.BX.BX = s.BX := by
 cases c : (decide (s.Dk.B1 < 0) || decide (200 < s.Dk.B1)) with
 | true => rw [LV s c, LV s c]
 | false =>
  have e := QC s ⟨h.n, h.ring, h.s0, h.s1⟩ c
  have hk := h.BX
  rw [e] at hk ⊢
  rw [QC _ ⟨hk.n, hk.ring, hk.s0, hk.s1⟩ c]
  have := Page.Pt s.Dk.B1 s.wait s.pg
  dsimp only
  rw [this]
end As
namespace AI
def HK (H : AI) : Prop := ∀ k, 0 ≤ k → k < 4 → (H.at_ k).Ok
section
variable {U : Ap → Prop} {H X : AI}
theorem HK.set (h : H.HK) {k : Int} (h0 : 0 ≤ k) (h1 : k < 4) {s : As} (hs : s.Ok) : (H.set k s).HK := fun j j0 j1 => by
 rw [Cv _ h0 h1 j0]; split
 ·exact hs
 ·exact h j j0 j1
theorem HK.step (h : H.HK) (s : Step U H X) : X.HK := by
 cases s with
 | told h0 h1 _ _ => exact h.set h0 h1 ((h _ h0 h1).tell _)
 | BX h0 h1 _ => exact h.set h0 h1 (h _ h0 h1).BX
 | free h0 h1 _ => exact h.set h0 h1 As.DJ
 | goes h0 h1 g =>
  intro j j0 j1
  rw [HE H h0 h1 _ _ _ j0 j1]
  refine As.Ok.Ef ?_ _
  split
  ·cases g with
   | left _ _ => exact As.DJ
   | L8 _ _ => exact (h _ h0 h1).L8 _
   | bX _ _ _ _ => exact h _ h0 h1
   | round => exact h _ (Int.le_refl 0) (by decide)
  ·exact h j j0 j1
theorem HK.steps (h : H.HK) (s : Steps U H X) : X.HK := Steps.Jw (P := HK) (fun h s => h.step s) h s
/-! #### nobody is cut off behind all that flows -/
def busy (H : AI) (k : Int) : Nat := if (H.at_ k).state = 0 then 0 else 1
def Nl (H : AI) : Nat := H.busy 0 + H.busy 1 + H.busy 2 + H.busy 3
theorem Yj {H X : AI} (h : ∀ j, 0 ≤ j → j < 4 → (H.at_ j).state = 0 → (X.at_ j).state = 0) : X.Nl ≤ H.Nl ∧ ∀ k, 0 ≤ k → k < 4 → (H.at_ k).state ≠ 0 → (X.at_ k).state = 0 → X.Nl < H.Nl := by
 have hb : ∀ j, 0 ≤ j → j < 4 → X.busy j ≤ H.busy j ∧ H.busy j ≤ 1 ∧ ((H.at_ j).state ≠ 0 → (X.at_ j).state = 0 → X.busy j < H.busy j) := fun j j0 j1 => by
  have := h j j0 j1
  unfold busy
  refine ⟨?_, ?_, ?_⟩
  ·split
   ·exact Nat.zero_le _
   ·rename_i c
    rw [if_neg (fun e => c (this e))]; exact Nat.le_refl _
  ·split <;> omega
  ·intro a b
   rw [if_pos b, if_neg a]; decide
 have b0 := hb 0 (by decide) (by decide); have b1 := hb 1 (by decide) (by decide); have b2 := hb 2 (by decide) (by decide); have b3 := hb 3 (by decide) (by decide)
 unfold Nl
 refine ⟨by omega, fun k k0 k1 a b => ?_⟩
 rcases four k0 k1 with e | e | e | e <;> subst e
 ·have := b0.2.2 a b; omega
 ·have := b1.2.2 a b; omega
 ·have := b2.2.2 a b; omega
 ·have := b3.2.2 a b; omega
theorem RS (H : AI) {k : Int} (h0 : 0 ≤ k) (h1 : k < 4) {j : Int} (j0 : 0 ≤ j) (j1 : j < 4) : (H.leave k).at_ j = if j = k then default else (H.at_ j).Ef (if decide ((H.at_ k).state = 2) && (H.w.AN.at (H.at_ k).Az).here then (AF.D8 H.w (H.at_ k).Az EA).2.1 else []) := by
 unfold AI.leave
 rw [Cv _ h0 h1 j0]
 split
 ·rfl
 ·rename_i c
  split
  ·rw [UC _ _ j0 j1, Cv _ h0 h1 j0, if_neg c]
   rfl
  ·unfold As.Ef; split <;> rfl
theorem Kh (H : AI) : ∀ k : Nat, k ≤ 4 → ∀ j, 0 ≤ j → j < 4 → (H.at_ j).state = 0 → ((H.Ce k).1.at_ j).state = 0
 | 0, _, _, _, _, h => h
 | k + 1, hk, j, j0, j1, h => by
  have ih := Kh H k (by omega) j j0 j1 h
  have hf : (((H.Ce k).1.set k (((H.Ce k).1.at_ k).BX)).at_ j).state = 0 := by
   rw [Cv _ (by omega) (by omega) j0]
   split
   ·rename_i e; subst e; rw [(F8 _).2.1]; exact ih
   ·exact ih
  unfold Ce
  split
  ·exact ih
  ·split
   ·show (AI.at_ (AI.leave _ _) j).state = 0
    rw [RS _ (by omega) (by omega) j0 j1]
    split
    ·rfl
    ·rw [(As.Fo _ _).1]; exact hf
   ·exact hf
theorem Pm (H : AI) : ∀ k : Nat, k ≤ 4 → (H.Ce k).2 = true → ∃ j, 0 ≤ j ∧ j < 4 ∧ (H.at_ j).state ≠ 0 ∧ ((H.Ce k).1.at_ j).state = 0
 | 0, _, h => by cases h
 | k + 1, hk, h => by
  have ih := Pm H k (by omega)
  have hn : (((H.Ce k).1.at_ k).state ≠ 0) → (H.at_ k).state ≠ 0 := fun c e => c (Kh H k (by omega) k (by omega) (by omega) e)
  unfold Ce at h ⊢
  split at h
  ·rename_i c
   rw [if_pos c]; exact ih h
  ·rename_i c
   have c' : ((H.Ce k).1.at_ k).state ≠ 0 := by simpa using c
   rw [if_neg c]
   split at h
   ·rename_i c2
    rw [if_pos c2]
    refine ⟨k, by omega, by omega, hn c', ?_⟩
    show (AI.at_ (AI.leave _ _) k).state = 0
    rw [RS _ (by omega) (by omega) (by omega) (by omega), if_pos rfl]; rfl
   ·rename_i c2
    rw [if_neg c2]
    obtain ⟨j, j0, j1, a, b⟩ := ih h
    refine ⟨j, j0, j1, a, ?_⟩
    show (AI.at_ (AI.set _ _ _) j).state = 0
    rw [Cv _ (by omega) (by omega) j0]
    split
    ·rename_i e; subst e; exact absurd b c'
    ·exact b
theorem Ow (H : AI) : ∀ k : Nat, k ≤ 4 → (H.Ce k).2 = false → (H.Ce k).1.w = H.w ∧ (H.Ce k).1.last = H.last ∧ (H.Ce k).1.CA = H.CA ∧ ∀ j, 0 ≤ j → j < 4 → (H.Ce k).1.at_ j = (if j < k ∧ (H.at_ j).state ≠ 0 then (H.at_ j).BX else H.at_ j) ∧ (j < k → (H.at_ j).state ≠ 0 → (H.at_ j).BX.pg.cut = false)
 | 0, _, _ => ⟨rfl, rfl, rfl, fun j j0 _ => ⟨by rw [if_neg (by omega)]; rfl, fun h => by omega⟩⟩
 | k + 1, hk, h => by
  have ih := Ow H k (by omega)
  unfold Ce at h ⊢
  split at h
  ·rename_i c
   rw [if_pos c]
   obtain ⟨a1, a2, a3, a4⟩ := ih h
   have hk0 := (a4 k (by omega) (by omega)).1
   rw [if_neg (by omega)] at hk0
   rw [hk0] at c
   have c' : (H.at_ k).state = 0 := of_decide_eq_true c
   refine ⟨a1, a2, a3, fun j j0 j1 => ⟨?_, fun hj hs => ?_⟩⟩
   ·rw [(a4 j j0 j1).1]
    by_cases e : j = (k : Int)
    ·subst e; rw [if_neg (fun h => h.2 c'), if_neg (fun h => h.2 c')]
    ·simp only [lt_next e]
   ·by_cases e : j = (k : Int)
    ·subst e; exact absurd c' hs
    ·exact (a4 j j0 j1).2 (by omega) hs
  ·rename_i c
   split at h
   ·cases h
   ·rename_i c2
    rw [if_neg c, if_neg c2]
    obtain ⟨a1, a2, a3, a4⟩ := ih h
    have hk0 := (a4 k (by omega) (by omega)).1
    rw [if_neg (by omega)] at hk0
    rw [hk0] at c c2
    have c' : (H.at_ k).state ≠ 0 := by simpa using c
    refine ⟨a1, a2, a3, fun j j0 j1 => ⟨?_, fun hj hs => ?_⟩⟩
    ·show (AI.at_ (AI.set _ _ _) j) = _
     rw [Cv _ (by omega) (by omega) j0]
     by_cases e : j = (k : Int)
     ·subst e; rw [if_pos rfl, if_pos ⟨by omega, c'⟩, hk0]
     ·rw [if_neg e, (a4 j j0 j1).1]; simp only [lt_next e]
    ·by_cases e : j = (k : Int)
     ·subst e; simpa using c2
     ·exact (a4 j j0 j1).2 (by omega) hs
theorem Mj : ∀ (n : Nat) (H : AI), H.HK → H.Nl < n → ∀ j, 0 ≤ j → j < 4 → ((H.HZ n).at_ j).state ≠ 0 → ((H.HZ n).at_ j).Still
 | 0, _, _, h, _, _, _, _ => absurd h (Nat.not_lt_zero _)
 | n + 1, H, hk, hb, j, j0, j1, hs => by
  unfold HZ at hs ⊢
  split at hs
  ·rename_i c
   rw [if_pos c]
   obtain ⟨_, _, _, a⟩ := Ow H 4 (Nat.le_refl 4) (by simpa using c)
   have a := a j j0 j1
   by_cases e : (H.at_ j).state = 0
   ·rw [a.1, if_neg (fun h => h.2 e)] at hs; exact absurd e hs
   ·rw [a.1, if_pos ⟨by omega, e⟩]
    exact ⟨(hk j j0 j1).idem, a.2 (by omega) e⟩
  ·rename_i c
   rw [if_neg c]
   obtain ⟨i, i0, i1, a, b⟩ := Pm H 4 (Nat.le_refl 4) (by simpa using c)
   have hl := (Yj (Kh H 4 (Nat.le_refl 4))).2 i i0 i1 a b
   exact Mj n _ (hk.steps (U := fun _ => True) (Hx H 4 (Nat.le_refl 4))) (by omega) j j0 j1 hs
theorem TG (h : H.HK) {j : Int} (j0 : 0 ≤ j) (j1 : j < 4) (hs : (H.BX.at_ j).state ≠ 0) : (H.BX.at_ j).Still :=
 Mj 5 H h (by
  have hb : ∀ j, H.busy j ≤ 1 := fun j => by unfold busy; split <;> omega
  have := hb 0; have := hb 1; have := hb 2; have := hb 3
  unfold Nl; omega) j j0 j1 hs
end
end AI
end Go.Ing
/- Acts that are played: plain laws. -/
namespace Go.Ing
open Go
namespace AP
def Gp (t : AP) : Nat := if t.at_ = 2 then 2 else if t.at_ = 1 then 1 else 0
theorem Vu (t : AP) (b : UInt8) : (t.step b).2.2.length + (t.step b).1.Gp ≤ 1 + t.Gp := by
 unfold step; dsimp only
 split
 ·rename_i c; have c' := of_decide_eq_true c
  have hp : t.Gp = 0 := by unfold Gp; rw [if_neg (by omega), if_neg (by omega)]
  split
  ·exact Nat.le_add_right 1 _
  ·show 0 + t.Gp ≤ 1 + t.Gp; omega
 ·split
  ·rename_i c; have c' := of_decide_eq_true c
   have hp : t.Gp = 1 := by unfold Gp; rw [if_neg (by omega), if_pos c']
   rw [hp]
   split
   ·exact Nat.zero_le _
   ·split
    ·exact Nat.zero_le _
    ·split
     ·exact Nat.le_refl 2
     ·exact Nat.zero_le _
  ·split
   ·rename_i c; have c' := of_decide_eq_true c
    have hp : t.Gp = 2 := by unfold Gp; rw [if_pos c']
    rw [hp]
    exact H8 _ _ _
   ·split
    ·rename_i c; have c' := of_decide_eq_true c
     split
     ·exact Nat.zero_le _
     ·show 0 + (t.collect b).Gp ≤ _
      have : (t.collect b).at_ = t.at_ := by unfold collect; split <;> rfl
      unfold Gp; rw [this]; rw [if_neg (by omega), if_neg (by omega)]; omega
    ·split
     ·rename_i c; have c' := of_decide_eq_true c
      split
      ·show 0 + (collect { t with at_ := 3 } b).Gp ≤ _
       have : (collect { t with at_ := 3 } b).at_ = 3 := by unfold collect; split <;> rfl
       unfold Gp; rw [this]; rw [if_neg (by decide), if_neg (by decide)]; omega
      ·split
       ·show 0 + Gp { t.measure with at_ := 0, sub := [] } ≤ _; exact Nat.zero_le _
       ·exact Nat.zero_le _
     ·show 0 + t.Gp ≤ _; omega
theorem MJ : ∀ (s : Ap) (t : AP), (t.feed s).2.2.length ≤ s.length + t.Gp
 | [], t => Nat.zero_le _
 | b :: s, t => by
  have h1 := Vu t b
  have h2 := MJ s (t.step b).1
  show ((t.step b).2.2 ++ ((t.step b).1.feed s).2.2).length ≤ s.length + 1 + t.Gp
  rw [List.length_append]; omega
theorem UI (t : AP) : t.Gp ≤ 2 := by unfold Gp; split; exact Nat.le_refl 2; split <;> decide
theorem Jt.yb {X t : AP} {u x y : Ap} {k : Int} (h : Jt X u k t x y) : y.length ≤ u.length + 2 := by
 have h1 := MJ u X
 have h2 := UI X
 rw [h.e3, List.length_append] at h1
 omega
theorem Vf (t : AP) (u : Ap) : (t.DR u).2.2.1.length ≤ u.length + 2 := by
 unfold DR
 split
 ·exact Nat.zero_le _
 ·have h1 := MJ u t
  have h2 := UI t
  show (t.feed u).2.2.length ≤ _
  omega
end AP
namespace AI
section
variable {H : AI}
theorem HK.tell (h : H.HK) {k : Int} (h0 : 0 ≤ k) (h1 : k < 4) (u : Ap) : (H.tell k u).HK := h.set h0 h1 ((h k h0 h1).tell u)
theorem HK.BX (h : H.HK) : H.BX.HK := h.steps (U := fun _ => True) (It H)
theorem HK.D9 (h : H.HK) {k : Int} (h0 : 0 ≤ k) (h1 : k < 4) : (H.D9 k).HK := by
 rcases I2 (U := fun _ => True) H h0 h1 (fun _ _ => trivial) with ⟨_, e⟩ | ⟨q, r, _, e, s⟩
 ·rw [e]; exact h
 ·exact HK.steps (h.set h0 h1 ((h k h0 h1).next e)) s
theorem HK.turns (h : H.HK) : ∀ k : Nat, k ≤ 4 → (H.turns k).HK
 | 0, _ => h
 | k + 1, hk => (HK.turns h k (by omega)).D9 (by omega) (by omega)
theorem HK.begun (h : H.HK) : H.begun.HK := fun k h0 h1 => by rw [IL h0 h1]; exact (h k h0 h1).heard
theorem HK.De (h : H.HK) (a : Bu) : (H.De a).1.HK :=
 JJ (fun X => X.HK) h (fun d => ((h.turns 4 (Nat.le_refl 4)).steps (U := fun _ => True) (H5 _ d)).BX)
  (fun k h0 h1 => ((h.set h0 h1 (((show ({ (default : As) with state := 1, Az := -1 } : As).Ok from ⟨⟨show (0 : Int) ≤ 1 by decide, show (1 : Int) ≤ 2 by decide⟩, As.DJ.n, As.DJ.ring, As.DJ.s0, As.DJ.s1, As.DJ.ln⟩).offer 3).offer 31)).tell h0 h1 Hg).BX)
  (fun k u h0 h1 => by
   rw [HW]
   refine HK.BX ?_
   have hs := h.set h0 h1 ((h k h0 h1).typed u)
   split
   ·exact hs.tell h0 h1 Mz
   ·exact hs)
  (fun k z h0 h1 => (h.set h0 h1 ((h k h0 h1).G7 z)).BX) (fun k h0 h1 => (h.steps (U := fun _ => True) (Fc H h0 h1)).BX) a
theorem HK.act (h : H.HK) (a : Bu) : (H.act a).1.HK := by
 unfold AI.act
 split
 ·exact h
 ·exact h.begun.De a
end
structure Live (H : AI) : Prop where
 fit : H.Fit 1000 1000
 CA : 0 ≤ H.CA
 NN : H.HK
theorem Live.fits {H : AI} (h : H.Live) : H.Fits := ⟨_, _, h.fit⟩
theorem UT : AI.new.HK := fun k h0 h1 => by rw [MW h0 h1]; exact As.DJ
theorem LM : AI.new.Live := ⟨Yr.mono (by decide) (by decide), Int.le_refl 0, UT⟩
section
variable {H X : AI}
theorem Nv (e : Event) (H : AI) : ∀ k : Nat, (CS e H k).CA = H.CA
 | 0 => rfl
 | k + 1 => by
  have ih := Nv e H k
  rw [CS.eq_2]
  split
  ·exact ih
  ·split <;> exact ih
theorem O0 : ∀ (es : List Event) (H : AI), (H.Hc es).CA = H.CA
 | [], _ => rfl
 | e :: r, H => (O0 r _).trans (Nv e H 4)
theorem J6 (H : AI) (es : List Event) : (H.Gu es).CA = H.CA := O0 es _
theorem K6 (H : AI) (k : Int) : (H.leave k).CA = H.CA := by
 unfold AI.leave
 split
 ·exact J6 _ _
 ·rfl
theorem LB (H : AI) : ∀ k : Nat, (H.Ce k).1.CA = H.CA
 | 0 => rfl
 | k + 1 => by
  have ih := LB H k
  unfold Ce
  split
  ·exact ih
  ·split
   ·exact (K6 _ _).trans ih
   ·exact ih
theorem Na : ∀ (n : Nat) (H : AI), (H.HZ n).CA = H.CA
 | 0, _ => rfl
 | n + 1, H => by
  unfold HZ
  split
  ·exact LB H 4
  ·exact (Na n _).trans (LB H 4)
theorem Ik (H : AI) : H.BX.CA = H.CA := Na 5 H
theorem Sy (H : AI) (k : Int) : (H.D9 k).CA = H.CA := by
 unfold AI.D9
 split
 ·rfl
 ·split
  ·rfl
  ·dsimp only
   split
   ·rfl
   ·split
    ·unfold AI.named
     split
     ·exact J6 _ _
     ·split <;> rfl
    ·unfold AI.order
     split
     ·rfl
     ·split
      ·exact K6 _ _
      ·exact J6 _ _
theorem Ny (H : AI) : ∀ k : Nat, (H.turns k).CA = H.CA
 | 0 => rfl
 | k + 1 => (Sy _ _).trans (Ny H k)
theorem Vs (X : AI) (a : Bu) : (X.De a).1.CA = X.CA :=
 JJ (fun Y => Y.CA = X.CA) rfl (fun d => (Ik _).trans ((J6 _ _).trans (Ny X 4))) (fun k _ _ => Ik _) (fun k u _ _ => by rw [HW, Ik]; split <;> rfl) (fun k z _ _ => Ik _) (fun k _ _ => (Ik _).trans (K6 _ _)) a
theorem TJ (H : AI) : H.begun.CA = H.CA + 1 := (HB (H := { H with CA := H.CA + 1, last := [] }) 4).2.2
theorem SR (H : AI) (a : Bu) : (H.act a).1.CA = if 400 ≤ H.CA then H.CA else H.CA + 1 := by
 unfold AI.act
 by_cases c : 400 ≤ H.CA
 ·rw [if_pos (decide_eq_true c), if_pos c]
 ·rw [if_neg (fun e => c (of_decide_eq_true e)), if_neg c]
  exact (Vs _ _).trans (TJ H)
theorem Live.act (h : H.Live) (a : Bu) : (H.act a).1.Live := ⟨by
 unfold AI.act
 split
 ·exact h.fit
 ·exact (h.fit.begun).De a, by rw [SR]; have := h.CA; split <;> omega, h.NN.act a⟩
theorem Live.run : ∀ (l : List Bu) {H : AI}, H.Live → (H.run l).1.Live
 | [], _, h => h
 | a :: r, _, h => Live.run r (h.act a)
theorem Rk : ∀ (l : List Bu) {H : AI}, H.CA + l.length ≤ 400 → (H.run l).1.CA = H.CA + l.length
 | [], H, _ => by show H.CA = _; simp
 | a :: r, H, h => by
  rw [List.length_cons] at h
  have h1 : (H.act a).1.CA = H.CA + 1 := by rw [SR, if_neg (by omega)]
  have := Rk r (H := (H.act a).1) (by rw [h1]; omega)
  show ((H.act a).1.run r).1.CA = _
  rw [this, h1, List.length_cons]; omega
end
theorem RY {xs : List Bu} {k : Int} (h0 : 0 ≤ k) (h1 : k < xs.length) (H : AI) : (H.run (xs.take (k + 1).toNat)).1 = ((H.run (xs.take k.toNat)).1.act (xs.getD k.toNat default)).1 := by rw [Xo h0 h1]
/-! #### does a house answer at all? -/
def P6 : Bu := ⟨1, 2, 0, []⟩
def type2 : Bu := ⟨2, 2, 0, [97, 110, 110, 13, 10]⟩
def S8 : Bu := ⟨5, 0, 0, []⟩
theorem dv : AI.new.Live := LM
theorem dq : (AI.new.act P6).1.Live := dv.act _
theorem dp : ((AI.new.act P6).1.act type2).1.Live := dq.act _
def cS : AI := (((AI.new.act P6).1.act type2).1.act S8).1
theorem Wb : cS.Live := dp.act _
theorem cl : (AI.new.act P6).2.code = 0 := by kernel_rfl
theorem dH : (((AI.new.act P6).1.act type2).1.act S8).2.code = 0 := by kernel_rfl
theorem dE : cS.Iz 2 = (2, 2) := by kernel_rfl
theorem de : decide (2 < ((cS.at_ 2).told.length : Int)) = true := by kernel_rfl
theorem Live.told {V : AL} {ls : Vector BD 4} {ev : List Event} (h : (A5 V ls ev).Live) {k : Int} (h0 : 0 ≤ k) (h1 : k < 4) : (ls.at k).told.length ≤ 1000000 := by
 have := h.fit.told k h0 h1
 rw [CZ _ _ _ h0 h1] at this
 exact Nat.le_trans this (by decide)
theorem Live.wait {V : AL} {ls : Vector BD 4} {ev : List Event} (h : (A5 V ls ev).Live) {k : Int} (h0 : 0 ≤ k) (h1 : k < 4) : (ls.at k).wait.length ≤ 1000000 := by
 have := (h.NN k h0 h1).n
 rw [CZ _ _ _ h0 h1] at this
 exact Nat.le_trans this (by decide)
theorem Live.queue {V : AL} {ls : Vector BD 4} {ev : List Event} (h : (A5 V ls ev).Live) {k : Int} (h0 : 0 ≤ k) (h1 : k < 4) : (ls.at k).queue.length ≤ 1000000 := by
 have := (h.NN k h0 h1).ln.len
 rw [CZ _ _ _ h0 h1] at this
 exact Nat.le_trans this (by decide)
theorem Live.last {V : AL} {ls : Vector BD 4} {ev : List Event} (h : (A5 V ls ev).Live) : ev.length ≤ 1000000 := Nat.le_trans h.fit.last (by decide)
/-! #### do two houses stand alike? -/
def Zn (s t : As) : Bool := decide (s.wait = t.wait) && decide (s.pg.shown = t.pg.shown) && (s.pg.B7 == t.pg.B7) && decide (s.pg.ring = t.pg.ring) && (s.pg.cut == t.pg.cut)
def Zw (s t : As) : Bool := decide (s.now = t.now) && (s.Cr == t.Cr) && (s.ret == t.ret) && decide (s.queue = t.queue)
def sameAt (H K : AI) (k : Int) : Bool := !(!decide ((H.Iz k).1 = (K.Iz k).1) || !decide ((H.Iz k).2 = (K.Iz k).2) || !Zn (H.at_ k) (K.at_ k) || !Zw (H.at_ k) (K.at_ k))
def same (H K : AI) : Bool := B5 4 (sameAt H K) 4 && decide (H.w = K.w)
end AI
end Go.Ing
/- What beings do keeps: things, people, and who is far. -/
namespace Go.Ing
open Go
theorem FD {α β : Type} [Inhabited α] {n : Nat} (f : α → β) (v : Vector α n) {k : Int} {x : α} (hx : f x = f (v.at k)) (i : Int) : f ((v.put k x).at i) = f (v.at i) := by
 unfold Vector.put Vector.at at *
 rw [List.getD_eq_getElem?_getD] at hx ⊢
 rw [List.getD_eq_getElem?_getD]
 simp only [Vector.toList_setIfInBounds]
 rw [List.getElem?_set]
 split
 ·rename_i h1
  split
  ·rw [← h1, ← hx]; rfl
  ·rename_i h2
   rw [← h1, List.getElem?_eq_none (by omega)]
 ·rfl
namespace AF
/-! #### things stay what they are -/
def ZB (X : AH) (_ : List Event) (Y : AH) : Prop := ∀ i, (Y.AO.at i).name = (X.AO.at i).name ∧ (Y.AO.at i).kind = (X.AO.at i).kind
theorem Zq (x : Ap) (q : Prop) (b : Int) : Rel x q b ZB where
 refl _ := fun _ => ⟨rfl, rfl⟩
 trans h k := fun i => ⟨(k i).1.trans (h i).1, (k i).2.trans (h i).2⟩
 bB _ := fun _ => ⟨rfl, rfl⟩
 Bs {w i t} hn hk := fun j => ⟨FD Ak.name w.AO hn j, FD Ak.kind w.AO hk j⟩
 B0 := fun _ => ⟨rfl, rfl⟩
 shut := fun _ => ⟨rfl, rfl⟩
 F2 := fun _ => ⟨rfl, rfl⟩
 Ge _ := fun _ => ⟨rfl, rfl⟩
 gone h _ := h
theorem YD : Yo ZB := ⟨fun b _ _ => Zq [] False b, fun _ => ⟨rfl, rfl⟩, fun _ h _ => h⟩
/-! #### who is there -/
def cJ (l : List Event) (c : Int) : Prop := ∃ e ∈ l, e.kind = 18 ∧ e.DZ = c
def ZG (X : AH) (l : List Event) (Y : AH) : Prop := ∀ c, 0 ≤ c → c < 6 → ((Y.AN.at c).here = true → (X.AN.at c).here = true ∧ (Y.AN.at c).name = (X.AN.at c).name) ∧ (2 ≤ c → ¬ cJ l c → (Y.AN.at c).here = (X.AN.at c).here)
theorem GY {X Y : AH} {l : List Event} (h : ∀ c, (Y.AN.at c).here = (X.AN.at c).here ∧ (Y.AN.at c).name = (X.AN.at c).name) : ZG X l Y := fun c _ _ => ⟨fun e => ⟨by rw [← (h c).1]; exact e, (h c).2⟩, fun _ _ => (h c).1⟩
theorem VA {X Y Z : AH} {l m : List Event} (h : ZG X l Y) (k : ZG Y m Z) : ZG X (l ++ m) Z := fun c c0 c6 => ⟨fun e => by
  obtain ⟨a, b⟩ := (k c c0 c6).1 e
  obtain ⟨d, f⟩ := (h c c0 c6).1 a
  exact ⟨d, b.trans f⟩, fun c2 hn => ((k c c0 c6).2 c2 fun ⟨e, he, h1⟩ => hn ⟨e, List.mem_append_right _ he, h1⟩).trans ((h c c0 c6).2 c2 fun ⟨e, he, h1⟩ => hn ⟨e, List.mem_append_left _ he, h1⟩)⟩
theorem Wp (x : Ap) (q : Prop) {b : Int} (b0 : 0 ≤ b) (b6 : b < 6) : Rel x q b ZG where
 refl _ := GY fun _ => ⟨rfl, rfl⟩
 trans := VA
 bB _ := GY fun _ => ⟨rfl, rfl⟩
 Bs _ _ := GY fun _ => ⟨rfl, rfl⟩
 B0 {w k f} := GY fun c => ⟨FD Aj.here w.AN (k := k) (x := { w.AN.at k with B0 := f }) rfl c, FD Aj.name w.AN (k := k) (x := { w.AN.at k with B0 := f }) rfl c⟩
 shut := GY fun _ => ⟨rfl, rfl⟩
 F2 {w d r} := GY fun c => ⟨FD Aj.here w.AN (k := b) (x := { w.AN.at b with room := r, B0 := 0 }) rfl c, FD Aj.name w.AN (k := b) (x := { w.AN.at b with room := r, B0 := 0 }) rfl c⟩
 Ge _ {w} := GY fun _ => ⟨rfl, rfl⟩
 gone {X l w} h hg := fun c c0 c6 => by
  by_cases e : c = b
  ·subst e
   rw [AH.EH c0 c6]
   refine ⟨fun e => (by cases e), fun c2 hn => ?_⟩
   obtain ⟨e, he, hk, ha⟩ := hg
   rcases hk with hk | ⟨_, hk⟩
   ·exact absurd ⟨e, he, hk, ha⟩ hn
   ·omega
  ·rw [AH.GM b0 b6 c0 e]; exact h c c0 c6
theorem bk : Yo ZG := ⟨fun b b0 b6 => Wp [] False b0 b6, fun {w k h} => GY fun c => ⟨FD Aj.here w.AN (k := k) (x := { w.AN.at k with BL := h }) rfl c, FD Aj.name w.AN (k := k) (x := { w.AN.at k with BL := h }) rfl c⟩,
 fun {X l w b} _ h _ => fun c c0 c6 => by
  have e1 := FD Aj.here w.AN (k := b) (x := { w.AN.at b with room := 0, BL := 10 }) rfl c
  have e2 := FD Aj.name w.AN (k := b) (x := { w.AN.at b with room := 0, BL := 10 }) rfl c
  have := h c c0 c6
  rw [← e1, ← e2] at this
  exact this⟩
def Still (_ : AH) (l : List Event) (_ : AH) : Prop := ∀ e ∈ l, e.kind ≠ 18
theorem TM {x : Ap} {w : AH} {e : Event} (h : Shape x w e) : e.kind ≠ 18 := by
 cases h with
 | bJ _ => show (16 : Int) ≠ 18; decide
 | said => show (7 : Int) ≠ 18; decide
 | @kind k h => show k ≠ 18; omega
 | @dir k d h => show k ≠ 18; omega
 | @Bs k i h => show k ≠ 18; omega
 | @Gz k h => show k ≠ 18; omega
 | bT => show (6 : Int) ≠ 18; decide
 | WY => show (5 : Int) ≠ 18; decide
 | CC _ _ => show (14 : Int) ≠ 18; decide
theorem Un (x : Ap) (b : Int) : Rel x False b Still where
 refl _ := fun _ h => by cases h
 trans h k := fun e he => (List.mem_append.1 he).elim (h e) (k e)
 bB {w e} h := fun y hy => by rw [List.mem_singleton.1 hy, (G3 w b e).1]; exact TM h
 Bs _ _ := fun _ h => by cases h
 B0 := fun _ h => by cases h
 shut := fun _ h => by cases h
 F2 {w d r} := fun y hy => by rw [List.mem_singleton.1 hy, (G3 w b _).1]; show (1 : Int) ≠ 18; decide
 Ge h := h.elim
 gone h _ := h
theorem YP : Yo Still := ⟨fun b _ _ => Un [] b, fun _ h => (by cases h), fun _ h _ => h⟩
def By (b : Int) (_ : AH) (l : List Event) (_ : AH) : Prop := ∀ e ∈ l, e.DZ = b
theorem dF (x : Ap) (q : Prop) (b : Int) : Rel x q b (By b) where
 refl _ := fun _ h => by cases h
 trans h k := fun e he => (List.mem_append.1 he).elim (h e) (k e)
 bB {w e} _ := fun y hy => by rw [List.mem_singleton.1 hy, (G3 w b e).2]
 Bs _ _ := fun _ h => by cases h
 B0 := fun _ h => by cases h
 shut := fun _ h => by cases h
 F2 {w d r} := fun y hy => by rw [List.mem_singleton.1 hy, (G3 w b _).2]
 Ge _ {w} := fun y hy => by rw [List.mem_singleton.1 hy, (G3 w b _).2]
 gone h _ := h
/-! #### who stays in a room -/
end AF
end Go.Ing
/- What a house keeps through every act: people and pages. -/
namespace Go.Ing
open Go
namespace AF
theorem WM (X : AH) (s : Ap) (b : Int) : (JH X s b).w = X.C3 b (J2 s) := (J4 _).1
theorem Px (X : AH) : ∀ n : Nat, n ≤ 6 → 2 ≤ CK X n → (X.AN.at (CK X n)).here = false
 | 0, _, h => by have : CK X 0 = -1 := rfl; omega
 | n + 1, hn, h => by
  unfold CK at h ⊢
  split
  ·rename_i c
   rw [Bool.and_eq_true] at c
   simpa using c.1
  ·rename_i c
   rw [if_neg c] at h
   exact Px X n (by omega) h
theorem Zy {X : AH} {b : Int} {o : Order} (hg : X.Bg = true) (b0 : 0 ≤ b) (b6 : b < 6) (hh : (X.AN.at b).here = true) (h0 : 0 ≤ o.verb) (h1 : o.verb ≤ 20) : (D8 X b o) = ((AF.act ⟨X, b, []⟩ o).w, (AF.act ⟨X, b, []⟩ o).out, 0) := by
 unfold D8
 rw [if_neg (by rw [hg]; decide), if_neg (by rw [decide_eq_false (by omega : ¬ b < 0), decide_eq_false (by omega : ¬ 6 ≤ b), hh]; decide), if_neg (by rw [decide_eq_false (by omega : ¬ o.verb < 0), decide_eq_false (by omega : ¬ 20 < o.verb)]; decide)]
theorem Uj {X : AH} {b : Int} {o : Order} (hg : X.Bg = true) (hw : X.DE) : (D8 X b o).1.Bg = true := by
 by_cases h : (D8 X b o).2.2 = 0
 ·exact (keeps hw h).1
 ·have : (D8 X b o).1 = X := by
   unfold D8 at h ⊢
   split
   ·rfl
   ·split
    ·rfl
    ·split
     ·rfl
     ·rename_i c1 c2 c3
      rw [if_neg c1, if_neg c2, if_neg c3] at h
      exact absurd rfl h
  rw [this]; exact hg
theorem aA {X : AH} {b : Int} (hg : X.Bg = true) (b0 : 0 ≤ b) (b6 : b < 6) (hh : (X.AN.at b).here = true) : ((D8 X b AI.EA).1.AN.at b).here = false := by
 rw [Zy hg b0 b6 hh (by decide) (by decide)]
 have e : AF.act ⟨X, b, []⟩ AI.EA = AF.Ge ⟨X, b, []⟩ := rfl
 rw [e]
 have hf := Nf ⟨X, b, []⟩
 show ((AF.Ge ⟨X, b, []⟩).w.AN.at b).here = false
 rw [hf.2.2]
 show (((((⟨X, b, []⟩ : AF).kind 18).E4.w.AN).put b default).at b).here = false
 rw [Vector.CD b0 b6]; rfl
theorem Rt {X : AH} {d : Int} (hg : X.Bg = true) (hw : X.DE) : (CU X d).1.Bg = true := by
 unfold CU
 rw [if_neg (by rw [hg]; decide)]
 have h := (K5 YD (draw := d) hg hw 6 (Nat.le_refl 6)).2.1
 generalize DT X d 6 = r at *
 exact h
end AF
namespace AI
structure Sn (U : Ap → Prop) (P : AI → Prop) : Prop where
 lines : ∀ {H k}, P H → 0 ≤ k → k < 4 → ∀ q ∈ (H.at_ k).queue, U q
 begun : ∀ {H}, P H → P H.begun
 step : ∀ {H X}, P H → Step U H X → P X
 next : ∀ {H k q r}, P H → 0 ≤ k → k < 4 → (H.at_ k).state ≠ 0 → (H.at_ k).queue = q :: r → P (H.next k r)
 KP : ∀ {H k}, P H → 0 ≤ k → k < 4 → (H.at_ k).state = 0 → P (H.set k ((({ (default : As) with state := 1, Az := -1 } : As).offer 3).offer 31))
 byte : ∀ {H k u}, P H → 0 ≤ k → k < 4 → (H.at_ k).state ≠ 0 → P (H.set k (Cm (H.at_ k) u).1)
 G7 : ∀ {H k n}, P H → 0 ≤ k → k < 4 → (H.at_ k).state ≠ 0 → P (H.set k ((H.at_ k).G7 n))
theorem EB (s : As) (o : Int) : (s.offer o).state = s.state := by
 unfold As.offer; split <;> exact (Kl _ _).2.1
structure Q6 (U : Ap → Prop) (Z : AI) (P : AI → Prop) : Prop where
 lines : ∀ {H k}, P H → 0 ≤ k → k < 4 → ∀ q ∈ (H.at_ k).queue, U q
 step : ∀ {H X}, P H → Step U H X → P X
 next : ∀ {H k q r}, P H → 0 ≤ k → k < 4 → (H.at_ k).state ≠ 0 → (H.at_ k).queue = q :: r → P (H.next k r)
 KP : ∀ {k}, 0 ≤ k → k < 4 → (Z.at_ k).state = 0 → P (Z.set k ((({ (default : As) with state := 1, Az := -1 } : As).offer 3).offer 31))
 byte : ∀ {k u}, 0 ≤ k → k < 4 → (Z.at_ k).state ≠ 0 → P (Z.set k (Cm (Z.at_ k) u).1)
 G7 : ∀ {k n}, 0 ≤ k → k < 4 → (Z.at_ k).state ≠ 0 → P (Z.set k ((Z.at_ k).G7 n))
section
variable {U : Ap → Prop} {P : AI → Prop} {H X Z : AI} (K : Q6 U Z P)
include K
theorem Q6.steps (h : P H) (s : Steps U H X) : P X := Steps.Jw (fun h s => K.step h s) h s
theorem Q6.D9 (h : P H) {k : Int} (h0 : 0 ≤ k) (h1 : k < 4) : P (H.D9 k) := by
 rcases I2 (U := U) H h0 h1 (K.lines h h0 h1) with ⟨_, e⟩ | ⟨q, r, hs, e, s⟩
 ·rw [e]; exact h
 ·exact K.steps (K.next h h0 h1 hs e) s
theorem Q6.turns (h : P H) : ∀ k : Nat, k ≤ 4 → P (H.turns k)
 | 0, _ => h
 | k + 1, hk => K.D9 (Q6.turns h k (by omega)) (by omega) (by omega)
theorem Q6.BX (h : P H) : P H.BX := K.steps h (It H)
theorem Q6.told (h : P H) {k : Int} (h0 : 0 ≤ k) (h1 : k < 4) (hs : (H.at_ k).state ≠ 0) {u : Ap} (hu : u ∈ Wi) : P (H.tell k u) := K.step h (.told h0 h1 hs hu)
theorem Q6.De (h : P Z) (a : Bu) : P (Z.De a).1 := by
 unfold AI.De
 split
 ·have hp := K.BX (K.steps (K.turns h 4 (Nat.le_refl 4)) (H5 (Z.turns 4) a.n))
  dsimp only
  unfold AI.Mn
  exact hp
 ·split
  ·exact h
  ·split
   ·exact h
   ·rename_i c
    have hs : 0 ≤ a.BJ ∧ a.BJ < 4 := by simp only [Bool.or_eq_true, decide_eq_true_eq] at c; omega
    split
    ·exact h
    ·rename_i c2
     have c2' : decide ((Z.at_ a.BJ).state = 0) = decide (a.kind = 1) := by simpa using c2
     split
     ·rename_i c3
      have hz : (Z.at_ a.BJ).state = 0 := of_decide_eq_true (c2'.trans c3)
      have h1 := K.KP hs.1 hs.2 hz
      have h2 := K.BX (K.told (u := Hg) h1 hs.1 hs.2 (by
       rw [Cv _ hs.1 hs.2 hs.1, if_pos rfl, EB, EB]
       exact (by decide : (1 : Int) ≠ 0)) (List.mem_cons_self ..))
      dsimp only
      unfold AI.KP
      exact h2
     ·rename_i c3
      have hz : (Z.at_ a.BJ).state ≠ 0 := fun e => c3 (by rw [← c2']; exact decide_eq_true e)
      split
      ·have h1 := K.byte hs.1 hs.2 hz (u := a.bytes)
       have h2 := K.BX h1
       have h3 := K.BX (K.told (u := Mz) h1 hs.1 hs.2 (by rw [Cv _ hs.1 hs.2 hs.1, if_pos rfl, (Ey _ _).2.1]; exact hz) (List.mem_cons_of_mem _ (List.mem_cons_self ..)))
       dsimp only
       rw [HW]
       split
       ·exact h3
       ·exact h2
      ·split
       ·have h1 := K.BX (K.G7 (n := a.n) hs.1 hs.2 hz)
        dsimp only
        exact h1
       ·have h1 := K.BX (K.steps h (Fc Z hs.1 hs.2))
        dsimp only
        exact h1
end
section
variable {U : Ap → Prop} {P : AI → Prop} (K : Sn U P) {H X : AI}
include K
theorem Sn.De (h : P X) (a : Bu) : P (X.De a).1 := Q6.De ⟨K.lines, K.step, K.next, K.KP h, K.byte h, K.G7 h⟩ h a
theorem Sn.act (h : P H) (a : Bu) : P (H.act a).1 := by
 unfold AI.act
 split
 ·exact h
 ·exact K.De (K.begun h) a
theorem Sn.run : ∀ (l : List Bu) {H : AI}, P H → P (H.run l).1
 | [], _, h => h
 | a :: r, _, h => Sn.run r (K.act h a)
end
structure Home (H : AI) : Prop where
 gd : H.w.Bg = true
 Fl : H.w.LI
 NN : H.HK
 me : ∀ k, 0 ≤ k → k < 4 → (H.at_ k).state = 2 → 2 ≤ (H.at_ k).Az ∧ (H.at_ k).Az ≤ 5 ∧ (H.w.AN.at (H.at_ k).Az).here = true
 one : ∀ j k, 0 ≤ j → j < 4 → 0 ≤ k → k < 4 → (H.at_ j).state = 2 → (H.at_ k).state = 2 → (H.at_ j).Az = (H.at_ k).Az → j = k
 all : ∀ b, 2 ≤ b → b ≤ 5 → (H.w.AN.at b).here = true → ∃ k, 0 ≤ k ∧ k < 4 ∧ (H.at_ k).state = 2 ∧ (H.at_ k).Az = b
 named : ∀ b, 2 ≤ b → b ≤ 5 → (H.w.AN.at b).here = true → AF.FG (H.w.AN.at b).name = true
 diff : ∀ b c, 2 ≤ b → b ≤ 5 → 0 ≤ c → c ≤ 5 → (H.w.AN.at b).here = true → (H.w.AN.at c).here = true → (H.w.AN.at c).name = (H.w.AN.at b).name → c = b
section
variable {H X : AI}
theorem Home.of (h : H.Home) (hw : X.w = H.w) (hs : ∀ j, 0 ≤ j → j < 4 → (X.at_ j).state = (H.at_ j).state ∧ (X.at_ j).Az = (H.at_ j).Az) (ho : X.HK) : X.Home :=
 ⟨by rw [hw]; exact h.gd, by rw [hw]; exact h.Fl, ho, fun k k0 k1 e => by
  obtain ⟨a, b⟩ := hs k k0 k1
  rw [hw, b]; exact h.me k k0 k1 (a ▸ e), fun j k j0 j1 k0 k1 e1 e2 e3 => by
  obtain ⟨a, b⟩ := hs k k0 k1
  obtain ⟨c, d⟩ := hs j j0 j1
  exact h.one j k j0 j1 k0 k1 (c ▸ e1) (a ▸ e2) (by rw [← d, ← b]; exact e3), fun b b0 b1 e => by
  rw [hw] at e
  obtain ⟨k, k0, k1, e1, e2⟩ := h.all b b0 b1 e
  obtain ⟨c, d⟩ := hs k k0 k1
  exact ⟨k, k0, k1, c.trans e1, d.trans e2⟩, by rw [hw]; exact h.named, by rw [hw]; exact h.diff⟩
theorem Home.put (h : H.Home) {k : Int} (k0 : 0 ≤ k) (k1 : k < 4) (hn : (H.at_ k).state ≠ 2) {s : As} (hs : s.state ≠ 2) (ho : s.Ok) : (H.set k s).Home := by
 have e : ∀ j, 0 ≤ j → (H.set k s).at_ j = if j = k then s else H.at_ j := fun j j0 => Cv H k0 k1 j0 s
 refine ⟨h.gd, h.Fl, h.NN.set k0 k1 ho, fun j j0 j1 => ?_, fun i j i0 i1 j0 j1 => ?_, fun b b0 b1 hb => ?_, h.named, h.diff⟩
 ·rw [e j j0]; split
  ·exact fun q => absurd q hs
  ·exact h.me j j0 j1
 ·rw [e i i0, e j j0]; split
  ·exact fun q => absurd q hs
  ·split
   ·exact fun _ q => absurd q hs
   ·exact h.one i j i0 i1 j0 j1
 ·obtain ⟨j, j0, j1, e1, e2⟩ := h.all b b0 b1 hb
  refine ⟨j, j0, j1, ?_⟩
  rw [e j j0, if_neg (fun q => by subst q; exact hn e1)]
  exact ⟨e1, e2⟩
theorem Home.land (h : H.Home) {k : Int} (k0 : 0 ≤ k) (k1 : k < 4) {w : AH} {es : List Event} (hg : w.Bg = true) (hw : w.LI) (hr : AF.ZG H.w es w) (hn : AF.Still H.w es w) : (H.HX k w (H.at_ k) es).Home := by
 have hat : ∀ j, 0 ≤ j → j < 4 → ((H.HX k w (H.at_ k) es).at_ j).state = (H.at_ j).state ∧ ((H.HX k w (H.at_ k) es).at_ j).Az = (H.at_ j).Az := fun j j0 j1 => by
  rw [HE H k0 k1 _ _ _ j0 j1]
  have e : (if j = k then H.at_ k else H.at_ j) = H.at_ j := by
   split
   ·rename_i q; rw [q]
   ·rfl
  rw [e]; exact As.Fo _ _
 have hok : (H.HX k w (H.at_ k) es).HK := fun j j0 j1 => by
  rw [HE H k0 k1 _ _ _ j0 j1]
  exact As.Ok.Ef (by split; exact h.NN k k0 k1; exact h.NN j j0 j1) es
 have hkeep := MD H k w (H.at_ k) es
 have hgone : ∀ c, ¬ AF.cJ es c := fun c ⟨e, he, h1, _⟩ => hn e he h1
 refine Home.of (H := { H with w := w }) ⟨hg, hw, h.NN, fun j j0 j1 e => ?_, h.one, fun b b0 b1 e => h.all b b0 b1 ((hr b (by omega) (by omega)).1 e).1, fun b b0 b1 e => ?_, fun b c b0 b1 c0 c1 e1 e2 e3 => ?_⟩ hkeep.1 hat hok
 ·obtain ⟨a, b, c⟩ := h.me j j0 j1 e
  exact ⟨a, b, ((hr _ (by omega) (by omega)).2 a (hgone _)).trans c⟩
 ·obtain ⟨p, q⟩ := (hr b (by omega) (by omega)).1 e
  show AF.FG (w.AN.at b).name = true
  rw [q]; exact h.named b b0 b1 p
 ·obtain ⟨p, q⟩ := (hr b (by omega) (by omega)).1 e1
  obtain ⟨p', q'⟩ := (hr c (by omega) (by omega)).1 e2
  exact h.diff b c b0 b1 c0 c1 p p' (by rw [← q, ← q']; exact e3)
theorem Home.left (h : H.Home) {k : Int} (k0 : 0 ≤ k) (k1 : k < 4) (hs : (H.at_ k).state = 2) : (H.HX k (AF.D8 H.w (H.at_ k).Az EA).1 default (AF.D8 H.w (H.at_ k).Az EA).2.1).Home := by
 obtain ⟨b2, b5, hh⟩ := h.me k k0 k1 hs
 have hr : AF.ZG H.w (AF.D8 H.w (H.at_ k).Az EA).2.1 (AF.D8 H.w (H.at_ k).Az EA).1 := AF.Q3 (AF.Wp [] True (by omega) (by omega)) rfl (fun _ => trivial)
 have hb : AF.By (H.at_ k).Az H.w (AF.D8 H.w (H.at_ k).Az EA).2.1 (AF.D8 H.w (H.at_ k).Az EA).1 := AF.Q3 (AF.dF [] True _) rfl (fun _ => trivial)
 have hq := AF.aA h.gd (show 0 ≤ (H.at_ k).Az by omega) (by omega) hh
 have hg := AF.Uj (b := (H.at_ k).Az) (o := EA) h.gd h.Fl.H4
 have hw := (AF.KK (b := (H.at_ k).Az) (o := EA) h.Fl MQ).1
 generalize hd : AF.D8 H.w (H.at_ k).Az EA = D at *
 have hkeep := MD H k D.1 default D.2.1
 have hat := fun j j0 j1 => HE H k0 k1 D.1 default D.2.1 (j := j) j0 j1
 have st : ∀ j, 0 ≤ j → j < 4 → ((H.HX k D.1 default D.2.1).at_ j).state = 2 → j ≠ k ∧ (H.at_ j).state = 2 ∧ ((H.HX k D.1 default D.2.1).at_ j).Az = (H.at_ j).Az := fun j j0 j1 e => by
  rw [hat j j0 j1] at e ⊢
  rw [(As.Fo _ _).1] at e
  rw [(As.Fo _ _).2]
  by_cases q : j = k
  ·rw [if_pos q] at e; exact absurd (show (0 : Int) = 2 from e) (by decide)
  ·rw [if_neg q] at e ⊢; exact ⟨q, e, rfl⟩
 refine ⟨by rw [hkeep.1]; exact hg, by rw [hkeep.1]; exact hw, fun j j0 j1 => ?_, fun j j0 j1 e => ?_, fun i j i0 i1 j0 j1 e1 e2 e3 => ?_, fun b b0 b1 e => ?_, fun b b0 b1 e => ?_, fun b c b0 b1 c0 c1 e1 e2 e3 => ?_⟩
 ·rw [hat j j0 j1]
  exact As.Ok.Ef (by split; exact As.DJ; exact h.NN j j0 j1) _
 ·obtain ⟨q, e1, e2⟩ := st j j0 j1 e
  obtain ⟨a, b, c⟩ := h.me j j0 j1 e1
  rw [hkeep.1, e2]
  refine ⟨a, b, ((hr _ (by omega) (by omega)).2 a fun ⟨y, hy, _, ha⟩ => ?_).trans c⟩
  exact q (h.one j k j0 j1 k0 k1 e1 hs (ha.symm.trans (hb y hy)))
 ·obtain ⟨_, a1, a2⟩ := st i i0 i1 e1
  obtain ⟨_, c1, c2⟩ := st j j0 j1 e2
  exact h.one i j i0 i1 j0 j1 a1 c1 (by rw [← a2, ← c2]; exact e3)
 ·rw [hkeep.1] at e
  obtain ⟨p, _⟩ := (hr b (by omega) (by omega)).1 e
  obtain ⟨j, j0, j1, a1, a2⟩ := h.all b b0 b1 p
  have hjk : j ≠ k := fun q => by subst q; rw [a2, e] at hq; cases hq
  refine ⟨j, j0, j1, ?_⟩
  rw [hat j j0 j1, (As.Fo _ _).1, (As.Fo _ _).2, if_neg hjk]
  exact ⟨a1, a2⟩
 ·rw [hkeep.1] at e ⊢
  obtain ⟨p, q⟩ := (hr b (by omega) (by omega)).1 e
  rw [q]; exact h.named b b0 b1 p
 ·rw [hkeep.1] at e1 e2 e3
  obtain ⟨p, q⟩ := (hr b (by omega) (by omega)).1 e1
  obtain ⟨p', q'⟩ := (hr c (by omega) (by omega)).1 e2
  exact h.diff b c b0 b1 c0 c1 p p' (by rw [← q, ← q']; exact e3)
theorem Home.L8 (h : H.Home) {k : Int} {u : Ap} (k0 : 0 ≤ k) (k1 : k < 4) (hs : (H.at_ k).state = 1) (he : (AF.BU H.w u).2.2.2 = 0) : (H.HX k (AF.BU H.w u).1 { H.at_ k with state := 2, Az := (AF.BU H.w u).2.1 } (AF.BU H.w u).2.2.1).Home := by
 rcases AF.SS H.w u with ⟨hn, _⟩ | ⟨e, f2, f5, hn, _, ht⟩
 ·exact absurd he hn
 have hw := (AF.JI (s := u) h.Fl).1
 have hf := AF.Px H.w 6 (Nat.le_refl 6) f2
 have hlen : u.length ≤ 8 := by
  have h2 := hn
  simp only [AF.FG, Bool.and_eq_true, decide_eq_true_eq] at h2
  omega
 have hfit := AF.P3 (b := AF.CK H.w 6) h.gd h.Fl.H4 (s := u) (by omega) (by omega) (by omega)
 have hwe := AF.WM H.w u (AF.CK H.w 6)
 rw [e] at hw ⊢
 generalize AF.CK H.w 6 = f at *
 generalize (AF.JH H.w u f).out = es
 generalize (AF.JH H.w u f).w = w at *
 show (H.HX k w { H.at_ k with state := 2, Az := f } es).Home
 have hw2 : w.LI := hw
 have hg : w.Bg = true := by rw [hwe]; exact hfit.gd
 have bf : w.AN.at f = AF.J2 u := by rw [hwe]; exact AH.EH (by omega) (by omega) _
 have bn : ∀ c, 0 ≤ c → c ≠ f → w.AN.at c = H.w.AN.at c := fun c c0 hc => by rw [hwe]; exact AH.GM (by omega) (by omega) c0 hc _
 have hkeep := MD H k w { H.at_ k with state := 2, Az := f } es
 have hat : ∀ j, 0 ≤ j → j < 4 → ((H.HX k w { H.at_ k with state := 2, Az := f } es).at_ j).state = (if j = k then 2 else (H.at_ j).state) ∧ ((H.HX k w { H.at_ k with state := 2, Az := f } es).at_ j).Az = (if j = k then f else (H.at_ j).Az) := fun j j0 j1 => by
  rw [HE H k0 k1 _ _ _ j0 j1, (As.Fo _ _).1, (As.Fo _ _).2]
  split <;> exact ⟨rfl, rfl⟩
 have out : ∀ j, 0 ≤ j → j < 4 → (H.at_ j).state = 2 → (H.at_ j).Az ≠ f := fun j j0 j1 e q => by
  have := (h.me j j0 j1 e).2.2
  rw [q, hf] at this; cases this
 refine ⟨by rw [hkeep.1]; exact hg, by rw [hkeep.1]; exact hw2, fun j j0 j1 => ?_, fun j j0 j1 => ?_, fun i j i0 i1 j0 j1 => ?_, fun b b0 b1 e => ?_, fun b b0 b1 e => ?_, fun b c b0 b1 c0 c1 e1 e2 e3 => ?_⟩
 ·rw [HE H k0 k1 _ _ _ j0 j1]
  exact As.Ok.Ef (by split; exact (h.NN k k0 k1).L8 f; exact h.NN j j0 j1) _
 ·rw [(hat j j0 j1).1, (hat j j0 j1).2, hkeep.1]
  split
  ·intro _; rw [bf]; exact ⟨by omega, by omega, rfl⟩
  ·intro e
   obtain ⟨a, b, c⟩ := h.me j j0 j1 e
   exact ⟨a, b, by rw [bn _ (by omega) (out j j0 j1 e)]; exact c⟩
 ·rw [(hat i i0 i1).1, (hat i i0 i1).2, (hat j j0 j1).1, (hat j j0 j1).2]
  split
  ·rename_i q1
   split
   ·rename_i q2; intro _ _ _; rw [q1, q2]
   ·intro _ e q; exact absurd q.symm (out j j0 j1 e)
  ·split
   ·intro e _ q; exact absurd q (out i i0 i1 e)
   ·exact h.one i j i0 i1 j0 j1
 ·rw [hkeep.1] at e
  by_cases q : b = f
  ·exact ⟨k, k0, k1, by rw [(hat k k0 k1).1, if_pos rfl], by rw [(hat k k0 k1).2, if_pos rfl, q]⟩
  ·rw [bn b (by omega) q] at e
   obtain ⟨j, j0, j1, a1, a2⟩ := h.all b b0 b1 e
   have hjk : j ≠ k := fun q => by subst q; omega
   exact ⟨j, j0, j1, by rw [(hat j j0 j1).1, if_neg hjk]; exact a1, by rw [(hat j j0 j1).2, if_neg hjk]; exact a2⟩
 ·rw [hkeep.1] at e ⊢
  by_cases q : b = f
  ·rw [q, bf]; exact hn
  ·rw [bn b (by omega) q] at e ⊢; exact h.named b b0 b1 e
 ·rw [hkeep.1] at e1 e2 e3
  have hfree : ∀ c, 0 ≤ c → c ≤ 5 → (H.w.AN.at c).here = true → (H.w.AN.at c).name ≠ u := fun c c0 c1 hc q => by
   have := ht c c0 (by omega)
   unfold AF.IY at this
   rw [hc, q] at this
   simp at this
  by_cases q1 : b = f
  ·by_cases q2 : c = f
   ·rw [q1, q2]
   ·rw [bn c (by omega) q2] at e2 e3
    rw [q1, bf] at e3
    exact absurd e3 (hfree c c0 c1 e2)
  ·rw [bn b (by omega) q1] at e1 e3
   by_cases q2 : c = f
   ·rw [q2, bf] at e3
    exact absurd e3.symm (hfree b (by omega) b1 e1)
   ·rw [bn c (by omega) q2] at e2 e3
    exact h.diff b c b0 b1 c0 c1 e1 e2 e3
theorem Ro (q : Ap) (hq : q.length ≤ 1000) : (Words.parse q).1.text.length ≤ 1000000 := by
 have := (Words.Jp q).2.2
 omega
theorem Home.step (h : H.Home) (hu : True) {U : Ap → Prop} (hU : ∀ q, U q → q.length ≤ 1000) (s : Step U H X) : X.Home := by
 cases s with
 | @told k u h0 h1 hs _ =>
  refine h.of rfl (fun j j0 j1 => ?_) (h.NN.step (U := U) (.told h0 h1 hs ‹_›))
  unfold AI.tell
  rw [Cv _ h0 h1 j0]
  split
  ·rename_i q; subst q; exact ⟨(Eu _ _).1, (Eu _ _).2.1⟩
  ·exact ⟨rfl, rfl⟩
 | @BX k h0 h1 hs =>
  refine h.of rfl (fun j j0 j1 => ?_) (h.NN.step (U := U) (.BX h0 h1 hs))
  rw [Cv _ h0 h1 j0]
  split
  ·rename_i q; subst q; exact ⟨(F8 _).2.1, (F8 _).2.2.1⟩
  ·exact ⟨rfl, rfl⟩
 | @free k h0 h1 hn => exact h.put h0 h1 (fun e => hn ⟨e, (h.me k h0 h1 e).2.2⟩) (show (0 : Int) ≠ 2 by decide) As.DJ
 | @goes k w s es h0 h1 g =>
  cases g with
  | left hs _ => exact h.left h0 h1 hs
  | L8 hs he => exact h.L8 h0 h1 hs he
  | bX hq hn0 hn1 hv =>
   have hst := (h.NN k h0 h1).st
   obtain ⟨b2, b5, hh⟩ := h.me k h0 h1 (by omega)
   exact h.land h0 h1 (AF.Uj h.gd h.Fl.H4) (AF.KK h.Fl (Ro _ (hU _ hq))).1 (AF.Q3 (AF.Wp _ False (by omega) (by omega)) rfl (fun e => hv e)) (AF.Q3 (AF.Un _ _) rfl (fun e => hv e))
  | round => exact h.land h0 h1 (AF.Rt h.gd h.Fl.H4) (AF.Kv h.Fl).1 (AF.Pj AF.bk h.Fl.H4) (AF.Pj AF.YP h.Fl.H4)
end
end AI
end Go.Ing
/- An act that is refused, and acts behind the last: plain laws. -/
namespace Go.Ing
open Go
theorem X3 {α : Type} (a b c : α) : [a, b, c].Perm [c, b, a] := List.reverse_perm [c, b, a]
namespace AI
theorem Tq (H : AI) : H.begun.w = H.w ∧ H.begun.last = [] ∧ H.begun.CA = H.CA + 1 := HB (H := { H with CA := H.CA + 1, last := [] }) 4
def zero : Bu := ⟨0, 0, 0, []⟩
end AI
end Go.Ing
/- Behind each act: people and pages. -/
namespace Go.Ing
open Go
namespace As
theorem Still.heard {s : As} (h : s.Still) : ({ s with told := [] } : As).Still := by
 refine ⟨?_, h.cut⟩
 have e : ({ s with told := [] } : As).BX = { s.BX with told := [] } := by
  unfold As.BX
  by_cases c : (!s.Lt || decide (s.Dk.B1 < 0) || decide (200 < s.Dk.B1)) = true
  ·rw [if_pos c, if_pos (show (!({ s with told := [] } : As).Lt || decide (({ s with told := [] } : As).Dk.B1 < 0) || decide (200 < ({ s with told := [] } : As).Dk.B1)) = true from c)]
  ·rw [if_neg c, if_neg (show ¬ (!({ s with told := [] } : As).Lt || decide (({ s with told := [] } : As).Dk.B1 < 0) || decide (200 < ({ s with told := [] } : As).Dk.B1)) = true from c)]
 rw [e, h.fl]
end As
namespace AI
theorem Home.CA : Sn (fun q => q.length ≤ 1000) Home where
 lines {H k} h h0 h1 q hq := by
  have := ((Bb.F4 q).1 ((h.NN k h0 h1).ln.queue q hq)).1
  omega
 begun {H} h := h.of (Tq H).1 (fun j j0 j1 => by rw [IL j0 j1]; exact ⟨rfl, rfl⟩) h.NN.begun
 step h s := h.step trivial (fun _ h => h) s
 next {H k q r} h h0 h1 _ e := h.of rfl (fun j j0 j1 => by
  unfold AI.next; rw [Cv _ h0 h1 j0]; split
  ·rename_i q; subst q; exact ⟨rfl, rfl⟩
  ·exact ⟨rfl, rfl⟩) (h.NN.set h0 h1 ((h.NN k h0 h1).next e))
 KP {H k} h h0 h1 hz := h.put h0 h1 (by rw [hz]; decide) (by rw [EB, EB]; exact (by decide : (1 : Int) ≠ 2)) (((show ({ (default : As) with state := 1, Az := -1 } : As).Ok from ⟨⟨show (0 : Int) ≤ 1 by decide, show (1 : Int) ≤ 2 by decide⟩, As.DJ.n, As.DJ.ring, As.DJ.s0, As.DJ.s1, As.DJ.ln⟩).offer 3).offer 31)
 byte {H k u} h h0 h1 _ := h.of rfl (fun j j0 j1 => by
  rw [Cv _ h0 h1 j0]; split
  ·rename_i q; subst q; exact ⟨(Ey _ _).2.1, (Ey _ _).2.2.1⟩
  ·exact ⟨rfl, rfl⟩) (h.NN.set h0 h1 ((h.NN k h0 h1).typed u))
 G7 {H k n} h h0 h1 _ := h.of rfl (fun j j0 j1 => by
  rw [Cv _ h0 h1 j0]; split
  ·rename_i q; subst q; exact ⟨rfl, rfl⟩
  ·exact ⟨rfl, rfl⟩) (h.NN.set h0 h1 ((h.NN k h0 h1).G7 n))
def Zero (H : AI) : Prop := ∀ k, 0 ≤ k → k < 4 → (H.at_ k).state = 0 → H.at_ k = default
theorem Zero.set {H : AI} (h : H.Zero) {k : Int} (h0 : 0 ≤ k) (h1 : k < 4) {s : As} (hs : s.state = 0 → s = default) : (H.set k s).Zero := fun j j0 j1 => by
 rw [Cv _ h0 h1 j0]; split
 ·exact hs
 ·exact h j j0 j1
theorem Zero.CA : Sn (fun _ => True) Zero where
 lines _ _ _ _ _ := trivial
 begun {H} h := fun k h0 h1 => by
  rw [IL h0 h1]
  intro e
  rw [h k h0 h1 e]; rfl
 step {H X} h s := by
  cases s with
  | told h0 h1 hs _ => exact h.set h0 h1 (fun e => absurd ((Eu _ _).1.symm.trans e) hs)
  | BX h0 h1 hs => exact h.set h0 h1 (fun e => absurd ((F8 _).2.1.symm.trans e) hs)
  | free h0 h1 _ => exact h.set h0 h1 (fun _ => rfl)
  | @goes k w s es h0 h1 g =>
   have hs : s.state = 0 → s = default := by
    cases g with
    | left _ _ => exact fun _ => rfl
    | L8 _ _ => exact fun e => absurd (show (2 : Int) = 0 from e) (by decide)
    | bX _ hn _ _ => exact fun e => absurd e hn
    | round => exact h 0 (Int.le_refl 0) (by decide)
   intro j j0 j1
   rw [HE H h0 h1 _ _ _ j0 j1]
   intro e
   rw [(As.Fo _ _).1] at e
   have e2 : (if j = k then s else H.at_ j) = default := by
    split at e
    ·rename_i q; rw [if_pos q]; exact hs e
    ·rename_i q; rw [if_neg q]; exact h j j0 j1 e
   rw [e2]; exact OQ es
 next {H k q r} h h0 h1 hs _ := h.set h0 h1 (fun e => absurd e hs)
 KP {H k} h h0 h1 _ := h.set h0 h1 (fun e => by rw [EB, EB] at e; exact absurd (show (1 : Int) = 0 from e) (by decide))
 byte {H k u} h h0 h1 hs := h.set h0 h1 (fun e => absurd ((Ey _ _).2.1.symm.trans e) hs)
 G7 {H k n} h h0 h1 hs := h.set h0 h1 (fun e => absurd e hs)
def Calm (H : AI) : Prop := ∀ k, 0 ≤ k → k < 4 → (H.at_ k).state ≠ 0 → (H.at_ k).Still
theorem TO (X : AI) (h : X.HK) (a : Bu) : (X.De a).1 = X ∨ ∃ Y : AI, Y.HK ∧ (X.De a).1 = Y.BX :=
 JJ (fun Z => Z = X ∨ ∃ Y : AI, Y.HK ∧ Z = Y.BX) (.inl rfl) (fun d => .inr ⟨_, (h.turns 4 (Nat.le_refl 4)).steps (U := fun _ => True) (H5 _ d), rfl⟩)
  (fun k h0 h1 => .inr ⟨_, (h.set h0 h1 (((show ({ (default : As) with state := 1, Az := -1 } : As).Ok from ⟨⟨show (0 : Int) ≤ 1 by decide, show (1 : Int) ≤ 2 by decide⟩, As.DJ.n, As.DJ.ring, As.DJ.s0, As.DJ.s1, As.DJ.ln⟩).offer 3).offer 31)).tell h0 h1 Hg, rfl⟩)
  (fun k u h0 h1 => .inr ⟨_, by
   have hs := h.set h0 h1 ((h k h0 h1).typed u)
   exact (show (if decide (0 < (Cm (X.at_ k) u).2) = true then (X.set k (Cm (X.at_ k) u).1).tell k Mz else X.set k (Cm (X.at_ k) u).1).HK by
    split
    ·exact hs.tell h0 h1 Mz
    ·exact hs), HW X k u⟩)
  (fun k z h0 h1 => .inr ⟨_, h.set h0 h1 ((h k h0 h1).G7 z), rfl⟩) (fun k h0 h1 => .inr ⟨_, h.steps (U := fun _ => True) (Fc X h0 h1), rfl⟩) a
theorem Calm.act {H : AI} (h : H.Calm) (ho : H.HK) (a : Bu) : (H.act a).1.Calm := by
 unfold AI.act
 split
 ·exact h
 ·rcases TO H.begun ho.begun a with e | ⟨Y, hy, e⟩
  ·rw [e]
   intro k h0 h1
   rw [IL h0 h1]
   exact fun hs => (h k h0 h1 hs).heard
  ·rw [e]
   exact fun k h0 h1 hs => TG hy h0 h1 hs
theorem Xh : AI.new.Home := by
 have hb : ∀ b : Int, 2 ≤ b → b ≤ 5 → (AI.new.w.AN.at b).here = true → False := fun b b0 b1 => by
  have : b = 2 ∨ b = 3 ∨ b = 4 ∨ b = 5 := by omega
  rcases this with e | e | e | e <;> subst e <;> decide
 have hs : ∀ k, 0 ≤ k → k < 4 → (AI.new.at_ k).state = 2 → False := fun k h0 h1 e => by
  rw [MW h0 h1] at e
  exact absurd (show (0 : Int) = 2 from e) (by decide)
 exact ⟨AH.WU, UW, UT, fun k h0 h1 e => (hs k h0 h1 e).elim, fun j k j0 j1 k0 k1 e => (hs j j0 j1 e).elim, fun b b0 b1 e => (hb b b0 b1 e).elim, fun b b0 b1 e => (hb b b0 b1 e).elim, fun b c b0 b1 c0 c1 e => (hb b b0 b1 e).elim⟩
theorem WT : AI.new.Zero := fun k h0 h1 _ => MW h0 h1
theorem X0 : AI.new.Calm := fun k h0 h1 e => absurd (by rw [MW h0 h1]; rfl) e
structure JF (H : AI) : Prop where
 home : H.Home
 zero : H.Zero
 calm : H.Calm
 live : H.Live
theorem W7 : AI.new.JF := ⟨Xh, WT, X0, LM⟩
theorem JF.act {H : AI} (h : H.JF) (a : Bu) : (H.act a).1.JF := ⟨Home.CA.act h.home a, Zero.CA.act h.zero a, h.calm.act h.home.NN a, h.live.act a⟩
theorem JF.run : ∀ (l : List Bu) {H : AI}, H.JF → (H.run l).1.JF
 | [], _, h => h
 | a :: r, _, h => JF.run r (h.act a)
theorem JF.cut {H : AI} (h : H.JF) {k : Int} (h0 : 0 ≤ k) (h1 : k < 4) : (H.at_ k).pg.cut = false := by
 by_cases e : (H.at_ k).state = 0
 ·rw [h.zero k h0 h1 e]; rfl
 ·exact (h.calm k h0 h1 e).cut
end AI
section
variable {V : AL} {ls : Vector BD 4} {ev : List Event} {k : Int}
variable (hF : (A5 V ls ev).JF)
include hF
end
end Go.Ing
/- A pulse is one line of each seat: plain laws. -/
namespace Go.Ing
open Go
namespace AI
structure N6 (P : As → Prop) : Prop where
 tell : ∀ {s} (u : Ap), P s → P (s.tell u)
 BX : ∀ {s}, P s → P s.BX
 free : P default
 L8 : ∀ {s} (b : Int), s.state = 1 → P s → P { s with state := 2, Az := b }
section
variable {U : Ap → Prop} {P : As → Prop} (K : N6 P) {H X : AI}
include K
theorem N6.fold : ∀ (es : List Event) {s : As}, P s → P (es.foldl As.CS s)
 | [], _, h => h
 | e :: r, s, h => by
  refine N6.fold r ?_
  unfold As.CS
  split
  ·exact K.tell _ h
  ·exact h
theorem N6.Ef {s : As} (h : P s) (es : List Event) : P (s.Ef es) := by
 unfold As.Ef
 split
 ·exact K.fold es h
 ·exact h
theorem N6.step {j : Int} (j0 : 0 ≤ j) (j1 : j < 4) (h : P (H.at_ j)) (s : Step U H X) : P (X.at_ j) := by
 cases s with
 | told h0 h1 _ _ =>
  unfold AI.tell
  rw [Cv _ h0 h1 j0]; split
  ·rename_i q; subst q; exact K.tell _ h
  ·exact h
 | BX h0 h1 _ =>
  rw [Cv _ h0 h1 j0]; split
  ·rename_i q; subst q; exact K.BX h
  ·exact h
 | free h0 h1 _ =>
  rw [Cv _ h0 h1 j0]; split
  ·exact K.free
  ·exact h
 | @goes k w s es h0 h1 g =>
  rw [HE H h0 h1 _ _ _ j0 j1]
  refine K.Ef ?_ es
  split
  ·rename_i q
   subst q
   cases g with
   | left _ _ => exact K.free
   | L8 hs _ => exact K.L8 _ hs h
   | bX _ _ _ _ => exact h
   | round => exact h
  ·exact h
theorem N6.steps {j : Int} (j0 : 0 ≤ j) (j1 : j < 4) (h : P (H.at_ j)) (s : Steps U H X) : P (X.at_ j) := Steps.Jw (P := fun H => P (H.at_ j)) (fun h s => K.step j0 j1 h s) h s
end
theorem La (p : Nat → Prop) : N6 (fun s => s.state = 0 ∨ p s.queue.length) where
 tell {s} u h := by rw [(Eu s u).1, (Eu s u).2.2.1]; exact h
 BX {s} h := by rw [(F8 s).2.1, (F8 s).2.2.2.1]; exact h
 free := .inl rfl
 L8 {s} b hs h := by
  rcases h with h | h
  ·omega
  ·exact .inr h
theorem UU {H : AI} {k : Int} (h0 : 0 ≤ k) (h1 : k < 4) (r : List Ap) {j : Int} (j0 : 0 ≤ j) : (H.next k r).at_ j = if j = k then { H.at_ k with queue := r }.FN else H.at_ j := by
 unfold AI.next; rw [Cv _ h0 h1 j0]
theorem Mg {H : AI} {m : Nat} {j : Int} (j0 : 0 ≤ j) (j1 : j < 4) (h : (H.at_ j).state = 0 ∨ (H.at_ j).queue.length = m) : ∀ k : Nat, k ≤ 4 → ((H.turns k).at_ j).state = 0 ∨ ((H.turns k).at_ j).queue.length = (if j < k then m - 1 else m)
 | 0, _ => by rw [if_neg (by omega)]; exact h
 | k + 1, hk => by
  have ih := Mg j0 j1 h k (by omega)
  show (((H.turns k).D9 k).at_ j).state = 0 ∨ (((H.turns k).D9 k).at_ j).queue.length = _
  by_cases e : j = (k : Int)
  ·have hlt : (j < ((k + 1 : Nat) : Int)) := by omega
   rw [if_neg (by omega)] at ih
   rw [if_pos hlt]
   rcases I2 (U := fun _ => True) (H.turns k) (k := k) (by omega) (by omega) (fun _ _ => trivial) with ⟨hc, e2⟩ | ⟨q, r, hs, e2, st⟩
   ·rw [e2]
    rcases hc with hc | hc
    ·exact .inl (by rw [e]; exact hc)
    ·rcases ih with ih | ih
     ·exact .inl ih
     ·rw [e, hc] at ih
      refine .inr ?_
      rw [e, hc]
      have : m = 0 := by simpa using ih.symm
      subst this; rfl
   ·refine (La (fun n => n = m - 1)).steps j0 j1 ?_ st
    rw [UU (by omega) (by omega) r j0, if_pos e]
    rcases ih with ih | ih
    ·exact absurd (by rw [← e]; exact ih) hs
    ·rw [e, e2, List.length_cons] at ih
     exact .inr (show r.length = m - 1 by omega)
  ·have hlt : (j < ((k + 1 : Nat) : Int)) = (j < (k : Int)) := lt_next e
   simp only [hlt]
   rcases I2 (U := fun _ => True) (H.turns k) (k := k) (by omega) (by omega) (fun _ _ => trivial) with ⟨_, e2⟩ | ⟨q, r, hs, e2, st⟩
   ·rw [e2]; exact ih
   ·refine (La (fun n => n = if j < (k : Int) then m - 1 else m)).steps j0 j1 ?_ st
    rw [UU (by omega) (by omega) r j0, if_neg e]
    exact ih
theorem Tr (u : Ap) : ∀ x : Bb.S, x.queue.length ≤ (Bb.feed x u).queue.length := by
 induction u with
 | nil => exact fun x => Nat.le_refl _
 | cons b u ih =>
  intro x
  refine Nat.le_trans ?_ (ih (Bb.step x b))
  unfold Bb.step
  dsimp only
  repeat' split
  all_goals first | exact Nat.le_refl _ | (show x.queue.length ≤ (x.queue ++ [x.now]).length; rw [List.length_append]; exact Nat.le_add_right _ _)
theorem R0 (s : As) (u : Ap) : s.queue.length ≤ (Cm s u).1.queue.length := by
 have h2 := (Kl { s with Dk := (s.Dk.DR u).1 } (s.Dk.DR u).2.2.1).2.2.2.2
 unfold Cm As.typed
 have hb : (s.bytes u).1.queue = s.queue := h2
 split
 ·show s.queue.length ≤ (s.bytes u).1.queue.length
  rw [hb]; exact Nat.le_refl _
 ·have := Tr (s.bytes u).2 ⟨(s.bytes u).1.now, (s.bytes u).1.Cr, (s.bytes u).1.ret, (s.bytes u).1.queue, 0⟩
  rw [← hb]
  exact this
theorem U4 {H : AI} (h : H.JF) (c : H.CA < 400) (a : Bu) {j : Int} (j0 : 0 ≤ j) (j1 : j < 4) (hs : ((H.act a).1.at_ j).state ≠ 0) :
  (a.kind = 5 → ((H.act a).1.at_ j).queue.length = (H.at_ j).queue.length - 1) ∧ (a.kind ≠ 5 → (H.at_ j).queue.length ≤ ((H.act a).1.at_ j).queue.length) := by
 rw [F6 (decide_eq_false (by omega)) a] at hs ⊢
 have hz : (H.begun.at_ j).state = 0 → (H.begun.at_ j).queue = [] := fun e => by
  rw [Zero.CA.begun h.zero j j0 j1 e]; rfl
 have hq : (H.at_ j).queue = (H.begun.at_ j).queue := by rw [IL j0 j1]
 rw [hq]
 have hzz := Zero.CA.begun h.zero
 generalize H.begun = X at hs hz hzz ⊢
 refine ⟨fun hk => ?_, fun hk => ?_⟩
 ·have e : (X.De a).1 = X.Mn a.n := by unfold AI.De; rw [if_pos (decide_eq_true hk)]
  rw [e] at hs ⊢
  have h1 := Mg j0 j1 (.inr rfl : (X.at_ j).state = 0 ∨ (X.at_ j).queue.length = (X.at_ j).queue.length) 4 (Nat.le_refl 4)
  rw [if_pos (by omega)] at h1
  have h2 := (La (fun n => n = (X.at_ j).queue.length - 1)).steps (U := fun _ => True) j0 j1 h1 ((H5 (X.turns 4) a.n).trans (It _))
  exact h2.resolve_left hs
 ·have key : ((X.De a).1.at_ j).state = 0 ∨ (X.at_ j).queue.length ≤ ((X.De a).1.at_ j).queue.length := by
   have K := La (fun n => (X.at_ j).queue.length ≤ n)
   have fl : ∀ {Y : AI}, ((Y.at_ j).state = 0 ∨ (X.at_ j).queue.length ≤ (Y.at_ j).queue.length) → (Y.BX.at_ j).state = 0 ∨ (X.at_ j).queue.length ≤ (Y.BX.at_ j).queue.length := fun {Y} hy => K.steps (U := fun _ => True) j0 j1 hy (It Y)
   have st : ∀ {k : Int} {s : As}, 0 ≤ k → k < 4 → (j = k → (X.at_ j).queue.length ≤ s.queue.length) → ((X.set k s).at_ j).state = 0 ∨ (X.at_ j).queue.length ≤ ((X.set k s).at_ j).queue.length := fun {k s} k0 k1 hh => by
    rw [Cv _ k0 k1 j0]; split
    ·rename_i q; exact .inr (hh q)
    ·exact .inr (Nat.le_refl _)
   unfold AI.De
   rw [if_neg (by rw [decide_eq_true_eq]; exact hk)]
   split
   ·exact .inr (Nat.le_refl _)
   ·split
    ·exact .inr (Nat.le_refl _)
    ·rename_i c2
     have hsr : 0 ≤ a.BJ ∧ a.BJ < 4 := by simp only [Bool.or_eq_true, decide_eq_true_eq] at c2; omega
     split
     ·exact .inr (Nat.le_refl _)
     ·rename_i c3
      have c3' : decide ((X.at_ a.BJ).state = 0) = decide (a.kind = 1) := by simpa using c3
      split
      ·rename_i c4
       have h0 : (X.at_ a.BJ).state = 0 := of_decide_eq_true (c3'.trans c4)
       have h1 := st (k := a.BJ) (s := (({ (default : As) with state := 1, Az := -1 } : As).offer 3).offer 31) hsr.1 hsr.2 (fun e => by
        have hx := hz (by rw [e]; exact h0)
        rw [hx]; exact Nat.zero_le _)
       have h2 := K.step (U := fun _ => True) j0 j1 h1 (.told (u := Hg) hsr.1 hsr.2 (by
        rw [Cv _ hsr.1 hsr.2 hsr.1, if_pos rfl, EB, EB]
        exact (by decide : (1 : Int) ≠ 0)) (List.mem_cons_self ..))
       have h3 := fl h2
       dsimp only
       unfold AI.KP
       exact h3
      ·rename_i c4
       have h0 : (X.at_ a.BJ).state ≠ 0 := fun e => c4 (by rw [← c3']; exact decide_eq_true e)
       split
       ·have h1 := st (k := a.BJ) (s := (Cm (X.at_ a.BJ) a.bytes).1) hsr.1 hsr.2 (fun e => by rw [e]; exact R0 _ _)
        have h2 := fl h1
        have h3 := fl (K.step (U := fun _ => True) j0 j1 h1 (.told (u := Mz) hsr.1 hsr.2 (by rw [Cv _ hsr.1 hsr.2 hsr.1, if_pos rfl, (Ey _ _).2.1]; exact h0) (List.mem_cons_of_mem _ (List.mem_cons_self ..))))
        dsimp only
        rw [HW]
        split
        ·exact h3
        ·exact h2
       ·split
        ·have h1 := fl (st (k := a.BJ) (s := (X.at_ a.BJ).G7 a.n) hsr.1 hsr.2 (fun e => by rw [e]; exact Nat.le_refl _))
         dsimp only
         exact h1
        ·have h1 := fl (K.steps (U := fun _ => True) j0 j1 (.inr (Nat.le_refl _)) (Fc X hsr.1 hsr.2))
         dsimp only
         exact h1
  exact key.resolve_left hs
end AI
def NQ (a : Bu) (V : AL) (ls : Vector BD 4) (W : Vector Int 4) : Prop := ∀ j : Int, 0 ≤ j → j < 4 → 0 ≤ W.at j ∧ W.at j ≤ 1000000 ∧ ((V.Aw.at j).state = 0 → (ls.at j).queue.length = 0) ∧ ((V.Aw.at j).state ≠ 0 → (a.kind = 5 → ((ls.at j).queue.length : Int) = max 0 (W.at j - 1)) ∧ (a.kind ≠ 5 → W.at j ≤ ((ls.at j).queue.length : Int)))
theorem Wh {H : AI} (h : H.JF) (c : H.CA < 400) {a : Bu} {V : AL} {ls : Vector BD 4} {ev : List Event} (e : A5 V ls ev = (H.act a).1) {W : Vector Int 4} (hW : ∀ j : Int, 0 ≤ j → j < 4 → W.at j = ((H.at_ j).queue.length : Int)) : NQ a V ls W := fun j j0 j1 => by
 have hq := (h.live.NN j j0 j1).ln.len
 have hq' : (H.at_ j).queue.length ≤ 6 := hq
 have hv : ((H.act a).1.at_ j).queue = (ls.at j).queue := by rw [← e, CZ _ _ _ j0 j1]; rfl
 have hst : ((H.act a).1.at_ j).state = (V.Aw.at j).state := by rw [← e, CZ _ _ _ j0 j1]; rfl
 refine ⟨by rw [hW j j0 j1]; omega, by rw [hW j j0 j1]; omega, fun hs => ?_, fun hs => ?_⟩
 ·rw [← hv, (h.act a).zero j j0 j1 (hst.trans hs)]; rfl
 ·have := AI.U4 h c a j0 j1 (by rw [hst]; exact hs)
  rw [hv] at this
  rw [hW j j0 j1]
  exact ⟨fun k => by have := this.1 k; omega, fun k => by have := this.2 k; omega⟩
section
variable {a : Bu} {V : AL} {ls : Vector BD 4} {W U : Vector Int 4} {j : Int} {n : Nat} (h : NQ a V ls W) (j0 : 0 ≤ j) (j1 : j < 4) (hU : U.at j = W.at j) (hn : n = (ls.at j).queue.length)
include h j0 j1 hU hn
theorem Ti (hs : ¬ (Et (V.Aw.at j)).1 = 0) : (decide (a.kind = 5) && !decide ((n : Int) = max 0 (U.at j - 1)) || (!decide (a.kind = 5) && decide ((n : Int) < U.at j))) = false := by
 have hs' : (V.Aw.at j).state ≠ 0 := fun e => hs (by unfold Et; rw [if_neg (by rw [e]; decide)]; exact e)
 obtain ⟨_, _, _, h4⟩ := h j j0 j1
 obtain ⟨h5, h6⟩ := h4 hs'
 rw [hU, hn]
 by_cases k : a.kind = 5
 ·rw [decide_eq_true k, decide_eq_true (h5 k)]; rfl
 ·rw [decide_eq_false k, decide_eq_false (show ¬ ((ls.at j).queue.length : Int) < W.at j by have := h6 k; omega)]; rfl
end
theorem O3 {a : Bu} {V : AL} {ls : Vector BD 4} {W : Vector Int 4} {j : Int} (h : NQ a V ls W) (j0 : 0 ≤ j) (j1 : j < 4) (hs : (Et (V.Aw.at j)).1 = 0) : (ls.at j).queue.length = 0 := by
 refine (h j j0 j1).2.2.1 ?_
 unfold Et at hs
 split at hs
 ·exact absurd (show (2 : Int) = 0 from hs) (by decide)
 ·exact hs
def Jb (ls : Vector BD 4) (W U : Vector Int 4) (k : Int) : Prop := ∀ j : Int, 0 ≤ j → j < 4 → U.at j = if j < k then ((ls.at j).queue.length : Int) else W.at j
theorem Jb.start (ls : Vector BD 4) (W : Vector Int 4) : Jb ls W W 0 := fun j j0 _ => by rw [if_neg (by omega)]
theorem Jb.next {ls : Vector BD 4} {W U : Vector Int 4} {k : Int} (h : Jb ls W U k) (k0 : 0 ≤ k) (k1 : k < 4) {n : Int} (hn : n = ((ls.at k).queue.length : Int)) : Jb ls W (U.put k n) (k + 1) := fun j j0 j1 => by
 rw [IF _ _ _ _ k0 k1 j0]
 split
 ·rename_i q; subst q; rw [if_pos (by omega)]; exact hn
 ·rename_i q
  rw [h j j0 j1]
  by_cases c : j < k
  ·rw [if_pos c, if_pos (by omega)]
  ·rw [if_neg c, if_neg (by omega)]
theorem Jb.at {ls : Vector BD 4} {W U : Vector Int 4} {k : Int} (h : Jb ls W U k) (k0 : 0 ≤ k) (k1 : k < 4) : U.at k = W.at k := by rw [h k k0 k1, if_neg (by omega)]
theorem Jb.done {ls : Vector BD 4} {W U : Vector Int 4} (h : Jb ls W U 4) {V : AL} {ev : List Event} : ∀ j : Int, 0 ≤ j → j < 4 → U.at j = (((A5 V ls ev).at_ j).queue.length : Int) := fun j j0 j1 => by
 rw [h j j0 j1, if_pos j1, CZ _ _ _ j0 j1]; rfl
end Go.Ing
