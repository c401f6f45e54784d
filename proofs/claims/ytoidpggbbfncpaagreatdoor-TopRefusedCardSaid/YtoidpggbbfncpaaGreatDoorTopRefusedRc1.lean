/- What the functions that the law of this seat reaches compute, and the plain laws of it. No condition. -/
import Derived.Test.YtoidpggbbfncpaaGreatDoorTopRefusedEc3
import Derived.Test.YtoidpggbbfncpaaGreatDoorTopRefusedRa1
import Derived.Test.YtoidpggbbfncpaaGreatDoorTopRefusedRb1
set_option linter.unusedSimpArgs false
set_option linter.unusedVariables false
/- Who is far perceives nothing: plain laws. -/
namespace Go.Ing
open Go
namespace AH
theorem Lu (w : AH) (e : Event) : ∀ n : Nat, (w.HD e n).kind = e.kind ∧ (w.HD e n).Ds = e.Ds ∧ (w.HD e n).room = e.room ∧ (w.HD e n).other = e.other ∧ (w.HD e n).n = e.n ∧ (w.HD e n).Hq = e.Hq ∧ (w.HD e n).EC = e.EC ∧ (w.HD e n).B3 = e.B3 ∧ (w.HD e n).text = e.text
 | 0 => ⟨rfl, rfl, rfl, rfl, rfl, rfl, rfl, rfl, rfl⟩
 | k + 1 => Lu w e k
end AH
namespace AG
section
variable {b c rc : Int} {S : Int → Prop} {T : AG}
section
variable (c0 : 0 ≤ c) (c6 : c < 6) (hn : c ≠ b)
include c0 c6 hn
end
end
end AG
end Go.Ing
/- What others are told is not empty: plain laws. -/
namespace Go.Ing
open Go
namespace AH
end AH
theorem O3 {α : Type} {d : α} {xs : List α} {i : Nat} (h : i < xs.length) : xs.getD i d ∈ xs := by
 rw [List.getD_eq_getElem?_getD, List.getElem?_eq_getElem h]
 exact List.getElem_mem h
namespace AG
theorem MF : ∀ (l : List Int) (T : AG), (T.Dg l).out.length = T.out.length + l.length
 | [], T => rfl
 | i :: r, T => by rw [Dg, MF r, FG]; show T.out.length + 1 + r.length = _; rw [List.length_cons]; omega
theorem NV (v to : Int) : ∀ (l : List Int) (T : AG), (T.Fp v to l).out.length ≤ T.out.length + l.length
 | [], T => Nat.le_refl _
 | i :: r, T => by
  have h1 := NV v to r (T.DX v to i)
  have h2 := T.Nj v to i
  rw [Fp, List.length_cons]; omega
theorem RX (T : AG) {l : List Int} (hl : l.length ≤ 9) (o : Order) : (T.P1 l o).out.length ≤ T.out.length + 10 := by
 have h := (Ek T.w l o.nth o.name o.Bm).length_le
 unfold P1
 rw [MF]
 split
 ·rw [CE]; omega
 ·omega
theorem W7 (T : AG) (o : Order) : (T.get o).out.length ≤ T.out.length + 11 := by
 have hb := T.HY o.second
 unfold get
 split
 ·split
  ·omega
  ·have := RX (T.box o.second).1 (AH.Hg (T.box o.second).1.w 2 (T.box o.second).2.1) o
   omega
 ·have := RX T T.IC o
  omega
theorem Ty (T : AG) (o : Order) : (T.Gx o).out.length ≤ T.out.length + 11 := by
 have hb := T.Of o
 unfold Gx
 split
 ·omega
 ·unfold VO
  have h := (Ek (T.DI o).1.w (T.DI o).1.own o.nth o.name o.Bm).length_le
  have h9 := (T.DI o).1.Ja
  refine Nat.le_trans (NV _ _ _ _) ?_
  split
  ·rw [CE]; omega
  ·omega
theorem Uy (T : AG) (o : Order) : (T.GU o).out.length ≤ T.out.length + 2 := by
 unfold GU
 generalize (if (!decide (o.nth = 1) || o.Bm) = true then [] else o.name) = nm
 have hs := T.Ge nm
 split
 ·omega
 ·refine Nat.le_trans (Nat.le_of_eq (CE _ _)) ?_
  split
  ·show (T.BN nm).1.out.length + 1 ≤ _; omega
  ·show (T.BN nm).1.out.length + 1 ≤ _; omega
theorem NF (T : AG) (first : Bool) (i : Int) (v : Bool) (k : Int) : (T.before first i v k).out.length = T.out.length + 1 := by
 unfold before
 split
 ·rw [FG]; rfl
 ·exact FG T k i
theorem Ws (T : AG) (o : Order) : (T.set o).out.length ≤ T.out.length + 1 := by
 unfold set
 split
 ·unfold JP
  split
  ·rw [CE]; exact Nat.le_refl _
  ·split
   ·rw [CE]; exact Nat.le_refl _
   ·refine Nat.le_trans (Nat.le_of_eq (CW _ _)) ?_
    split <;> exact Nat.le_refl _
 ·split
  ·rw [CE]; exact Nat.le_refl _
  ·split
   ·rw [CE]; exact Nat.le_refl _
   ·split
    ·exact Nat.le_of_eq (NF T _ _ _ _)
    ·exact Nat.le_of_eq (NF T _ _ _ _)
theorem Vl (T : AG) (d : Int) : (T.walk d).out.length ≤ T.out.length + 11 := by
 unfold walk
 split
 ·rw [CE]; omega
 ·split
  ·rw [CE]; omega
  ·refine Nat.le_trans (No _).2.2 ?_
   rw [CW]
   show (T.out ++ [_]).length + 1 + 9 ≤ _
   simp
theorem XV (T : AG) (o : Order) : (T.act o).out.length ≤ T.out.length + 11 := by
 unfold act
 split
 ·exact T.Vl _
 ·split
  ·exact Nat.le_trans (T.No).2.2 (by omega)
  ·split
   ·rw [(T.Ij _ _).2.2]; omega
   ·split
    ·rw [CW]; omega
    ·split
     ·rw [(T.U7).2.1, Kf]; omega
     ·split
      ·exact Nat.le_trans (T.Uy o) (by omega)
      ·split
       ·exact T.W7 o
       ·split
        ·exact T.Ty o
        ·exact Nat.le_trans (T.Ws o) (by omega)
end AG
end Go.Ing
/- A round of all fights: plain functions and laws. -/
namespace Go.Ing
open Go
theorem Cn (d : Int) : -2 ≤ d.tmod 3 ∧ d.tmod 3 ≤ 2 := by
 have h1 := Int.tmod_lt_of_pos d (show (0 : Int) < 3 by decide)
 have h2 := Int.tmod_lt_of_pos (-d) (show (0 : Int) < 3 by decide)
 rw [Int.neg_tmod] at h2
 omega
namespace AG
def FX (w : AH) (b : Int) : AG := ⟨w.C1 b { w.AW.at b with BM := 1 }, b, []⟩
def F7 (w : AH) (b : Int) : AG := ((FX w b).kind 15).GA
def It (w : AH) (b : Int) : AG := (F7 w b).DG b { (F7 w b).w.AW.at b with room := 0, BM := 10 }
def IP (w : AH) (b : Int) : AG := if decide (b < 2) = true then (F7 w b).DG b default else ((It w b).kind 17).look
def Ke (draw b : Int) : Int := 1 + (draw.tmod 3 + 3 + b).tmod 3
def CK (w : AH) (b B7 n : Int) : AG := (AG.Bk ⟨w, b, []⟩ { GH 14 with other := B7, n := n }).DG B7 { w.AW.at B7 with BM := max 0 ((w.AW.at B7).BM - n) }
def Et (draw b : Int) (s : AH × List Event) : AH × List Event :=
 if (!(s.1.AW.at b).here || decide ((s.1.AW.at b).B7 = 0)) = true then s
 else if (!(s.1.AW.at ((s.1.AW.at b).B7 - 1)).here || !decide ((s.1.AW.at ((s.1.AW.at b).B7 - 1)).room = (s.1.AW.at b).room)) = true then (s.1.C1 b { s.1.AW.at b with B7 := 0 }, s.2)
 else if decide (((CK s.1 b ((s.1.AW.at b).B7 - 1) (Ke draw b)).w.AW.at ((s.1.AW.at b).B7 - 1)).BM = 0) = true then ((IP (CK s.1 b ((s.1.AW.at b).B7 - 1) (Ke draw b)).w ((s.1.AW.at b).B7 - 1)).w, (s.2 ++ (CK s.1 b ((s.1.AW.at b).B7 - 1) (Ke draw b)).out) ++ (IP (CK s.1 b ((s.1.AW.at b).B7 - 1) (Ke draw b)).w ((s.1.AW.at b).B7 - 1)).out)
 else ((CK s.1 b ((s.1.AW.at b).B7 - 1) (Ke draw b)).w, s.2 ++ (CK s.1 b ((s.1.AW.at b).B7 - 1) (Ke draw b)).out)
def EH (X : AH) (draw : Int) : Nat → AH × List Event
 | 0 => (X, [])
 | k + 1 => Et draw k (EH X draw k)
def Ch (X : AH) (draw : Int) : AH × List Event × Int := if (!X.Bu) = true then (X, [], 2) else ((EH X draw 6).1, (EH X draw 6).2, 0)
theorem HW {X : AH} {draw k : Int} (h : 0 ≤ k) : EH X draw (k + 1).toNat = Et draw k (EH X draw k.toNat) := by
 obtain ⟨m, rfl⟩ := Int.eq_ofNat_of_zero_le h
 rfl
theorem Mk {draw b : Int} (h : 0 ≤ b) : 1 ≤ Ke draw b ∧ Ke draw b ≤ 3 := by
 unfold Ke
 have := Cn draw
 have h2 : 0 ≤ draw.tmod 3 + 3 + b := by omega
 have h3 := Int.tmod_nonneg (a := draw.tmod 3 + 3 + b) 3 h2
 have h4 := Int.tmod_lt_of_pos (draw.tmod 3 + 3 + b) (show (0 : Int) < 3 by decide)
 omega
structure Xm (x : Am) : Prop where
 room : 0 ≤ x.room ∧ x.room < 6
 BM : 0 ≤ x.BM ∧ x.BM ≤ 10
 B7 : 0 ≤ x.B7 ∧ x.B7 ≤ 6
 off : x.here = false → x.B7 = 0
 alive : x.here = decide (0 < x.BM)
theorem ZY {x : Am} (h : AH.DY x = false) : Xm x := by
 simp only [AH.DY, Bool.or_eq_false_iff, decide_eq_false_iff_not, Bool.and_eq_false_iff, Bool.not_eq_false', bne_eq_false_iff_eq] at h
 obtain ⟨⟨⟨⟨⟨⟨⟨q1, q2⟩, q3⟩, q4⟩, q5⟩, q6⟩, q7⟩, q8⟩ := h
 refine ⟨by omega, by omega, by omega, fun e => ?_, q8⟩
 rcases q7 with q | q
 ·rw [e] at q; cases q
 ·exact of_decide_eq_true q
theorem Z6 {x : Am} (h : Xm x) : AH.DY x = false := by
 have h1 := h.room; have h2 := h.BM; have h3 := h.B7
 simp only [AH.DY, Bool.or_eq_false_iff, decide_eq_false_iff_not, Bool.and_eq_false_iff, Bool.not_eq_false', bne_eq_false_iff_eq]
 refine ⟨⟨⟨⟨⟨⟨⟨by omega, by omega⟩, by omega⟩, by omega⟩, by omega⟩, by omega⟩, ?_⟩, h.alive⟩
 cases hh : x.here with
 | true => exact .inl rfl
 | false => exact .inr (decide_eq_true (h.off hh))
theorem HP {X : AH} (h : X.Bu = true) {b : Int} (h0 : 0 ≤ b) (h6 : b < 6) : Xm (X.AW.at b) := ZY (AH.Fc h h0 h6)
theorem JA {X : AH} (h : X.Bu = true) {b : Int} (h0 : 0 ≤ b) (h6 : b < 6) {x : Am} (hx : Xm x) (hh : (X.AW.at b).here = true → x.here = true) : (X.C1 b x).Bu = true :=
 AH.Jc h h0 h6 (Z6 hx) fun i i0 i9 e1 e2 => by
  rcases (AH.LW h i0 i9).Cr with ⟨a, _⟩ | ⟨_, _, a⟩ | ⟨a, _⟩
  ·omega
  ·rw [e2] at a; exact hh a
  ·omega
theorem Us (X : AH) (b : Int) (x y : Am) : (X.C1 b x).C1 b y = X.C1 b y := by
 unfold AH.C1
 show ({ X with AW := (X.AW.put b x).put b y } : AH) = _
 rw [Vector.EY]
section
variable {w : AH} {b B7 n : Int} (hg : w.Bu = true) (hw : w.D3) (f0 : 0 ≤ B7) (f6 : B7 < 6) (hh : (w.AW.at B7).here = true)
include hg hw f0 f6 hh
theorem KS : (FX (CK w b B7 n).w B7).Fit := by
 have e : (CK w b B7 n).w.C1 B7 { (CK w b B7 n).w.AW.at B7 with BM := 1 } = w.C1 B7 { w.AW.at B7 with BM := 1 } := by
  show (w.C1 B7 _).C1 B7 { (w.C1 B7 _).AW.at B7 with BM := 1 } = _
  rw [Us, AH.Eg f0 f6]
 have k := HP hg f0 f6
 refine ⟨⟨f0, f6⟩, ?_, ?_, ?_⟩
 ·show ((CK w b B7 n).w.C1 B7 _).D3
  rw [e]; exact ET hw (hw.be B7)
 ·show ((CK w b B7 n).w.C1 B7 _).Bu = true
  rw [e]
  exact JA hg f0 f6 ⟨k.room, ⟨show (0 : Int) ≤ 1 by decide, show (1 : Int) ≤ 10 by decide⟩, k.B7, k.off, by rw [show ({ w.AW.at B7 with BM := 1 } : Am).here = true from hh]; rfl⟩ fun _ => hh
 ·show (((CK w b B7 n).w.C1 B7 _).AW.at B7).here = true
  rw [e, AH.Eg f0 f6]; exact hh
theorem Qg (hn : 0 < (w.AW.at B7).BM - n) (h1 : 0 ≤ n) : (CK w b B7 n).w.Bu = true ∧ (CK w b B7 n).w.D3 := by
 have k := HP hg f0 f6
 have hk := k.BM
 refine ⟨JA hg f0 f6 ⟨k.room, ⟨?_, ?_⟩, k.B7, k.off, ?_⟩ fun _ => hh, ET hw (hw.be B7)⟩
 ·show 0 ≤ max 0 ((w.AW.at B7).BM - n); omega
 ·show max 0 ((w.AW.at B7).BM - n) ≤ 10; omega
 ·show (w.AW.at B7).here = decide (0 < max 0 ((w.AW.at B7).BM - n))
  rw [hh, decide_eq_true (by omega)]
end
theorem Lj (w : AH) (b : Int) : (F7 w b).b = b ∧ (F7 w b).out = ((FX w b).kind 15).out := Rm ((FX w b).kind 15)
theorem SO (w : AH) (b : Int) : (It w b).b = b ∧ (It w b).out = ((FX w b).kind 15).out ∧ (It w b).w = (F7 w b).w.C1 b { (F7 w b).w.AW.at b with room := 0, BM := 10 } := by
 have h := Lj w b
 unfold It
 rw [(DU _ _ _).1, (DU _ _ _).2.1, (DU _ _ _).2.2]
 exact ⟨h.1, h.2, rfl⟩
theorem Wv (D : AH) {b : Int} (hb : 0 ≤ b ∧ b < 6) : ({ D with AW := (D.AW.put b { D.AW.at b with room := 0 }).put b { (D.AW.put b { D.AW.at b with room := 0 }).at b with BM := 10 } } : AH) = D.C1 b { D.AW.at b with room := 0, BM := 10 } := by
 rw [Vector.CM hb.1 hb.2, Vector.EY]; rfl
theorem Su {X F : AH} {b : Int} (h : F = ((FX X b).kind 15).GA.w) (x : Am) : (F7 X b).DG b x = ⟨F.C1 b x, b, ((FX X b).kind 15).out⟩ := by
 subst h
 have e := Lj X b
 have h1 := DU (F7 X b) b x
 cases hT : (F7 X b).DG b x with
 | mk w' b' o' =>
  rw [hT] at h1
  obtain ⟨q1, q2, q3⟩ := h1
  simp only at q1 q2 q3
  rw [q1, q2, q3, e.1, e.2]
  rfl
theorem W1 {X F : AH} {b : Int} (h : F = ((FX X b).kind 15).GA.w) : It X b = ⟨F.C1 b { F.AW.at b with room := 0, BM := 10 }, b, ((FX X b).kind 15).out⟩ := by
 have h' : (F7 X b).w = F := h.symm
 unfold It
 rw [h', Su h]
theorem QV {w : AH} {b : Int} (h : (FX w b).Fit) : GZ (FX w b) (F7 w b) ∧ ∀ j, 0 ≤ j → j < 9 → ¬ (((F7 w b).w.AX.at j).Cr = 1 ∧ ((F7 w b).w.AX.at j).at_ = b) := by
 have g1 : GZ (FX w b) ((FX w b).kind 15) := h.goes.P3 rfl rfl
 obtain ⟨g2, k⟩ := Tj g1.fit
 exact ⟨g1.trans g2, k⟩
theorem Qh {w : AH} {b : Int} (h : (FX w b).Fit) : (It w b).Fit := by
 have g := (QV h).1.fit
 have hb : 0 ≤ b ∧ b < 6 := h.b
 have e := SO w b
 have eb := (Lj w b).1
 have gb := g.b
 have gh := g.here
 rw [eb] at gb gh
 have k := HP g.gd hb.1 hb.2
 have gbr := g.br
 have ggd := g.gd
 obtain ⟨e1, _, e3⟩ := e
 generalize hD : (F7 w b).w = D at *
 have hx : (D.C1 b { D.AW.at b with room := 0, BM := 10 }).Bu = true := JA ggd hb.1 hb.2 ⟨⟨Int.le_refl _, show (0 : Int) < 6 by decide⟩, ⟨show (0 : Int) ≤ 10 by decide, show (10 : Int) ≤ 10 by decide⟩, k.B7, k.off, gh⟩ fun _ => gh
 have hy : (D.C1 b { D.AW.at b with room := 0, BM := 10 }).D3 := ET gbr (gbr.be b)
 have hz : ((D.C1 b { D.AW.at b with room := 0, BM := 10 }).AW.at b).here = true := by rw [AH.Eg hb.1 hb.2]; exact gh
 exact ⟨by rw [e1]; exact hb, by rw [e3]; exact hy, by rw [e3]; exact hx, by rw [e1, e3]; exact hz⟩
theorem PE {w : AH} {b : Int} (h : (FX w b).Fit) : (IP w b).w.Bu = true ∧ (IP w b).w.D3 ∧ (IP w b).out.length ≤ 12 := by
 have hb : 0 ≤ b ∧ b < 6 := h.b
 obtain ⟨g, hk⟩ := QV h
 unfold IP
 split
 ·rw [(DU _ _ _).2.1, (DU _ _ _).2.2]
  refine ⟨AH.Jc (X := (F7 w b).w) g.fit.gd hb.1 hb.2 (by decide) fun i i0 i9 e1 e2 => absurd ⟨e1, e2⟩ (hk i i0 i9), ET (X := (F7 w b).w) g.fit.br (by decide), ?_⟩
  rw [(Lj w b).2, Kf]
  exact (by decide : (0 : Nat) + 1 ≤ 12)
 ·have f := Qh h
  have hl := No ((It w b).kind 17)
  refine ⟨by rw [hl.1]; exact f.gd, by rw [hl.1]; exact f.br, ?_⟩
  have h2 := hl.2.2
  rw [Kf, (SO w b).2.1, Kf] at h2
  exact Nat.le_trans h2 (by decide : (0 : Nat) + 1 + 1 + 9 ≤ 12)
theorem F5 {s : AH × List Event} {draw b : Int} (hg : s.1.Bu = true) (hw : s.1.D3) (h0 : 0 ≤ b) (h6 : b < 6) : (Et draw b s).1.Bu = true ∧ (Et draw b s).1.D3 ∧ (Et draw b s).2.length ≤ s.2.length + 13 := by
 have kb := HP hg h0 h6
 have hn := Mk (draw := draw) h0
 unfold Et
 split
 ·exact ⟨hg, hw, by omega⟩
 ·rename_i h1
  simp only [Bool.or_eq_true, Bool.not_eq_true', decide_eq_true_eq, not_or, Bool.not_eq_false] at h1
  have kf := kb.B7
  split
  ·exact ⟨JA hg h0 h6 ⟨kb.room, kb.BM, ⟨Int.le_refl _, show (0 : Int) ≤ 6 by decide⟩, fun _ => rfl, kb.alive⟩ fun h => h, ET hw (hw.be b), Nat.le_add_right _ _⟩
  ·rename_i h2
   simp only [Bool.or_eq_true, Bool.not_eq_true', decide_eq_false_iff_not, not_or, Bool.not_eq_false, Decidable.not_not] at h2
   have hf := KS (b := b) (n := Ke draw b) hg hw (B7 := (s.1.AW.at b).B7 - 1) (by omega) (by omega) h2.1
   have hso : (CK s.1 b ((s.1.AW.at b).B7 - 1) (Ke draw b)).out.length = 1 := rfl
   split
   ·obtain ⟨d1, d2, d3⟩ := PE hf
    refine ⟨d1, d2, ?_⟩
    show ((s.2 ++ _) ++ _).length ≤ _
    rw [List.length_append, List.length_append, hso]; omega
   ·rename_i h3
    have h3' : ¬ ((CK s.1 b ((s.1.AW.at b).B7 - 1) (Ke draw b)).w.AW.at ((s.1.AW.at b).B7 - 1)).BM = 0 := fun e => h3 (decide_eq_true e)
    have e : ((CK s.1 b ((s.1.AW.at b).B7 - 1) (Ke draw b)).w.AW.at ((s.1.AW.at b).B7 - 1)) = { s.1.AW.at ((s.1.AW.at b).B7 - 1) with BM := max 0 ((s.1.AW.at ((s.1.AW.at b).B7 - 1)).BM - Ke draw b) } := Vector.CM (by omega) (by omega)
    rw [e] at h3'
    have h3'' : ¬ max 0 ((s.1.AW.at ((s.1.AW.at b).B7 - 1)).BM - Ke draw b) = 0 := h3'
    obtain ⟨d1, d2⟩ := Qg (b := b) (n := Ke draw b) hg hw (B7 := (s.1.AW.at b).B7 - 1) (by omega) (by omega) h2.1 (by omega) (by omega)
    refine ⟨d1, d2, ?_⟩
    show (s.2 ++ _).length ≤ _
    rw [List.length_append, hso]; omega
end AG
end Go.Ing
/- What a round takes: plain laws. -/
namespace Go.Ing
open Go
namespace AG
def Oy (v : Vector Int 6) (e : Event) : Vector Int 6 := if decide (e.kind = 14) = true then v.put e.other (v.at e.other + e.n) else v
def Ot (v : Vector Bool 6) (e : Event) : Vector Bool 6 := if decide (e.kind = 15) = true then v.put e.Ds true else v
def D1 (l : List Event) : Vector Int 6 := l.foldl Oy (Vector.replicate 6 default)
def FD (l : List Event) : Vector Bool 6 := l.foldl Ot (Vector.replicate 6 default)
theorem My (l : List Event) (e : Event) : D1 (l ++ [e]) = Oy (D1 l) e := by simp [D1]
theorem Nq (l : List Event) (e : Event) : FD (l ++ [e]) = Ot (FD l) e := by simp [FD]
def Quiet (q : List Event) : Prop := ∀ e ∈ q, e.kind ≠ 14 ∧ e.kind ≠ 15
theorem OF : ∀ {q : List Event} (v : Vector Int 6) (u : Vector Bool 6), Quiet q → q.foldl Oy v = v ∧ q.foldl Ot u = u
 | [], _, _, _ => ⟨rfl, rfl⟩
 | e :: r, v, u, h => by
  have he := h e (List.mem_cons_self ..)
  have hr : Quiet r := fun x hx => h x (List.mem_cons_of_mem _ hx)
  rw [List.foldl_cons, List.foldl_cons, Oy, if_neg (by simp [he.1]), Ot, if_neg (by simp [he.2])]
  exact OF v u hr
theorem Ql {l q : List Event} (h : Quiet q) : D1 (l ++ q) = D1 l ∧ FD (l ++ q) = FD l := by
 unfold D1 FD
 rw [List.foldl_append, List.foldl_append]
 exact OF _ _ h
theorem HN (T : AG) (e : Event) : ∃ x : Event, (T.Bk e).out = T.out ++ [x] ∧ x.kind = e.kind ∧ x.Ds = T.b ∧ x.other = e.other ∧ x.n = e.n := by
 obtain ⟨a1, a2, _, a4, a5, _⟩ := AH.Lu T.w (T.D4 e) 6
 have e2 : (T.D4 e).kind = e.kind ∧ (T.D4 e).Ds = T.b ∧ (T.D4 e).other = e.other ∧ (T.D4 e).n = e.n := by
  unfold D4
  split <;> exact ⟨rfl, rfl, rfl, rfl⟩
 exact ⟨_, rfl, a1.trans e2.1, a2.trans e2.2.1, a4.trans e2.2.2.1, a5.trans e2.2.2.2⟩
def MN (T T' : AG) : Prop := ∃ q, T'.out = T.out ++ q ∧ ∀ e ∈ q, e.kind = 16
theorem MN.refl (T : AG) : MN T T := ⟨[], by simp, fun _ h => by cases h⟩
theorem MN.tell {T T' : AG} (h : MN T T') (s : As) : MN T (T'.tell s) := by
 obtain ⟨q, e, k⟩ := h
 obtain ⟨x, e2, k2, _⟩ := HN T' { GH 16 with text := s }
 refine ⟨q ++ [x], ?_, fun y hy => ?_⟩
 ·show (T'.Bk _).out = _
  rw [e2, e, List.append_assoc]
 ·rcases List.mem_append.1 hy with hy | hy
  ·exact k y hy
  ·have : y = x := by simpa using hy
   rw [this]; exact k2
theorem MN.look {T T' : AG} (h : MN T T') : MN T T'.look := by
 have hk : ∀ {T'' : AG}, MN T T'' → ∀ k : Nat, MN T (T''.Fa k) := fun {T''} h' k => by
  induction k with
  | zero => exact h'
  | succ k ih =>
   unfold Fa
   split
   ·exact ih.tell _
   ·exact ih
 unfold AG.look
 split
 ·exact h.tell _
 ·refine hk ?_ 6
  have ha : MN T T'.Jz := (h.tell _).tell _
  unfold D2
  split
  ·exact ha.tell _
  ·exact ha
/-! #### who is struck, who dies -/
def calm (b : Int) (x : Am) : Am := { x with B7 := if x.B7 = b + 1 then 0 else x.B7 }
theorem VC {b : Int} {x : Am} (h : x.B7 = b + 1) : calm b x = { x with B7 := 0 } := by unfold calm; rw [if_pos h]
theorem VN {b : Int} {x : Am} (h : ¬ x.B7 = b + 1) : calm b x = x := by unfold calm; rw [if_neg h]
theorem Q4 (T : AG) (hb : 0 ≤ T.b) : ∀ k : Nat, k ≤ 6 → ∀ c : Int, 0 ≤ c → c < 6 → (T.Dy k).w.AW.at c = if c < (k : Int) then calm T.b (T.w.AW.at c) else T.w.AW.at c
 | 0, _, c, c0, _ => by rw [if_neg (by omega)]; rfl
 | k + 1, hk, c, c0, c6 => by
  have ih := Q4 T hb k (by omega)
  have ihk := ih k (by omega) (by omega)
  rw [if_neg (by omega)] at ihk
  have ihc := ih c c0 c6
  unfold Dy
  rw [ihk]
  by_cases e : (T.w.AW.at (k : Int)).B7 = T.b + 1
  ·rw [if_pos (decide_eq_true e)]
   show (((T.Dy k).w.AW.put (k : Int) { (T.Dy k).w.AW.at (k : Int) with B7 := 0 }).at c) = _
   rw [J6 _ _ _ _ (by omega) (by omega) c0]
   by_cases ec : c = (k : Int)
   ·subst ec
    rw [if_pos rfl, if_pos (by omega), ihk, VC e]
   ·rw [if_neg ec, ihc]
    by_cases hl : c < (k : Int)
    ·rw [if_pos hl, if_pos (by omega)]
    ·rw [if_neg hl, if_neg (by omega)]
  ·rw [if_neg (by simpa using e), ihc]
   by_cases hl : c < (k : Int)
   ·rw [if_pos hl, if_pos (by omega)]
   ·rw [if_neg hl]
    by_cases ec : c = (k : Int)
    ·subst ec
     rw [if_pos (by omega), VN e]
    ·rw [if_neg (by omega)]
theorem Nu : ∀ (l : List Int) (T : AG), (T.Ck l).w.AW = T.w.AW
 | [], _ => rfl
 | i :: r, T => (Nu r (T.Eh i)).trans rfl
theorem Ww (T : AG) (hb : 0 ≤ T.b ∧ T.b < 6) {c : Int} (c0 : 0 ≤ c) (c6 : c < 6) : T.GA.w.AW.at c = if c = T.b then { T.w.AW.at c with B7 := 0 } else calm T.b (T.w.AW.at c) := by
 have hd := Nu T.own T
 have hdb := (IG T.own T).1
 have hk := Q4 (T.Ck T.own) (by rw [hdb]; exact hb.1) 6 (Nat.le_refl _)
 rw [hd, hdb] at hk
 rw [Mn]
 generalize (T.Ck T.own).Dy 6 = D at *
 show (D.w.AW.put T.b { D.w.AW.at T.b with B7 := 0 }).at c = _
 rw [J6 _ _ _ _ hb.1 hb.2 c0]
 have hc := hk c c0 c6
 rw [if_pos (by omega)] at hc
 by_cases e : c = T.b
 ·rw [if_pos e, if_pos e, ← e, hc]; rfl
 ·rw [if_neg e, if_neg e, hc]
structure ZJ (w w' : AH) (f : Int) : Prop where
 ag : ∀ c, 0 ≤ c → c < 6 → c ≠ f → (w'.AW.at c).BM = (w.AW.at c).BM ∧ (w'.AW.at c).room = (w.AW.at c).room ∧ (w'.AW.at c).here = (w.AW.at c).here ∧ ((w'.AW.at c).B7 = (w.AW.at c).B7 ∨ (w'.AW.at c).B7 = 0) ∧ (w'.AW.at c).B7 ≠ f + 1
 here : (w'.AW.at f).here = decide (2 ≤ f)
 B7 : (w'.AW.at f).B7 = 0
theorem S3 {w : AH} {f c : Int} (hf : 0 ≤ f ∧ f < 6) (c0 : 0 ≤ c) (c6 : c < 6) : (F7 w f).w.AW.at c = if c = f then { (FX w f).w.AW.at c with B7 := 0 } else calm f ((FX w f).w.AW.at c) := Ww ((FX w f).kind 15) hf c0 c6
theorem Wn {w : AH} {f c : Int} (hf : 0 ≤ f ∧ f < 6) (c0 : 0 ≤ c) (c6 : c < 6) (hn : c ≠ f) : (F7 w f).w.AW.at c = calm f (w.AW.at c) := by
 have h0 : (FX w f).w.AW.at c = w.AW.at c := AH.HZ hf.1 hf.2 c0 hn _
 rw [S3 hf c0 c6, h0, if_neg hn]
theorem XZ (f : Int) (hf : 0 ≤ f) (x : Am) : (calm f x).BM = x.BM ∧ (calm f x).room = x.room ∧ (calm f x).here = x.here ∧ ((calm f x).B7 = x.B7 ∨ (calm f x).B7 = 0) ∧ (calm f x).B7 ≠ f + 1 := by
 by_cases e : x.B7 = f + 1
 ·rw [VC e]
  refine ⟨rfl, rfl, rfl, .inr rfl, ?_⟩
  show (0 : Int) ≠ f + 1
  omega
 ·rw [VN e]
  exact ⟨rfl, rfl, rfl, .inl rfl, e⟩
theorem TH {w w1 w' : AH} {f : Int} (hf : 0 ≤ f ∧ f < 6) (ho : ∀ c, 0 ≤ c → c < 6 → c ≠ f → w1.AW.at c = calm f (w.AW.at c)) (he : ∀ c, 0 ≤ c → c < 6 → c ≠ f → w'.AW.at c = w1.AW.at c) (h1 : (w'.AW.at f).here = decide (2 ≤ f)) (h2 : (w'.AW.at f).B7 = 0) : ZJ w w' f := by
 refine ⟨fun c c0 c6 hn => ?_, h1, h2⟩
 rw [he c c0 c6 hn, ho c c0 c6 hn]
 exact XZ f hf.1 _
theorem Ux {w : AH} {f : Int} (h : (FX w f).Fit) : ZJ w (IP w f).w f ∧ ∃ x q, (IP w f).out = x :: q ∧ x.kind = 15 ∧ x.Ds = f ∧ Quiet q := by
 have hf : 0 ≤ f ∧ f < 6 := h.b
 have ho : ∀ c, 0 ≤ c → c < 6 → c ≠ f → (F7 w f).w.AW.at c = calm f (w.AW.at c) := fun c c0 c6 hn => Wn hf c0 c6 hn
 obtain ⟨x, e1, k1, k2, _⟩ := HN (FX w f) (GH 15)
 have hout : ((FX w f).kind 15).out = [x] := e1
 have g := (QV h).1.fit
 have gh := g.here
 rw [(Lj w f).1] at gh
 have hme := S3 (w := w) hf hf.1 hf.2
 rw [if_pos rfl] at hme
 have hfoe : ((F7 w f).w.AW.at f).B7 = 0 := by rw [hme]
 unfold IP
 split
 ·rename_i c2
  have c2' := of_decide_eq_true c2
  rw [(DU _ _ _).2.1, (DU _ _ _).2.2, (Lj w f).2, hout]
  generalize (F7 w f).w = D at *
  refine ⟨TH (w1 := D) hf ho (fun c c0 _ hn => AH.HZ hf.1 hf.2 c0 hn _) ?_ ?_, x, [], rfl, k1, k2, fun e he => by cases he⟩
  ·show ((D.C1 f default).AW.at f).here = _
   rw [AH.Eg hf.1 hf.2, decide_eq_false (by omega)]; rfl
  ·show ((D.C1 f default).AW.at f).B7 = _
   rw [AH.Eg hf.1 hf.2]; rfl
 ·rename_i c2
  have c2' : ¬ f < 2 := fun e => c2 (decide_eq_true e)
  have hl := No ((It w f).kind 17)
  have e2 := SO w f
  obtain ⟨y, e3, k3, _⟩ := HN (It w f) (GH 17)
  obtain ⟨q, e4, k4⟩ := (MN.refl ((It w f).kind 17)).look
  have e3' : ((It w f).kind 17).out = [x] ++ [y] := by rw [show ((It w f).kind 17).out = _ from e3, e2.2.1, hout]
  rw [hl.1, e4, e3', show ((It w f).kind 17).w = (It w f).w from rfl, e2.2.2]
  generalize (F7 w f).w = D at *
  refine ⟨TH (w1 := D) hf ho (fun c c0 _ hn => AH.HZ hf.1 hf.2 c0 hn _) ?_ ?_, x, y :: q, rfl, k1, k2, fun e he => ?_⟩
  ·rw [AH.Eg hf.1 hf.2, decide_eq_true (by omega)]; exact gh
  ·rw [AH.Eg hf.1 hf.2]; exact hfoe
  ·rcases List.mem_cons.1 he with he | he
   ·rw [he, k3]; exact ⟨by decide, by decide⟩
   ·rw [k4 e he]; exact ⟨by decide, by decide⟩
/-! #### the count of a round -/
def bF (e : Event) : Prop := (e.kind = 14 → 1 ≤ e.n ∧ e.n ≤ 3 ∧ 0 ≤ e.other ∧ e.other < 6) ∧ (e.kind = 15 → 0 ≤ e.Ds ∧ e.Ds < 6)
structure SE (X : AH) (s : AH × List Event) : Prop where
 ev : ∀ e ∈ s.2, bF e
 un : ∀ c, 0 ≤ c → c < 6 → (FD s.2).at c = false → (s.1.AW.at c).BM = (X.AW.at c).BM - (D1 s.2).at c ∧ (s.1.AW.at c).room = (X.AW.at c).room ∧ (s.1.AW.at c).here = (X.AW.at c).here
 di : ∀ c, 0 ≤ c → c < 6 → (FD s.2).at c = true → (X.AW.at c).BM ≤ (D1 s.2).at c ∧ (s.1.AW.at c).here = decide (2 ≤ c) ∧ (s.1.AW.at c).B7 = 0 ∧ ∀ a, 0 ≤ a → a < 6 → (s.1.AW.at a).B7 ≠ c + 1
theorem Wi {α : Type} [Inhabited α] (c : Int) (c0 : 0 ≤ c) (c6 : c < 6) : (Vector.replicate 6 (default : α)).at c = default := by
 have : c = 0 ∨ c = 1 ∨ c = 2 ∨ c = 3 ∨ c = 4 ∨ c = 5 := by omega
 rcases this with rfl | rfl | rfl | rfl | rfl | rfl <;> rfl
theorem SE.start (X : AH) : SE X (X, []) := by
 have hh : ∀ c, 0 ≤ c → c < 6 → (D1 []).at c = 0 := fun c c0 c6 => Wi c c0 c6
 have hd : ∀ c, 0 ≤ c → c < 6 → (FD []).at c = false := fun c c0 c6 => Wi c c0 c6
 refine ⟨fun _ h => (by cases h), fun c c0 c6 _ => ⟨?_, rfl, rfl⟩, fun c c0 c6 h => ?_⟩
 ·show (X.AW.at c).BM = (X.AW.at c).BM - (D1 []).at c
  rw [hh c c0 c6]; omega
 ·have h' : (FD []).at c = true := h
  rw [hd c c0 c6] at h'; cases h'
theorem SE.next {X : AH} {s : AH × List Event} {draw b : Int} (h : SE X s) (hg : s.1.Bu = true) (hw : s.1.D3) (h0 : 0 ≤ b) (h6 : b < 6) : SE X (Et draw b s) := by
 have kb := HP hg h0 h6
 have hn := Mk (draw := draw) h0
 unfold Et
 split
 ·exact h
 ·rename_i h1
  simp only [Bool.or_eq_true, Bool.not_eq_true', decide_eq_true_eq, not_or, Bool.not_eq_false] at h1
  have kf := kb.B7
  split
  ·have hb : ∀ c, 0 ≤ c → ((s.1.C1 b { s.1.AW.at b with B7 := 0 }).AW.at c).BM = (s.1.AW.at c).BM ∧ ((s.1.C1 b { s.1.AW.at b with B7 := 0 }).AW.at c).room = (s.1.AW.at c).room ∧ ((s.1.C1 b { s.1.AW.at b with B7 := 0 }).AW.at c).here = (s.1.AW.at c).here ∧ (((s.1.C1 b { s.1.AW.at b with B7 := 0 }).AW.at c).B7 = (s.1.AW.at c).B7 ∨ ((s.1.C1 b { s.1.AW.at b with B7 := 0 }).AW.at c).B7 = 0) := fun c c0 => by
    by_cases e : c = b
    ·subst e; rw [AH.Eg h0 h6]; exact ⟨rfl, rfl, rfl, .inr rfl⟩
    ·rw [AH.HZ h0 h6 c0 e]; exact ⟨rfl, rfl, rfl, .inl rfl⟩
   refine ⟨h.ev, fun c c0 c6 hd => ?_, fun c c0 c6 hd => ?_⟩
   ·obtain ⟨q1, q2, q3⟩ := h.un c c0 c6 hd
    obtain ⟨r1, r2, r3, _⟩ := hb c c0
    exact ⟨r1.trans q1, r2.trans q2, r3.trans q3⟩
   ·obtain ⟨q1, q2, q3, q4⟩ := h.di c c0 c6 hd
    obtain ⟨_, _, r3, r4⟩ := hb c c0
    refine ⟨q1, r3.trans q2, ?_, fun a a0 a6 => ?_⟩
    ·rcases r4 with r4 | r4
     ·exact r4.trans q3
     ·exact r4
    ·have := q4 a a0 a6
     rcases (hb a a0).2.2.2 with r | r
     ·rw [r]; exact this
     ·rw [r]; omega
  ·rename_i h2
   simp only [Bool.or_eq_true, Bool.not_eq_true', decide_eq_false_iff_not, not_or, Bool.not_eq_false, Decidable.not_not] at h2
   generalize hfo : (s.1.AW.at b).B7 - 1 = f at *
   generalize Ke draw b = n at *
   have f0 : 0 ≤ f := by omega
   have f6 : f < 6 := by omega
   have hf := KS (b := b) (n := n) hg hw (B7 := f) f0 f6 h2.1
   have kf2 := (HP hg f0 f6).BM
   obtain ⟨x, ex, k1, k2, k3, k4⟩ := HN ⟨s.1, b, []⟩ { GH 14 with other := f, n := n }
   have hso : (CK s.1 b f n).out = [x] := ex
   have hsw : (CK s.1 b f n).w = s.1.C1 f { s.1.AW.at f with BM := max 0 ((s.1.AW.at f).BM - n) } := rfl
   have k1' : x.kind = 14 := k1
   have k3' : x.other = f := k3
   have k4' : x.n = n := k4
   have hH : D1 (s.2 ++ [x]) = (D1 s.2).put f ((D1 s.2).at f + n) := by rw [My, Oy, if_pos (decide_eq_true k1'), k3', k4']
   have hD : FD (s.2 ++ [x]) = FD s.2 := by rw [Nq, Ot, if_neg (by rw [k1']; decide)]
   have hnd : (FD s.2).at f = false := by
    cases hh : (FD s.2).at f with
    | false => rfl
    | true => exact absurd (by omega : (s.1.AW.at b).B7 = f + 1) ((h.di f f0 f6 hh).2.2.2 b h0 h6)
   have hfe := h.un f f0 f6 hnd
   have hxe : bF x := ⟨fun _ => by rw [k3', k4']; omega, fun e => by rw [k1'] at e; cases e⟩
   have hev : ∀ e ∈ s.2 ++ [x], bF e := fun e he => by
    rcases List.mem_append.1 he with he | he
    ·exact h.ev e he
    ·have : e = x := by simpa using he
     rw [this]; exact hxe
   have hwc : ∀ c, 0 ≤ c → c ≠ f → (CK s.1 b f n).w.AW.at c = s.1.AW.at c := fun c c0 hne => by rw [hsw]; exact AH.HZ f0 f6 c0 hne _
   have hwf : (CK s.1 b f n).w.AW.at f = { s.1.AW.at f with BM := max 0 ((s.1.AW.at f).BM - n) } := by rw [hsw]; exact AH.Eg f0 f6 _
   have hwa : ∀ a, 0 ≤ a → ((CK s.1 b f n).w.AW.at a).B7 = (s.1.AW.at a).B7 := fun a a0 => by
    by_cases e : a = f
    ·rw [e, hwf]
    ·rw [hwc a a0 e]
   have hHc : ∀ c, 0 ≤ c → c ≠ f → ((D1 s.2).put f ((D1 s.2).at f + n)).at c = (D1 s.2).at c := fun c c0 hne => Vector.E1 f0 f6 c0 hne
   have hHf : ((D1 s.2).put f ((D1 s.2).at f + n)).at f = (D1 s.2).at f + n := Vector.CM f0 f6
   split
   ·rename_i h3
    have h3' := of_decide_eq_true h3
    rw [hwf] at h3'
    have h3'' : max 0 ((s.1.AW.at f).BM - n) = 0 := h3'
    obtain ⟨dd, y, q, e2, y1, y2, y3⟩ := Ux hf
    rw [e2, hso]
    generalize (IP (CK s.1 b f n).w f).w = W at *
    have hA : D1 (s.2 ++ [x] ++ y :: q) = (D1 s.2).put f ((D1 s.2).at f + n) ∧ FD (s.2 ++ [x] ++ y :: q) = (FD s.2).put f true := by
     have hq := Ql (l := s.2 ++ [x] ++ [y]) y3
     rw [show s.2 ++ [x] ++ y :: q = s.2 ++ [x] ++ [y] ++ q by simp, hq.1, hq.2, My, Nq, hH, hD, Oy, if_neg (by rw [y1]; decide), Ot, if_pos (decide_eq_true y1), y2]
     exact ⟨rfl, rfl⟩
    refine ⟨fun e he => ?_, fun c c0 c6 hd => ?_, fun c c0 c6 hd => ?_⟩
    ·rcases List.mem_append.1 he with he | he
     ·exact hev e he
     ·rcases List.mem_cons.1 he with he | he
      ·rw [he]; exact ⟨fun e => absurd (y1.symm.trans e) (by decide), fun _ => by rw [y2]; exact ⟨f0, f6⟩⟩
      ·exact ⟨fun e' => absurd e' (y3 e he).1, fun e' => absurd e' (y3 e he).2⟩
    ·have hd' : ((FD s.2).put f true).at c = false := by rw [← hA.2]; exact hd
     have hne : c ≠ f := fun e => by
      rw [e, Vector.CM f0 f6] at hd'; cases hd'
     rw [Vector.E1 f0 f6 c0 hne] at hd'
     obtain ⟨q1, q2, q3⟩ := h.un c c0 c6 hd'
     obtain ⟨r1, r2, r3, _⟩ := dd.ag c c0 c6 hne
     rw [hwc c c0 hne] at r1 r2 r3
     show (W.AW.at c).BM = (X.AW.at c).BM - (D1 (s.2 ++ [x] ++ y :: q)).at c ∧ _
     rw [hA.1, hHc c c0 hne]
     exact ⟨r1.trans q1, r2.trans q2, r3.trans q3⟩
    ·have hd' : ((FD s.2).put f true).at c = true := by rw [← hA.2]; exact hd
     show (X.AW.at c).BM ≤ (D1 (s.2 ++ [x] ++ y :: q)).at c ∧ _
     rw [hA.1]
     by_cases hne : c = f
     ·subst hne
      rw [hHf]
      refine ⟨by omega, dd.here, dd.B7, fun a a0 a6 => ?_⟩
      by_cases ea : a = c
      ·rw [ea, dd.B7]; omega
      ·exact (dd.ag a a0 a6 ea).2.2.2.2
     ·rw [Vector.E1 f0 f6 c0 hne] at hd'
      rw [hHc c c0 hne]
      obtain ⟨q1, q2, q3, q4⟩ := h.di c c0 c6 hd'
      obtain ⟨_, _, r3, r4, _⟩ := dd.ag c c0 c6 hne
      rw [hwc c c0 hne] at r3 r4
      refine ⟨q1, r3.trans q2, ?_, fun a a0 a6 => ?_⟩
      ·rcases r4 with r4 | r4
       ·exact r4.trans q3
       ·exact r4
      ·by_cases ea : a = f
       ·rw [ea, dd.B7]; omega
       ·have := q4 a a0 a6
        have r := (dd.ag a a0 a6 ea).2.2.2.1
        rw [hwc a a0 ea] at r
        rcases r with r | r
        ·rw [r]; exact this
        ·rw [r]; omega
   ·rename_i h3
    have h3' : ¬ ((CK s.1 b f n).w.AW.at f).BM = 0 := fun e => h3 (decide_eq_true e)
    rw [hwf] at h3'
    have h3'' : ¬ max 0 ((s.1.AW.at f).BM - n) = 0 := h3'
    rw [hso]
    refine ⟨hev, fun c c0 c6 hd => ?_, fun c c0 c6 hd => ?_⟩
    ·have hd' : (FD s.2).at c = false := by rw [← hD]; exact hd
     show ((CK s.1 b f n).w.AW.at c).BM = (X.AW.at c).BM - (D1 (s.2 ++ [x])).at c ∧ _
     rw [hH]
     by_cases hne : c = f
     ·subst hne
      rw [hHf, hwf]
      refine ⟨?_, hfe.2.1, hfe.2.2⟩
      show max 0 ((s.1.AW.at c).BM - n) = _
      have := hfe.1
      omega
     ·rw [hHc c c0 hne, hwc c c0 hne]
      exact h.un c c0 c6 hd'
    ·have hd' : (FD s.2).at c = true := by rw [← hD]; exact hd
     have hne : c ≠ f := fun e => by rw [e, hnd] at hd'; cases hd'
     show (X.AW.at c).BM ≤ (D1 (s.2 ++ [x])).at c ∧ _
     rw [hH, hHc c c0 hne]
     obtain ⟨q1, q2, q3, q4⟩ := h.di c c0 c6 hd'
     refine ⟨q1, by rw [hwc c c0 hne]; exact q2, by rw [hwc c c0 hne]; exact q3, fun a a0 a6 => by rw [hwa a a0]; exact q4 a a0 a6⟩
theorem Oh {X : AH} {draw : Int} (hg : X.Bu = true) (hw : X.D3) : ∀ k : Nat, k ≤ 6 → SE X (EH X draw k) ∧ (EH X draw k).1.Bu = true ∧ (EH X draw k).1.D3 ∧ (EH X draw k).2.length ≤ 13 * k
 | 0, _ => ⟨.start X, hg, hw, Nat.le_refl _⟩
 | k + 1, hk => by
  obtain ⟨h1, h2, h3, h4⟩ := Oh hg hw k (by omega)
  obtain ⟨g1, g2, g3⟩ := F5 (draw := draw) (b := (k : Int)) h2 h3 (by omega) (by omega)
  exact ⟨h1.next h2 h3 (by omega) (by omega), g1, g2, by show (Et draw k (EH X draw k)).2.length ≤ _; omega⟩
theorem VS {X : AH} {draw : Int} (hw : X.D3) (h : (Ch X draw).2.2 = 0) : SE X ((Ch X draw).1, (Ch X draw).2.1) ∧ (Ch X draw).1.Bu = true ∧ (Ch X draw).2.1.length ≤ 78 := by
 unfold Ch at h ⊢
 split at h
 ·cases h
 ·rename_i h1
  rw [if_neg h1]
  obtain ⟨q1, q2, _, q4⟩ := Oh (draw := draw) (by simpa using h1) hw 6 (Nat.le_refl _)
  generalize EH X draw 6 = S at *
  exact ⟨q1, q2, Nat.le_trans q4 (by decide)⟩
end AG
end Go.Ing
/- The document's side of what beings do: plain functions and laws. -/
namespace Go.Ing
open Go
namespace AG
/-! #### names of players -/
def low (c : UInt8) : Bool := decide ((c.toNat : Int) < 97) || decide (122 < (c.toNat : Int))
def HG (s : As) (k : Nat) : Bool := (s.drop k).all fun c => !low c
theorem Ur {s : As} {k : Int} (h0 : 0 ≤ k) (h1 : k < s.length) : HG s k.toNat = (!low (s.getD k.toNat 0) && HG s (k + 1).toNat) := by
 have hk : k.toNat < s.length := by omega
 unfold HG
 rw [List.drop_eq_getElem_cons hk, show (k + 1).toNat = k.toNat + 1 by omega, List.getD_eq_getElem?_getD, List.getElem?_eq_getElem hk]
 rfl
theorem WV (s : As) : HG s (s.length : Int).toNat = true := by
 unfold HG
 rw [show (s.length : Int).toNat = s.length by omega, List.drop_length]; rfl
def VU : As := [115, 111, 109, 101, 111, 110, 101]
def bR : As := [121, 111, 117]
def Jb (s : As) : Bool := HG s 0 && (decide (1 ≤ (s.length : Int)) && decide ((s.length : Int) ≤ 8) && !decide (s = VU) && !decide (s = bR))
/-! #### who enters -/
def Kh (X : AH) (s : As) (k : Int) : Bool := (X.AW.at k).here && decide ((X.AW.at k).name = s)
def DN (X : AH) : Nat → Int
 | 0 => -1
 | n + 1 => if (!(X.AW.at ((5 - n : Nat) : Int)).here && decide (2 ≤ ((5 - n : Nat) : Int))) = true then ((5 - n : Nat) : Int) else DN X n
theorem NT {X : AH} {k : Int} (h0 : 0 ≤ k) (h5 : k ≤ 5) : DN X (5 - (k - 1)).toNat = if (!(X.AW.at k).here && decide (2 ≤ k)) = true then k else DN X (5 - k).toNat := by
 have e : (5 - (k - 1)).toNat = (5 - k).toNat + 1 := by omega
 rw [e, DN, show ((5 - (5 - k).toNat : Nat) : Int) = k by omega]
theorem VV {X : AH} {k : Int} (h2 : 2 ≤ k) (h5 : k ≤ 5) (h : (!(X.AW.at k).here) = false) : DN X (5 - (k - 1)).toNat = DN X (5 - k).toNat := by
 rw [NT (by omega) h5, h]; rfl
theorem UJ {X : AH} {k : Int} (h2 : 2 ≤ k) (h5 : k ≤ 5) (h : (!(X.AW.at k).here) = true) : DN X (5 - (k - 1)).toNat = k := by
 rw [NT (by omega) h5, h, decide_eq_true h2]; rfl
theorem Th (X : AH) : DN X 6 = DN X 4 := by
 have h1 : DN X 6 = DN X 5 := by
  rw [DN, if_neg (by simp)]
 have h2 : DN X 5 = DN X 4 := by
  rw [DN, if_neg (by simp)]
 rw [h1, h2]
theorem O5 (X : AH) : ∀ n : Nat, n ≤ 6 → DN X n = -1 ∨ (2 ≤ DN X n ∧ DN X n ≤ 5)
 | 0, _ => .inl rfl
 | n + 1, h => by
  unfold DN
  split
  ·rename_i c
   rw [Bool.and_eq_true] at c
   have := of_decide_eq_true c.2
   exact .inr ⟨this, by omega⟩
  ·exact O5 X n (by omega)
def KL (s : As) : Am := { (default : Am) with name := s, here := true, BM := 10 }
def Vd (X : AH) (s : As) (b : Int) : AG := ((⟨X.C1 b (KL s), b, []⟩ : AG).kind 17).look
def Bi (X : AH) (s : As) : AH × Int × List Event × Int :=
 if (!X.Bu) = true then (X, 0, [], 2)
 else if (!Jb s) = true then (X, 0, [], 1)
 else if (!CA 6 (fun k => !Kh X s k) 6) = true then (X, 0, [], 1)
 else if decide (DN X 6 < 0) = true then (X, 0, [], 4)
 else ((Vd X s (DN X 6)).w, DN X 6, (Vd X s (DN X 6)).out, 0)
theorem Oz (X : AH) (s : As) : (Bi X s).2.2.1.length ≤ 10 := by
 unfold Bi
 split
 ·exact Nat.zero_le _
 ·split
  ·exact Nat.zero_le _
  ·split
   ·exact Nat.zero_le _
   ·split
    ·exact Nat.zero_le _
    ·exact (No _).2.2
theorem UE {X : AH} {s : As} {b : Int} (hg : X.Bu = true) (hw : X.D3) (hs : s.length ≤ 140737488351232) (h0 : 0 ≤ b) (h6 : b < 6) : Fit ⟨X.C1 b (KL s), b, []⟩ :=
 ⟨⟨h0, h6⟩, ET hw hs, JA hg h0 h6 ⟨⟨Int.le_refl _, show (0 : Int) < 6 by decide⟩, ⟨show (0 : Int) ≤ 10 by decide, show (10 : Int) ≤ 10 by decide⟩, ⟨Int.le_refl _, show (0 : Int) ≤ 6 by decide⟩, fun _ => rfl, rfl⟩ fun _ => rfl, by
  show ((X.C1 b (KL s)).AW.at b).here = true
  rw [AH.Eg h0 h6]; rfl⟩
end AG
end Go.Ing
/- A round, as the document says it: plain laws. -/
namespace Go.Ing
open Go
theorem Sw {α : Type} [Inhabited α] {n : Nat} {v u : Vector α n} (h : ∀ i : Int, 0 ≤ i → i < n → v.at i = u.at i) : v = u := by
 apply Vector.ext
 intro i hi
 have := h (i : Int) (by omega) (by omega)
 unfold Vector.at at this
 rw [List.getD_eq_getElem?_getD, List.getD_eq_getElem?_getD] at this
 simpa [hi] using this
namespace AG
def pre (o : List Event) (T : AG) : AG := ⟨T.w, T.b, o ++ T.out⟩
theorem QU (T : AG) {i : Int} (h0 : 0 ≤ i) (h9 : i < 9) (c : decide ((((T.w.AX.put i { T.w.AX.at i with Cr := 0 }).put i { (T.w.AX.put i { T.w.AX.at i with Cr := 0 }).at i with at_ := (T.w.AW.at T.b).room }).at i).kind = 2) = true) : ({ T.w with AX := ((T.w.AX.put i { T.w.AX.at i with Cr := 0 }).put i { (T.w.AX.put i { T.w.AX.at i with Cr := 0 }).at i with at_ := (T.w.AW.at T.b).room }).put i { ((T.w.AX.put i { T.w.AX.at i with Cr := 0 }).put i { (T.w.AX.put i { T.w.AX.at i with Cr := 0 }).at i with at_ := (T.w.AW.at T.b).room }).at i with on := false } } : AH) = (T.Eh i).w := by
 rw [Vector.CM h0 h9, Vector.CM h0 h9] at c
 rw [Vector.CM h0 h9, Vector.EY, Vector.CM h0 h9, Vector.EY]
 unfold Eh
 rw [if_pos (show decide ((T.w.AX.at i).kind = 2) = true from c)]; rfl
theorem TE (T : AG) {i : Int} (h0 : 0 ≤ i) (h9 : i < 9) (c : decide ((((T.w.AX.put i { T.w.AX.at i with Cr := 0 }).put i { (T.w.AX.put i { T.w.AX.at i with Cr := 0 }).at i with at_ := (T.w.AW.at T.b).room }).at i).kind = 2) = false) : ({ T.w with AX := (T.w.AX.put i { T.w.AX.at i with Cr := 0 }).put i { (T.w.AX.put i { T.w.AX.at i with Cr := 0 }).at i with at_ := (T.w.AW.at T.b).room } } : AH) = (T.Eh i).w := by
 rw [Vector.CM h0 h9, Vector.CM h0 h9] at c
 rw [Vector.CM h0 h9, Vector.EY]
 unfold Eh
 rw [if_neg (show ¬ decide ((T.w.AX.at i).kind = 2) = true from by rw [show decide ((T.w.AX.at i).kind = 2) = false from c]; decide)]; rfl
theorem On {X : AH} (hw : X.D3) (draw : Int) : (Ch X draw).2.1.length ≤ 78 := by
 by_cases h : (Ch X draw).2.2 = 0
 ·exact (VS hw h).2.2
 ·unfold Ch at h ⊢
  split
  ·exact Nat.zero_le _
  ·rename_i h1
   rw [if_neg h1] at h
   exact absurd rfl h
end AG
end Go.Ing
/- What beings do, as the document says it: plain laws. -/
namespace Go.Ing
open Go
namespace AG
def skip (w : AH) (u : As) (i : Int) : Bool := !decide (u = []) && !decide (u = (w.AX.at i).name)
/-! #### what is taken -/
/-! #### what is set -/
/-! #### what is let go of -/
theorem TK (T : AG) (o : Order) : (T.DI o).1.w = T.w ∧ (T.DI o).1.b = T.b := by
 unfold DI
 split
 ·exact T.O9 o.second
 ·split
  ·exact T.Ng o.second
  ·exact ⟨rfl, rfl⟩
theorem O6 (T : AG) (o : Order) : 0 ≤ (T.DI o).2.1 ∧ (T.DI o).2.1 < 9 := by
 unfold DI
 split
 ·exact T.W0 o.second
 ·split
  ·have := T.K5 o.second; omega
  ·exact ⟨Int.le_refl 0, show (0 : Int) < 9 by decide⟩
theorem WN {T : AG} {o : Order} (hv : o.verb = 8 ∨ o.verb = 9 ∨ o.verb = 10) (h : (T.DI o).2.2 = true) : Qu (T.DI o).1 o.verb (T.DI o).2.1 := by
 unfold Qu
 rw [(T.TK o).1]
 unfold DI at h ⊢
 split at h
 ·rename_i h2
  rw [if_pos h2]
  obtain ⟨a0, a9, hk, _⟩ := Yg h
  have := of_decide_eq_true h2
  exact .inr (.inr ⟨by omega, by omega, a0, a9, hk⟩)
 ·rename_i h2
  rw [if_neg h2]
  split at h
  ·rename_i h3
   rw [if_pos h3]
   obtain ⟨a0, a6, _, hs⟩ := RT h
   exact .inr (.inl ⟨of_decide_eq_true h3, a0, a6, (AH.JZ (AH.Si hs).2.1).2.2⟩)
  ·rename_i h3
   rw [if_neg h3]
   refine .inl ?_
   rcases hv with e | e | e
   ·exact e
   ·exact absurd (decide_eq_true e) h2
   ·exact absurd (decide_eq_true e) h3
def KK (T : AG) (o : Order) : List Int := BP T.w T.own o.nth o.name o.Bm
def P0 (T : AG) (o : Order) : AG := if decide (((T.KK o).length : Int) = 0) = true then T.tell QI else T
theorem Y5 {T : AG} {o : Order} (h : decide (((T.KK o).length : Int) = 0) = true) : T.P0 o = T.tell QI := if_pos h
theorem Yo {T : AG} {o : Order} (h : decide (((T.KK o).length : Int) = 0) = false) : T.P0 o = T := if_neg (by rw [h]; decide)
theorem YY (T : AG) (o : Order) : (T.P0 o).w = T.w ∧ (T.P0 o).b = T.b ∧ (T.P0 o).out.length ≤ T.out.length + 1 := by
 unfold P0
 split
 ·exact ⟨rfl, rfl, by rw [CE]; exact Nat.le_refl _⟩
 ·exact ⟨rfl, rfl, Nat.le_succ _⟩
def Pv (T : AG) (to : Int) (o : Order) (k : Nat) : AG := (T.P0 o).Fp o.verb to ((T.KK o).take k)
theorem MC {v to : Int} : ∀ (l : List Int) (T : AG) (i : Int), T.Fp v to (l ++ [i]) = (T.Fp v to l).DX v to i
 | [], _, _ => rfl
 | _ :: r, _, i => MC r _ i
theorem Xd {l : List Int} {k : Int} (h0 : 0 ≤ k) (h1 : k < l.length) : l.take (k + 1).toNat = l.take k.toNat ++ [l.getD k.toNat 0] := by
 obtain ⟨m, rfl⟩ := Int.eq_ofNat_of_zero_le h0
 have hm : m < l.length := by omega
 show l.take (m + 1) = l.take m ++ [l.getD m 0]
 rw [List.take_add_one, List.getElem?_eq_getElem hm, List.getD_eq_getElem?_getD, List.getElem?_eq_getElem hm]
 rfl
theorem Hu {T : AG} {to : Int} {o : Order} {k : Int} (h0 : 0 ≤ k) (h1 : k < (T.KK o).length) : T.Pv to o (k + 1).toNat = (T.Pv to o k.toNat).DX o.verb to ((T.KK o).getD k.toNat 0) := by
 unfold Pv
 rw [Xd h0 h1, MC]
theorem VK {T : AG} {to : Int} {o : Order} : T.Pv to o ((T.KK o).length : Int).toNat = T.VO to o := by
 unfold Pv
 rw [show ((T.KK o).length : Int).toNat = (T.KK o).length by omega, List.take_length]
 rfl
theorem Qj {T : AG} {o : Order} : (∀ i ∈ T.KK o, SM T.w T.b i) ∧ (T.KK o).Nodup ∧ (T.KK o).length ≤ 9 :=
 ⟨fun _ hi => (HK (Ef hi)).XF, List.Nodup.sublist (Ek ..) (AH.Up ..), Nat.le_trans (Ek ..).length_le (AG.Ja T)⟩
theorem Na (v to : Int) : ∀ (l : List Int) (T : AG), (T.Fp v to l).out.length ≤ T.out.length + l.length ∧ (T.Fp v to l).b = T.b
 | [], _ => ⟨Nat.le_refl _, rfl⟩
 | i :: r, T => by
  obtain ⟨h1, h2⟩ := Na v to r (T.DX v to i)
  have h3 := T.Nj v to i
  rw [Fp, List.length_cons]
  exact ⟨by omega, h2.trans (T.Vw v to i)⟩
theorem VG (T : AG) (to : Int) (o : Order) (k : Nat) : (T.Pv to o k).out.length ≤ T.out.length + 10 ∧ (T.Pv to o k).b = T.b := by
 have hs := T.YY o
 obtain ⟨h1, h2⟩ := Na o.verb to ((T.KK o).take k) (T.P0 o)
 have h3 := (Qj (T := T) (o := o)).2.2
 have h4 : ((T.KK o).take k).length ≤ (T.KK o).length := (List.take_sublist ..).length_le
 unfold Pv
 exact ⟨by omega, h2.trans hs.2.1⟩
theorem Qu.cj {T : AG} {v to : Int} (h : Qu T v to) (hv : v = 10) : to < 6 := by
 rcases h with h | ⟨_, _, h, _⟩ | ⟨_, h, _⟩ <;> omega
theorem Uv {T X : AG} {o : Order} {p : Bool} (hX : X = (T.DI o).1) (hp : p = (T.DI o).2.2) (h : (!p) = true) : T.Gx o = X := by
 rw [hp] at h
 rw [hX]
 exact if_pos h
theorem Rn {T X : AG} {o : Order} {to : Int} {p : Bool} (hX : X = (T.DI o).1) (ht : to = (T.DI o).2.1) (hp : p = (T.DI o).2.2) (h : (!p) = false) : T.Gx o = X.VO to o ∧ 0 ≤ to ∧ to < 9 ∧ (o.verb = 8 ∨ o.verb = 9 ∨ o.verb = 10 → Qu X o.verb to) := by
 rw [hp] at h
 have h2 : (T.DI o).2.2 = true := by simpa using h
 rw [hX, ht]
 exact ⟨if_neg (by rw [h]; decide), (T.O6 o).1, (T.O6 o).2, fun hv => WN hv h2⟩
/-! #### what a being does -/
theorem Fi {T : AG} {o : Order} (h : o.verb < 6) : T.act o = T.walk o.verb := by
 unfold act; rw [if_pos (decide_eq_true h)]
theorem Mg (X : AH) (b : Int) (o : Order) : (Fe X b o).2.1.length ≤ 11 := by
 unfold Fe
 split
 ·exact Nat.zero_le _
 ·split
  ·exact Nat.zero_le _
  ·split
   ·exact Nat.zero_le _
   ·have := XV (⟨X, b, []⟩ : AG) o
    exact Nat.le_trans this (Nat.le_refl 11)
end AG
end Go.Ing
/- Engine: the same rules, said shorter. -/
namespace Go.Ing
open Go
section
variable {F : List (Nat × Value)} {v0 v1 v2 v3 v4 v5 v6 v7 v8 v9 v10 v11 : Value}
theorem Sub.t1 (k0 : Nat) (h0 : lk k0 F = some v0 := by rfl) : Sub F [(k0, v0)] := .cons h0 (.nil _)
theorem Sub.t2 (k0 k1 : Nat) (h0 : lk k0 F = some v0 := by rfl) (h1 : lk k1 F = some v1 := by rfl) : Sub F [(k0, v0), (k1, v1)] := .cons h0 (.cons h1 (.nil _))
theorem Sub.t3 (k0 k1 k2 : Nat) (h0 : lk k0 F = some v0 := by rfl) (h1 : lk k1 F = some v1 := by rfl) (h2 : lk k2 F = some v2 := by rfl) : Sub F [(k0, v0), (k1, v1), (k2, v2)] := .cons h0 (.cons h1 (.cons h2 (.nil _)))
theorem Sub.t4 (k0 k1 k2 k3 : Nat) (h0 : lk k0 F = some v0 := by rfl) (h1 : lk k1 F = some v1 := by rfl) (h2 : lk k2 F = some v2 := by rfl) (h3 : lk k3 F = some v3 := by rfl) : Sub F [(k0, v0), (k1, v1), (k2, v2), (k3, v3)] := .cons h0 (.cons h1 (.cons h2 (.cons h3 (.nil _))))
theorem Sub.t5 (k0 k1 k2 k3 k4 : Nat) (h0 : lk k0 F = some v0 := by rfl) (h1 : lk k1 F = some v1 := by rfl) (h2 : lk k2 F = some v2 := by rfl) (h3 : lk k3 F = some v3 := by rfl) (h4 : lk k4 F = some v4 := by rfl) : Sub F [(k0, v0), (k1, v1), (k2, v2), (k3, v3), (k4, v4)] := .cons h0 (.cons h1 (.cons h2 (.cons h3 (.cons h4 (.nil _)))))
theorem Sub.t6 (k0 k1 k2 k3 k4 k5 : Nat) (h0 : lk k0 F = some v0 := by rfl) (h1 : lk k1 F = some v1 := by rfl) (h2 : lk k2 F = some v2 := by rfl) (h3 : lk k3 F = some v3 := by rfl) (h4 : lk k4 F = some v4 := by rfl) (h5 : lk k5 F = some v5 := by rfl) : Sub F [(k0, v0), (k1, v1), (k2, v2), (k3, v3), (k4, v4), (k5, v5)] := .cons h0 (.cons h1 (.cons h2 (.cons h3 (.cons h4 (.cons h5 (.nil _))))))
theorem Sub.t7 (k0 k1 k2 k3 k4 k5 k6 : Nat) (h0 : lk k0 F = some v0 := by rfl) (h1 : lk k1 F = some v1 := by rfl) (h2 : lk k2 F = some v2 := by rfl) (h3 : lk k3 F = some v3 := by rfl) (h4 : lk k4 F = some v4 := by rfl) (h5 : lk k5 F = some v5 := by rfl) (h6 : lk k6 F = some v6 := by rfl) : Sub F [(k0, v0), (k1, v1), (k2, v2), (k3, v3), (k4, v4), (k5, v5), (k6, v6)] := .cons h0 (.cons h1 (.cons h2 (.cons h3 (.cons h4 (.cons h5 (.cons h6 (.nil _)))))))
theorem Sub.t8 (k0 k1 k2 k3 k4 k5 k6 k7 : Nat) (h0 : lk k0 F = some v0 := by rfl) (h1 : lk k1 F = some v1 := by rfl) (h2 : lk k2 F = some v2 := by rfl) (h3 : lk k3 F = some v3 := by rfl) (h4 : lk k4 F = some v4 := by rfl) (h5 : lk k5 F = some v5 := by rfl) (h6 : lk k6 F = some v6 := by rfl) (h7 : lk k7 F = some v7 := by rfl) : Sub F [(k0, v0), (k1, v1), (k2, v2), (k3, v3), (k4, v4), (k5, v5), (k6, v6), (k7, v7)] := .cons h0 (.cons h1 (.cons h2 (.cons h3 (.cons h4 (.cons h5 (.cons h6 (.cons h7 (.nil _))))))))
theorem Sub.t9 (k0 k1 k2 k3 k4 k5 k6 k7 k8 : Nat) (h0 : lk k0 F = some v0 := by rfl) (h1 : lk k1 F = some v1 := by rfl) (h2 : lk k2 F = some v2 := by rfl) (h3 : lk k3 F = some v3 := by rfl) (h4 : lk k4 F = some v4 := by rfl) (h5 : lk k5 F = some v5 := by rfl) (h6 : lk k6 F = some v6 := by rfl) (h7 : lk k7 F = some v7 := by rfl) (h8 : lk k8 F = some v8 := by rfl) : Sub F [(k0, v0), (k1, v1), (k2, v2), (k3, v3), (k4, v4), (k5, v5), (k6, v6), (k7, v7), (k8, v8)] := .cons h0 (.cons h1 (.cons h2 (.cons h3 (.cons h4 (.cons h5 (.cons h6 (.cons h7 (.cons h8 (.nil _)))))))))
theorem Sub.t10 (k0 k1 k2 k3 k4 k5 k6 k7 k8 k9 : Nat) (h0 : lk k0 F = some v0 := by rfl) (h1 : lk k1 F = some v1 := by rfl) (h2 : lk k2 F = some v2 := by rfl) (h3 : lk k3 F = some v3 := by rfl) (h4 : lk k4 F = some v4 := by rfl) (h5 : lk k5 F = some v5 := by rfl) (h6 : lk k6 F = some v6 := by rfl) (h7 : lk k7 F = some v7 := by rfl) (h8 : lk k8 F = some v8 := by rfl) (h9 : lk k9 F = some v9 := by rfl) : Sub F [(k0, v0), (k1, v1), (k2, v2), (k3, v3), (k4, v4), (k5, v5), (k6, v6), (k7, v7), (k8, v8), (k9, v9)] := .cons h0 (.cons h1 (.cons h2 (.cons h3 (.cons h4 (.cons h5 (.cons h6 (.cons h7 (.cons h8 (.cons h9 (.nil _))))))))))
theorem Sub.t11 (k0 k1 k2 k3 k4 k5 k6 k7 k8 k9 k10 : Nat) (h0 : lk k0 F = some v0 := by rfl) (h1 : lk k1 F = some v1 := by rfl) (h2 : lk k2 F = some v2 := by rfl) (h3 : lk k3 F = some v3 := by rfl) (h4 : lk k4 F = some v4 := by rfl) (h5 : lk k5 F = some v5 := by rfl) (h6 : lk k6 F = some v6 := by rfl) (h7 : lk k7 F = some v7 := by rfl) (h8 : lk k8 F = some v8 := by rfl) (h9 : lk k9 F = some v9 := by rfl) (h10 : lk k10 F = some v10 := by rfl) : Sub F [(k0, v0), (k1, v1), (k2, v2), (k3, v3), (k4, v4), (k5, v5), (k6, v6), (k7, v7), (k8, v8), (k9, v9), (k10, v10)] := .cons h0 (.cons h1 (.cons h2 (.cons h3 (.cons h4 (.cons h5 (.cons h6 (.cons h7 (.cons h8 (.cons h9 (.cons h10 (.nil _)))))))))))
end
section
variable {P : Program} {n : Nat} {w0 : World} {M : List Nat} {Q : Exit → Go.Act → World → Prop} {F F' : List (Nat × Value)} {L L' A K : List Ac} {ops : Array Oper} {rest l : List Oper} {d id : Nat} {op : Op} {T : TypeId} {pos : String} {Ci : Array Edge} {v v' : Value} {x y : Code}
theorem Gs (h : GL P n w0 M l.toArray (Exit.then (y.wp P Q) Q) l F L) : G P n w0 M (.seq (.region id l.toArray false) y) Q F L := Ao (AI h)
theorem CC {z : Code} (h : GL P n w0 M l.toArray (Exit.then (y.wp P (Exit.then (z.wp P Q) Q)) (Exit.then (z.wp P Q) Q)) l F L) : G P n w0 M (.seq (.seq (.region id l.toArray false) y) z) Q F L := Ao (Ao (AI h))
theorem Gn (hs : Sub F F') (h : G P n w0 M y Q F' L) : GL P n w0 M ops (Exit.then (y.wp P Q) Q) [] F L := AP (AB hs (AA h))
theorem Gt (h : PS P n w0 M op T F L v L') (k : GL P n w0 M ops Q rest ((d, v) :: F) L') (hd : Nat.blt d n = true := by rfl) : GL P n w0 M ops Q (⟨some d, op, T, pos, Ci, none⟩ :: rest) F L := JW hd h k
theorem Gm {x : Operand} (h : ev F x = some v) (k : GL P n w0 M ops Q rest ((d, v) :: F) L) (hd : Nat.blt d n = true := by rfl) : GL P n w0 M ops Q (⟨some d, .move x, T, pos, Ci, none⟩ :: rest) F L := JW hd (AE h) k
theorem Ga {x : Operand} (h : ev F x = some v) (k : GL P n w0 M ops Q rest ((d, v) :: F) L) (hd : Nat.blt d n = true := by rfl) : GL P n w0 M ops Q (⟨some d, .assign x, T, pos, Ci, none⟩ :: rest) F L := JW hd (Az h) k
theorem BZ {j : Nat} {z : Bool} (t : Nat) (hj : (ops[j]?).bind (·.dst) = some t) (hb : lk t F = some (.bool z)) (h : z = true → PS P n w0 M op T F L v L) (k : GL P n w0 M ops Q rest ((d, cv z v) :: F) L) (hd : Nat.blt d n = true := by rfl) : GL P n w0 M ops Q (⟨some d, op, T, pos, Ci, some (j, true)⟩ :: rest) F L := YA hj hb hd h k
theorem BW {j : Nat} {z : Bool} (t : Nat) (hj : (ops[j]?).bind (·.dst) = some t) (hb : lk t F = some (.bool z)) (h : z = false → PS P n w0 M op T F L v L) (k : GL P n w0 M ops Q rest ((d, cv (!z) v) :: F) L) (hd : Nat.blt d n = true := by rfl) : GL P n w0 M ops Q (⟨some d, op, T, pos, Ci, some (j, false)⟩ :: rest) F L := YB hj hb hd h k
theorem Gc {c : Operand} {b : Bool} (ht : b = true → G P n w0 M x Q F L) (hf : b = false → G P n w0 M y Q F L) (hc : ev F c = some (.bool b) := by rfl) : G P n w0 M (.cond c x y) Q F L := N8 hc ht hf
end
section
variable {P : Program} {n : Nat} {w0 : World} {M : List Nat} {Q : Exit → Go.Act → World → Prop} {l : List Oper} {Rs : List Nat} {F : List (Nat × Value)}
variable {k i j d : Nat} {V A : List Nat} {D : List (Nat × (Nat × Value))} {L : List Ac} {op : Op} {T : TypeId} {pos : String} {Ci : Array Edge} {v v' : Value}
theorem Pf (i : Nat) (ho : l[i]? = some ⟨some d, op, T, pos, Ci, none⟩) (h : PS P n w0 M op T (Eb D Ci.toList ++ F) L v L) (k' : Ih P n w0 M Q l Rs F k (i :: V) (i :: A) ((i, (d, v)) :: D) L) (hc : Vu l V i Ci.toList = true := by kernel_rfl) (hlk : Ro F d v := by first | exact .inl rfl | exact .inr rfl) : Ih P n w0 M Q l Rs F (k + 1) V A D L :=
 BX i ho rfl hc (K9 (Hx h)) k' hlk
theorem G9 {j : Nat} {y : Bool} (i t : Nat) (ho : l[i]? = some ⟨some d, op, T, pos, Ci, some (j, false)⟩) (hj : (l.toArray[j]?).bind (·.dst) = some t) (hb : lk t (Eb D Ci.toList ++ F) = some (.bool y)) (h : y = false → PS P n w0 M op T (Eb D Ci.toList ++ F) L v L) (k' : Ih P n w0 M Q l Rs F k (i :: V) (i :: A) ((i, (d, cv (!y) v)) :: D) L) (hc : Vu l V i Ci.toList = true := by kernel_rfl) (hlk : Ro F d (cv (!y) v) := by first | exact .inl rfl | exact .inr rfl) : Ih P n w0 M Q l Rs F (k + 1) V A D L :=
 BX i ho rfl hc (GS (t := t) hj hb (fun q => Hx (h q))) k' hlk
theorem L3 {j : Nat} {y : Bool} (i t : Nat) (ho : l[i]? = some ⟨some d, op, T, pos, Ci, some (j, true)⟩) (hj : (l.toArray[j]?).bind (·.dst) = some t) (hb : lk t (Eb D Ci.toList ++ F) = some (.bool y)) (h : y = true → PS P n w0 M op T (Eb D Ci.toList ++ F) L v L) (k' : Ih P n w0 M Q l Rs F k (i :: V) (i :: A) ((i, (d, cv y v)) :: D) L) (hc : Vu l V i Ci.toList = true := by kernel_rfl) (hlk : Ro F d (cv y v) := by first | exact .inl rfl | exact .inr rfl) : Ih P n w0 M Q l Rs F (k + 1) V A D L :=
 BX i ho rfl hc (RL (t := t) hj hb (fun q => Hx (h q))) k' hlk
theorem Pk (h : Iu P n w0 M Q l Rs F i D L A) (hr : reaches Rs i j = true := by kernel_rfl) : Iu P n w0 M Q l Rs F i D L (j :: A) := UC hr h
theorem Po (ho : l[j]? = some ⟨some d, op, T, pos, Ci, none⟩) (h : PS P n w0 M op T (Eb D Ci.toList ++ F) L v' L) (hl : MV j D = some (d, v)) (e : v' = v) (k' : Iu P n w0 M Q l Rs F i D L A) : Iu P n w0 M Q l Rs F i D L (j :: A) := Vx ho (K9 (Hx h)) hl e k'
end
section
variable {P : Program} {n : Nat} {w0 : World} {M : List Nat} {F : List (Nat × Value)} {L : List Ac}
theorem cF {x : Operand} {c : Bool} {v : Value} (h : ev F x = some (cv (!c) v)) (q : c = false) : ev F x = some v := BV h (by rw [q]; rfl)
theorem Af {T U f off b o : Nat} {x : Operand} (hf : FA P T f off) (hx : ev F x = some (.pointer (some ⟨b, o, none⟩))) : PS P n w0 M (.fieldAddr T x f) U F L (.pointer (some ⟨b, o + off, none⟩)) L := Pe hf hx
theorem BS {T : TypeId} {x : Operand} {p : Addr} (hx : ev F x = some (.pointer (some p))) : PS P n w0 M (.nilCheck x) T F L (.pointer (some p)) L := RF hx
end
theorem AS.ar {α : Type} {n : Nat} [Inhabited α] {e : α → List Value} {sz : Nat} (fe : Flat e sz) {i : Int} (h : 0 ≤ i ∧ i < (n : Int)) : AS (B9 (n := n) e) e (i.toNat * sz) sz (fun v => v.at i) (fun v y => v.put i y) := AS.arr fe h.1 h.2
class Nz (a : Prop) (b : outParam Prop) : Prop where
 h : a → b
theorem kz {a b : Prop} [i : Nz a b] (h : a) : b := i.h h
section
variable {p : Prop} [Decidable p] {a b : Bool} {x y : Prop} {m n : Int}
instance (priority := low) : Nz p p := ⟨id⟩
instance : Nz (decide p = true) p := ⟨of_decide_eq_true⟩
instance (priority := low) : Nz (decide p = false) (¬ p) := ⟨of_decide_eq_false⟩
instance : Nz (decide (m < n) = false) (n ≤ m) := ⟨fun h => Int.not_lt.1 (of_decide_eq_false h)⟩
instance : Nz (decide (m ≤ n) = false) (n < m) := ⟨fun h => Int.not_le.1 (of_decide_eq_false h)⟩
instance [i : Nz (a = false) x] : Nz ((!a) = true) x := ⟨fun h => i.h (by simpa using h)⟩
instance [i : Nz (a = true) x] : Nz ((!a) = false) x := ⟨fun h => i.h (by simpa using h)⟩
instance [i : Nz (a = true) x] [j : Nz (b = true) y] : Nz ((a && b) = true) (x ∧ y) := ⟨fun h => ⟨i.h (cO ▸ h).1, j.h (cO ▸ h).2⟩⟩
instance [i : Nz (a = false) x] [j : Nz (b = false) y] : Nz ((a || b) = false) (x ∧ y) := ⟨fun h => ⟨i.h (cV ▸ h).1, j.h (cV ▸ h).2⟩⟩
instance [i : Nz (a = true) x] [j : Nz (b = true) y] : Nz ((a || b) = true) (x ∨ y) := ⟨fun h => (cf ▸ h : a = true ∨ b = true).imp i.h j.h⟩
instance [i : Nz (a = false) x] [j : Nz (b = false) y] : Nz ((a && b) = false) (x ∨ y) := ⟨fun h => (ck ▸ h : a = false ∨ b = false).imp i.h j.h⟩
end
section
variable {F : List (Nat × Value)} {P : Program} {L L' K rs : List Ac} {r r' s : Ac} {x : Operand} {v : Value} {xs : List Operand} {vs : List Value}
theorem J2.h : J2 (r :: L) r r' (r' :: L) := .head
theorem J2.t (h : J2 L r r' L') : J2 (s :: L) r r' (s :: L') := .tail h
theorem Kg.h : Kg (r :: L) r L := .head
theorem Kg.t (h : Kg L r L') : Kg (s :: L) r (s :: L') := .tail h
theorem Av.n : Av L [] L := .nil
theorem Av.c (h : Kg L r L') (hs : Av L' rs K) : Av L (r :: rs) K := .cons h hs
theorem OL.n : OL F [] [] := .nil
theorem OL.c (h : ev F x = some v) (hs : OL F xs vs) : OL F (x :: xs) (v :: vs) := .cons h hs
theorem Rs.n : Rs P F L [] [] := .nil
end
section
variable {α : Type} {a b c d e f g h i j : α} {l : List α}
theorem _root_.List.Mem.m0 : List.Mem a (a :: l) := .head _
theorem _root_.List.Mem.m1 : List.Mem a (b :: a :: l) := .tail _ .m0
theorem _root_.List.Mem.m2 : List.Mem a (b :: c :: a :: l) := .tail _ .m1
theorem _root_.List.Mem.m3 : List.Mem a (b :: c :: d :: a :: l) := .tail _ .m2
theorem _root_.List.Mem.m4 : List.Mem a (b :: c :: d :: e :: a :: l) := .tail _ .m3
theorem _root_.List.Mem.m5 : List.Mem a (b :: c :: d :: e :: f :: a :: l) := .tail _ .m4
theorem _root_.List.Mem.m6 : List.Mem a (b :: c :: d :: e :: f :: g :: a :: l) := .tail _ .m5
theorem _root_.List.Mem.m7 : List.Mem a (b :: c :: d :: e :: f :: g :: h :: a :: l) := .tail _ .m6
end
end Go.Ing
/- A house's data, in Lean, and their parts. -/
namespace Go.Ing
open Go
structure A0 where
 state : Int
 A7 : Int
 EG : AN
 Dx : BB
 out : Ar
 told : Hd
instance : Inhabited A0 := ⟨⟨0, 0, default, ⟨[], false, false, ⟨none, 0, 0⟩⟩, ⟨⟨none, 0, 0⟩, 0, false, [], false⟩, ⟨none, 0, 0⟩⟩⟩
def A0.enc (x : A0) : List Value := Ax x.state ++ Ax x.A7 ++ AN.enc x.EG ++ BB.enc x.Dx ++ Ar.enc x.out ++ EM x.told
theorem A0.fl : Flat A0.enc 22 := ⟨fun x => by simp [A0.enc, BB.fl.len, Ar.fl.len, AN.fl.len, OM.len, B0.len], fun x v hv => by
 simp only [A0.enc, List.mem_append] at hv
 rcases hv with ((((h | h) | h) | h) | h) | h
 ·exact B0.one _ v h
 ·exact B0.one _ v h
 ·exact AN.fl.one _ v h
 ·exact BB.fl.one _ v h
 ·exact Ar.fl.one _ v h
 ·exact OM.one _ v h⟩
theorem A0.l0 : AS A0.enc (Ax) 0 1 (fun x => x.state) (fun x y => { x with state := y }) :=
 AS.EN B0 (fun _ => []) (fun x => Ax x.A7 ++ AN.enc x.EG ++ BB.enc x.Dx ++ Ar.enc x.out ++ EM x.told) (fun _ => rfl) (fun x => by simp [A0.enc]) (fun x y => by simp [A0.enc])
theorem A0.l1 : AS A0.enc (Ax) 1 1 (fun x => x.A7) (fun x y => { x with A7 := y }) :=
 AS.EN B0 (fun x => Ax x.state) (fun x => AN.enc x.EG ++ BB.enc x.Dx ++ Ar.enc x.out ++ EM x.told) (fun x => by simp [B0.len]) (fun x => by simp [A0.enc]) (fun x y => by simp [A0.enc])
theorem A0.l2 : AS A0.enc (AN.enc) 2 10 (fun x => x.EG) (fun x y => { x with EG := y }) :=
 AS.EN AN.fl (fun x => Ax x.state ++ Ax x.A7) (fun x => BB.enc x.Dx ++ Ar.enc x.out ++ EM x.told) (fun x => by simp [B0.len]) (fun x => by simp [A0.enc]) (fun x y => by simp [A0.enc])
theorem A0.l3 : AS A0.enc (BB.enc) 12 4 (fun x => x.Dx) (fun x y => { x with Dx := y }) :=
 AS.EN BB.fl (fun x => Ax x.state ++ Ax x.A7 ++ AN.enc x.EG) (fun x => Ar.enc x.out ++ EM x.told) (fun x => by simp [AN.fl.len, B0.len]) (fun x => by simp [A0.enc]) (fun x y => by simp [A0.enc])
theorem A0.l4 : AS A0.enc (Ar.enc) 16 5 (fun x => x.out) (fun x y => { x with out := y }) :=
 AS.EN Ar.fl (fun x => Ax x.state ++ Ax x.A7 ++ AN.enc x.EG ++ BB.enc x.Dx) (fun x => EM x.told) (fun x => by simp [BB.fl.len, AN.fl.len, B0.len]) (fun x => by simp [A0.enc]) (fun x y => by simp [A0.enc])
theorem A0.l5 : AS A0.enc (EM) 21 1 (fun x => x.told) (fun x y => { x with told := y }) :=
 AS.EN OM (fun x => Ax x.state ++ Ax x.A7 ++ AN.enc x.EG ++ BB.enc x.Dx ++ Ar.enc x.out) (fun _ => []) (fun x => by simp [BB.fl.len, Ar.fl.len, AN.fl.len, B0.len]) (fun x => by simp [A0.enc]) (fun x y => by simp [A0.enc])
structure AK where
 w : AH
 Ap : OK A0 4
 Cc : Int
 last : Hd
def AK.enc (x : AK) : List Value := AH.enc x.w ++ B9 A0.enc x.Ap ++ Ax x.Cc ++ EM x.last
theorem AK.fl : Flat AK.enc 255 := ⟨fun x => by simp [AK.enc, (Ix A0.fl).len, AH.fl.len, OM.len, B0.len], fun x v hv => by
 simp only [AK.enc, List.mem_append] at hv
 rcases hv with ((h | h) | h) | h
 ·exact AH.fl.one _ v h
 ·exact (Ix A0.fl).one _ v h
 ·exact B0.one _ v h
 ·exact OM.one _ v h⟩
theorem AK.l0 : AS AK.enc (AH.enc) 0 165 (fun x => x.w) (fun x y => { x with w := y }) :=
 AS.EN AH.fl (fun _ => []) (fun x => B9 A0.enc x.Ap ++ Ax x.Cc ++ EM x.last) (fun _ => rfl) (fun x => by simp [AK.enc]) (fun x y => by simp [AK.enc])
theorem AK.l1 : AS AK.enc (B9 A0.enc) 165 88 (fun x => x.Ap) (fun x y => { x with Ap := y }) :=
 AS.EN (Ix A0.fl) (fun x => AH.enc x.w) (fun x => Ax x.Cc ++ EM x.last) (fun x => by simp [AH.fl.len]) (fun x => by simp [AK.enc]) (fun x y => by simp [AK.enc])
theorem AK.l2 : AS AK.enc (Ax) 253 1 (fun x => x.Cc) (fun x y => { x with Cc := y }) :=
 AS.EN B0 (fun x => AH.enc x.w ++ B9 A0.enc x.Ap) (fun x => EM x.last) (fun x => by simp [(Ix A0.fl).len, AH.fl.len]) (fun x => by simp [AK.enc]) (fun x y => by simp [AK.enc])
theorem AK.l3 : AS AK.enc (EM) 254 1 (fun x => x.last) (fun x y => { x with last := y }) :=
 AS.EN OM (fun x => AH.enc x.w ++ B9 A0.enc x.Ap ++ Ax x.Cc) (fun _ => []) (fun x => by simp [(Ix A0.fl).len, AH.fl.len, B0.len]) (fun x => by simp [AK.enc]) (fun x y => by simp [AK.enc])
end Go.Ing
/- What a house does: plain functions. -/
namespace Go.Ing
open Go
structure A9 where
 state : Int
 A7 : Int
 EG : AN
 now : As
 Cd : Bool
 ret : Bool
 queue : List As
 pg : Page.Pg
 wait : List As
 told : List As
instance : Inhabited A9 := ⟨⟨0, 0, default, [], false, false, [], ⟨0, false, [], false⟩, [], []⟩⟩
structure AM where
 w : AH
 Ap : Vector A9 4
 Cc : Int
 last : List Event
namespace A9
def NG (s : A9) : Bool := decide ((s.wait.length : Int) ≤ 60) && decide ((s.pg.ring.length : Int) ≤ 700) && decide (0 ≤ s.pg.shown) && decide (s.pg.shown ≤ 200)
def line (s : A9) (u : As) : A9 :=
 if (!s.NG) = true then s else if s.pg.cut = true then s
 else if decide (60 ≤ (s.wait.length : Int)) = true then { s with pg := { s.pg with cut := true } } else { s with wait := s.wait ++ [u] }
def note (s : A9) (u : As) : A9 := if (!s.pg.cut) = true then { s with told := s.told ++ [u] } else s
def tell (s : A9) (u : As) : A9 := (s.line u).note u
def send (s : A9) (u : As) : A9 := if (!s.NG) = true then s else if s.pg.cut = true then s else { s with pg := Page.put s.pg u }
def B4 (s : A9) : A9 :=
 if (!s.NG || decide (s.EG.CZ < 0) || decide (200 < s.EG.CZ)) = true then s
 else { s with pg := (Page.B4 s.EG.CZ s.wait s.pg).1, wait := (Page.B4 s.EG.CZ s.wait s.pg).2 }
def FO (s : A9) : A9 := { s with pg := { s.pg with shown := 0, B5 := false } }
def Zw (s : A9) (n : Int) : Nat := (max 0 (min n (s.pg.ring.length : Int))).toNat
def Lz (s : A9) (n : Int) : A9 := { s with pg := { s.pg with ring := s.pg.ring.drop (s.Zw n) } }
def out (s : A9) (n : Int) : As := s.pg.ring.take (s.Zw n)
def KY (s : A9) : Bool :=
 !(decide (60 < (s.now.length : Int)) || decide (6 < (s.queue.length : Int)) || (s.Cd && decide (60 < (s.now.length : Int))) || (s.ret && (!decide (s.now = []) || s.Cd))) && (s.queue ++ [s.now]).all Bc.Fb
def typed (s : A9) (u : As) : A9 × Int :=
 if (!s.KY) = true then (s, 0)
 else
  let x := Bc.feed ⟨s.now, s.Cd, s.ret, s.queue, 0⟩ u
  ({ s with now := x.now, Cd := x.Cd, ret := x.ret, queue := x.queue }, x.lost)
def bytes (s : A9) (u : As) : A9 × As := ({ s with EG := (s.EG.DQ u).1 }.send (s.EG.DQ u).2.2.1, (s.EG.DQ u).2.1)
def offer (s : A9) (opt : Int) : A9 :=
 if decide ((s.EG.DB opt).2.1 = []) = true then { s with EG := ((s.EG.DB opt).1.Ask opt).1 }.send ([] ++ ((s.EG.DB opt).1.Ask opt).2.1)
 else { s with EG := (s.EG.DB opt).1 }.send ((s.EG.DB opt).2.1 ++ [])
end A9
namespace AM
def at_ (H : AM) (k : Int) : A9 := H.Ap.at k
def set (H : AM) (k : Int) (s : A9) : AM := { H with Ap := H.Ap.put k s }
def tell (H : AM) (k : Int) (u : As) : AM := H.set k ((H.at_ k).tell u)
def Cm (e : Event) (H : AM) : Nat → AM
 | 0 => H
 | k + 1 => if (!decide (((Cm e H k).at_ k).state = 2)) = true then Cm e H k else if (AH.tell e ((Cm e H k).at_ k).A7).2 = true then (Cm e H k).tell k (AH.tell e ((Cm e H k).at_ k).A7).1 else Cm e H k
def Ik (H : AM) (l : List Event) : AM := l.foldl (fun X e => Cm e X 4) H
def HE (H : AM) (l : List Event) : AM := { H with last := H.last ++ l }.Ik l
def FY : Order := { (default : Order) with verb := 20 }
def SA (H : AM) (k : Int) : AM := { H with w := (AG.Fe H.w (H.at_ k).A7 FY).1 }
def leave (H : AM) (k : Int) : AM :=
 (if (decide ((H.at_ k).state = 2) && (H.w.AW.at (H.at_ k).A7).here) = true then ((H.SA k).set k default).HE (AG.Fe H.w (H.at_ k).A7 FY).2.1 else H).set k default
def DS (H : AM) : Nat → AM × Bool
 | 0 => (H, false)
 | k + 1 =>
  if decide (((DS H k).1.at_ k).state = 0) = true then DS H k
  else if (((DS H k).1.at_ k).B4).pg.cut = true then (((DS H k).1.set k (((DS H k).1.at_ k).B4)).leave k, true)
  else ((DS H k).1.set k (((DS H k).1.at_ k).B4), (DS H k).2)
def Il (H : AM) : Nat → AM
 | 0 => H
 | n + 1 => if (!(H.DS 4).2) = true then (H.DS 4).1 else (H.DS 4).1.Il n
def B4 (H : AM) : AM := H.Il 5
def Hq : As := [87, 104, 111, 32, 97, 114, 101, 32, 121, 111, 117, 63]
def QW : As := [78, 111, 116, 32, 115, 111, 32, 102, 97, 115, 116, 46]
def YO : As := [87, 104, 97, 116, 63]
def P6 : As := [84, 104, 97, 116, 32, 105, 115, 32, 110, 111, 32, 110, 97, 109, 101, 46]
def noRoom : As := [84, 104, 101, 114, 101, 32, 105, 115, 32, 110, 111, 32, 114, 111, 111, 109, 46]
def Rc (H : AM) (k : Int) : AM := ((H.set k ((({ (default : A9) with state := 1, A7 := -1 }).offer 3).offer 31)).tell k Hq).B4
def named (H : AM) (k : Int) (u : As) : AM :=
 if decide ((AG.Bi H.w u).2.2.2 = 0) = true then ({ H with w := (AG.Bi H.w u).1 }.set k { H.at_ k with state := 2, A7 := (AG.Bi H.w u).2.1 }).HE (AG.Bi H.w u).2.2.1
 else if decide ((AG.Bi H.w u).2.2.2 = 4) = true then H.tell k noRoom
 else H.tell k P6
def order (H : AM) (k : Int) (u : As) : AM :=
 if (!decide ((Words.parse u).2 = 0)) = true then H.tell k YO
 else if decide ((Words.parse u).1.verb = 20) = true then H.leave k
 else { H with w := (AG.Fe H.w (H.at_ k).A7 (Words.parse u).1).1 }.HE (AG.Fe H.w (H.at_ k).A7 (Words.parse u).1).2.1
def EV (H : AM) (k : Int) : AM :=
 if decide ((H.at_ k).state = 0) = true then H
 else match (H.at_ k).queue with
  | [] => H
  | q :: r =>
   let H1 := H.set k { H.at_ k with queue := r }.FO
   if (H.at_ k).pg.B5 = true then H1
   else if decide ((H.at_ k).state = 1) = true then H1.named k (Words.PD 32 (Words.RG 32 q))
   else H1.order k q
def turns (H : AM) : Nat → AM
 | 0 => H
 | k + 1 => (turns H k).EV k
def Ol (H : AM) (d : Int) : AM :=
 let X := H.turns 4
 ({ X with w := (AG.Ch X.w d).1 }.HE (AG.Ch X.w d).2.1).B4
def EL (H : AM) : Nat → AM
 | 0 => H
 | k + 1 => (EL H k).set k { (EL H k).at_ k with told := [] }
def begun (H : AM) : AM := { H with Cc := H.Cc + 1, last := [] }.EL 4
def ok : Bf := ⟨0, []⟩
def byte (H : AM) (k : Int) (u : As) : AM :=
 let s1 := (H.at_ k).bytes u
 let s2 := s1.1.typed s1.2
 ((if decide (0 < s2.2) = true then (H.set k s2.1).tell k QW else H.set k s2.1)).B4
def EO (X : AM) (a : Bt) : AM × Bf :=
 if decide (a.kind = 5) = true then (X.Ol a.n, ok)
 else if (decide (a.kind < 1) || decide (5 < a.kind)) = true then (X, ⟨5, []⟩)
 else if (decide (a.BK < 0) || decide (4 ≤ a.BK)) = true then (X, ⟨2, []⟩)
 else if (decide ((X.at_ a.BK).state = 0) != decide (a.kind = 1)) = true then (X, ⟨3, []⟩)
 else if decide (a.kind = 1) = true then (X.Rc a.BK, ok)
 else if decide (a.kind = 2) = true then (X.byte a.BK a.bytes, ok)
 else if decide (a.kind = 3) = true then ((X.set a.BK ((X.at_ a.BK).Lz a.n)).B4, ⟨0, (X.at_ a.BK).out a.n⟩)
 else ((X.leave a.BK).B4, ok)
def act (H : AM) (a : Bt) : AM × Bf := if decide (400 ≤ H.Cc) = true then (H, ⟨4, []⟩) else H.begun.EO a
def new : AM := ⟨AH.new, Vector.replicate 4 default, 0, []⟩
def run : AM → List Bt → AM × List Bf
 | H, [] => (H, [])
 | H, a :: l => ((run (H.act a).1 l).1, (H.act a).2 :: (run (H.act a).1 l).2)
end AM
end Go.Ing
/- Engine: several slices together; a seat of a house. -/
namespace Go.Ing
open Go
def Ac.De (l : List Ac) : Ac where
 CP := l.flatMap Ac.CP
 ok w := (∀ r ∈ l, r.ok w) ∧ l.Pairwise fun r s => ∀ b : Nat, b ∈ r.CP → b ∉ s.CP
 loc w w' h hw := ⟨fun r hr => r.loc w w' (fun b hb => h b (List.mem_flatMap.2 ⟨r, hr, hb⟩)) (hw.1 r hr), hw.2⟩
section
variable {w0 w : World} {M : List Nat} {l L : List Ac}
theorem St.Xu (h : St w0 M w (Ac.De l :: L)) : St w0 M w (l ++ L) := by
 have hm : ∀ r ∈ l, ∀ b ∈ r.CP, b ∈ (Ac.De l).CP := fun r hr b hb => List.mem_flatMap.2 ⟨r, hr, hb⟩
 have hf := h.ok (Ac.De l) (List.mem_cons_self ..)
 refine ⟨h.os, h.tape, h.output, h.size, h.Gv, fun r hr => ?_, fun r hr => ?_, List.pairwise_append.2 ⟨hf.2, (List.pairwise_cons.1 h.IQ).2, fun r hr s hs b hb => (List.pairwise_cons.1 h.IQ).1 s hs b (hm r hr b hb)⟩⟩
 ·rcases List.mem_append.1 hr with hr | hr
  ·exact hf.1 r hr
  ·exact h.ok r (List.mem_cons_of_mem _ hr)
 ·rcases List.mem_append.1 hr with hr | hr
  ·exact fun b hb => h.CP _ (List.mem_cons_self ..) b (hm r hr b hb)
  ·exact h.CP r (List.mem_cons_of_mem _ hr)
theorem St.YF (h : St w0 M w (l ++ L)) : St w0 M w (Ac.De l :: L) := by
 have hd := List.pairwise_append.1 h.IQ
 refine ⟨h.os, h.tape, h.output, h.size, h.Gv, fun r hr => ?_, fun r hr => ?_, List.pairwise_cons.2 ⟨fun s hs b hb => ?_, hd.2.1⟩⟩
 ·rcases List.mem_cons.1 hr with rfl | hr
  ·exact ⟨fun r hr => h.ok r (List.mem_append_left _ hr), hd.1⟩
  ·exact h.ok r (List.mem_append_right _ hr)
 ·rcases List.mem_cons.1 hr with rfl | hr
  ·intro b hb
   obtain ⟨r, hr, hb'⟩ := List.mem_flatMap.1 hb
   exact h.CP r (List.mem_append_left _ hr) b hb'
  ·exact h.CP r (List.mem_append_right _ hr)
 ·obtain ⟨r, hr, hb'⟩ := List.mem_flatMap.1 hb
  exact hd.2.2 r hr s hs b hb'
end
structure BI where
 queue : List As
 wait : List As
 told : List As
 deriving Inhabited
def FJ (T : Nat) (v : A0) (l : BI) : List Ac := [Ac.own v.Dx.queue T 1 (l.queue.flatMap A4), Ac.own v.out.wait T 1 (l.wait.flatMap A4), Ac.own v.told T 1 (l.told.flatMap A4)]
def CB (T : Nat) (vs : Vector A0 4) (ls : Vector BI 4) : List Ac := FJ T (vs.at 0) (ls.at 0) ++ (FJ T (vs.at 1) (ls.at 1) ++ (FJ T (vs.at 2) (ls.at 2) ++ FJ T (vs.at 3) (ls.at 3)))
def F2 (T : Nat) (k : Int) (vs : Vector A0 4) (ls : Vector BI 4) : List Ac :=
 if k = 0 then FJ T (vs.at 1) (ls.at 1) ++ (FJ T (vs.at 2) (ls.at 2) ++ FJ T (vs.at 3) (ls.at 3))
 else if k = 1 then FJ T (vs.at 0) (ls.at 0) ++ (FJ T (vs.at 2) (ls.at 2) ++ FJ T (vs.at 3) (ls.at 3))
 else if k = 2 then FJ T (vs.at 0) (ls.at 0) ++ (FJ T (vs.at 1) (ls.at 1) ++ FJ T (vs.at 3) (ls.at 3))
 else FJ T (vs.at 0) (ls.at 0) ++ (FJ T (vs.at 1) (ls.at 1) ++ FJ T (vs.at 2) (ls.at 2))
theorem IL {α : Type} (a b c : List α) : (a ++ (b ++ c)).Perm (b ++ (a ++ c)) := by
 rw [← List.append_assoc, ← List.append_assoc]
 exact List.perm_append_comm.append_right c
theorem four {k : Int} (h0 : 0 ≤ k) (h1 : k < 4) : k = 0 ∨ k = 1 ∨ k = 2 ∨ k = 3 := by omega
theorem Oo (T : Nat) {k : Int} (h0 : 0 ≤ k) (h1 : k < 4) (vs : Vector A0 4) (ls : Vector BI 4) : (CB T vs ls).Perm (FJ T (vs.at k) (ls.at k) ++ F2 T k vs ls) := by
 unfold CB F2
 rcases four h0 h1 with e | e | e | e <;> subst e
 ·exact .refl _
 ·exact IL _ _ _
 ·exact ((IL _ _ _).append_left _).trans (IL _ _ _)
 ·exact (((List.perm_append_comm).append_left _).append_left _).trans (((IL _ _ _).append_left _).trans (IL _ _ _))
theorem Tp (T : Nat) {k : Int} (h0 : 0 ≤ k) (h1 : k < 4) (vs : Vector A0 4) (ls : Vector BI 4) (v : A0) (l : BI) : F2 T k (vs.put k v) (ls.put k l) = F2 T k vs ls := by
 have hv : ∀ i : Int, 0 ≤ i → i ≠ k → (vs.put k v).at i = vs.at i := fun i hi hn => Vector.E1 h0 h1 hi hn
 have hl : ∀ i : Int, 0 ≤ i → i ≠ k → (ls.put k l).at i = ls.at i := fun i hi hn => Vector.E1 h0 h1 hi hn
 unfold F2
 rcases four h0 h1 with e | e | e | e <;> subst e
 ·rw [if_pos rfl, if_pos rfl, hv 1 (by decide) (by decide), hv 2 (by decide) (by decide), hv 3 (by decide) (by decide), hl 1 (by decide) (by decide), hl 2 (by decide) (by decide), hl 3 (by decide) (by decide)]
 ·rw [if_neg (by decide), if_pos rfl, if_neg (by decide), if_pos rfl, hv 0 (by decide) (by decide), hv 2 (by decide) (by decide), hv 3 (by decide) (by decide), hl 0 (by decide) (by decide), hl 2 (by decide) (by decide), hl 3 (by decide) (by decide)]
 ·rw [if_neg (by decide), if_neg (by decide), if_pos rfl, if_neg (by decide), if_neg (by decide), if_pos rfl, hv 0 (by decide) (by decide), hv 1 (by decide) (by decide), hv 3 (by decide) (by decide), hl 0 (by decide) (by decide), hl 1 (by decide) (by decide), hl 3 (by decide) (by decide)]
 ·rw [if_neg (by decide), if_neg (by decide), if_neg (by decide), if_neg (by decide), if_neg (by decide), if_neg (by decide), hv 0 (by decide) (by decide), hv 1 (by decide) (by decide), hv 2 (by decide) (by decide), hl 0 (by decide) (by decide), hl 1 (by decide) (by decide), hl 2 (by decide) (by decide)]
def AK.BK (V : AK) (k : Int) (s : A0) : AK := { V with Ap := V.Ap.put k s }
def I9 (V : AK) (k : Int) (s : A0) : List Value := (V.BK k s).enc
theorem AS.BK (V : AK) {k : Int} (h0 : 0 ≤ k) (h1 : k < 4) : AS (I9 V k) A0.enc (165 + k.toNat * 22) 22 (fun s => s) (fun _ y => y) := by
 have hl := AK.l1.comp (AS.arr (n := 4) A0.fl h0 h1)
 refine ⟨fun x => ?_, hl.len, fun x => hl.U3 _, fun x y => ?_, hl.one⟩
 ·have := hl.get (V.BK k x)
  rw [show ((V.BK k x).Ap.at k) = x from Vector.CM h0 h1] at this
  exact this
 ·have := hl.set (V.BK k x) y
  rw [show ({ V.BK k x with Ap := (V.BK k x).Ap.put k y } : AK) = V.BK k y from by unfold AK.BK; rw [Vector.EY]] at this
  exact this
theorem Vector.LF {α : Type} [Inhabited α] {n : Nat} (v : Vector α n) {k : Int} (h0 : 0 ≤ k) (h1 : k < n) : v.put k (v.at k) = v := by
 apply Sw
 intro i i0 i1
 by_cases e : i = k
 ·subst e; rw [Vector.CM h0 h1]
 ·rw [Vector.E1 h0 h1 i0 e]
theorem AK.JY (V : AK) {k : Int} (h0 : 0 ≤ k) (h1 : k < 4) : V.BK k (V.Ap.at k) = V := by
 unfold AK.BK; rw [Vector.LF _ h0 h1]
def Cj (v : A0) (l : BI) : A9 := ⟨v.state, v.A7, v.EG, v.Dx.now, v.Dx.Cd, v.Dx.ret, l.queue, Page.of v.out, l.wait, l.told⟩
def A3 (V : AK) (ls : Vector BI 4) (ev : List Event) : AM := ⟨V.w, Vector.ofFn fun i => Cj (V.Ap.at ((i : Nat) : Int)) (ls.at ((i : Nat) : Int)), V.Cc, ev⟩
theorem Ca (V : AK) (ls : Vector BI 4) (ev : List Event) {k : Int} (h0 : 0 ≤ k) (h1 : k < 4) : (A3 V ls ev).at_ k = Cj (V.Ap.at k) (ls.at k) := by
 rcases four h0 h1 with e | e | e | e <;> subst e <;> rfl
theorem Hv (V : AK) (ls : Vector BI 4) (ev : List Event) {k : Int} (h0 : 0 ≤ k) (h1 : k < 4) (v : A0) (l : BI) : A3 (V.BK k v) (ls.put k l) ev = (A3 V ls ev).set k (Cj v l) := by
 unfold A3 AM.set AK.BK
 congr 1
 apply Sw
 intro i i0 i1
 have hof : ∀ (f : Fin 4 → A9), (Vector.ofFn f).at i = f ⟨i.toNat, by omega⟩ := fun f => by
  rcases four i0 i1 with e | e | e | e <;> subst e <;> rfl
 rw [hof]
 have hi : ((i.toNat : Nat) : Int) = i := by omega
 by_cases e : i = k
 ·subst e
  rw [Vector.CM h0 h1]
  show Cj ((V.Ap.put i v).at ((i.toNat : Nat) : Int)) ((ls.put i l).at ((i.toNat : Nat) : Int)) = _
  rw [hi, Vector.CM h0 h1, Vector.CM h0 h1]
 ·rw [Vector.E1 h0 h1 i0 e, hof]
  show Cj ((V.Ap.put k v).at ((i.toNat : Nat) : Int)) ((ls.put k l).at ((i.toNat : Nat) : Int)) = Cj (V.Ap.at ((i.toNat : Nat) : Int)) (ls.at ((i.toNat : Nat) : Int))
  rw [hi, Vector.E1 h0 h1 i0 e, Vector.E1 h0 h1 i0 e]
section
variable {P : Program} {n : Nat} {w0 w : World} {M : List Nat} {Q : Exit → Go.Act → World → Prop} {F : List (Nat × Value)} {L K : List Ac} {cd : Code} {b T TS : Nat} {V : AK} {ls : Vector BI 4} {k : Int}
theorem St.aW (h0 : 0 ≤ k) (h1 : k < 4) (h : St w0 M w (Ac.box b T V.enc :: Ac.De (CB TS V.Ap ls) :: K)) :
  St w0 M w (Ac.own (V.Ap.at k).Dx.queue TS 1 ((ls.at k).queue.flatMap A4) :: Ac.own (V.Ap.at k).out.wait TS 1 ((ls.at k).wait.flatMap A4) :: Ac.own (V.Ap.at k).told TS 1 ((ls.at k).told.flatMap A4) :: Ac.box b T (I9 V k (V.Ap.at k)) :: Ac.De (F2 TS k V.Ap ls) :: K) := by
 have h2 : St w0 M w (CB TS V.Ap ls ++ (Ac.box b T V.enc :: K)) := (h.perm (List.Perm.swap ..)).Xu
 have h3 := h2.perm ((Oo TS h0 h1 V.Ap ls).append_right _)
 have h4 : St w0 M w (F2 TS k V.Ap ls ++ (FJ TS (V.Ap.at k) (ls.at k) ++ (Ac.box b T V.enc :: K))) := by
  refine h3.perm ?_
  rw [List.append_assoc]
  exact IL _ _ _
 have h5 := h4.YF
 unfold I9
 rw [V.JY h0 h1]
 refine h5.perm ?_
 exact (IL [Ac.De (F2 TS k V.Ap ls)] (FJ TS (V.Ap.at k) (ls.at k) ++ [Ac.box b T V.enc]) K).trans (.of_eq (by simp [FJ]))
theorem St.close' (h0 : 0 ≤ k) (h1 : k < 4) {s : A0} {qs ws ts : List As} {q w' t : Hd} (hq : s.Dx.queue = q) (hw : s.out.wait = w') (ht : s.told = t)
  (h : St w0 M w (Ac.own q TS 1 (qs.flatMap A4) :: Ac.own w' TS 1 (ws.flatMap A4) :: Ac.own t TS 1 (ts.flatMap A4) :: Ac.box b T (I9 V k s) :: Ac.De (F2 TS k V.Ap ls) :: K)) :
  St w0 M w (Ac.box b T (V.BK k s).enc :: Ac.De (CB TS (V.BK k s).Ap (ls.put k ⟨qs, ws, ts⟩)) :: K) := by
 subst hq hw ht
 have e1 : (V.BK k s).Ap.at k = s := Vector.CM h0 h1
 have e2 : (ls.put k ⟨qs, ws, ts⟩).at k = ⟨qs, ws, ts⟩ := Vector.CM h0 h1
 have hp := Oo TS h0 h1 (V.BK k s).Ap (ls.put k ⟨qs, ws, ts⟩)
 rw [e1, e2, show F2 TS k (V.BK k s).Ap (ls.put k ⟨qs, ws, ts⟩) = F2 TS k V.Ap ls from Tp TS h0 h1 _ _ _ _] at hp
 have h2 : St w0 M w (Ac.De (F2 TS k V.Ap ls) :: (FJ TS s ⟨qs, ws, ts⟩ ++ (Ac.box b T (V.BK k s).enc :: K))) :=
  h.perm ((IL [Ac.De (F2 TS k V.Ap ls)] (FJ TS s ⟨qs, ws, ts⟩ ++ [Ac.box b T (V.BK k s).enc]) K).symm.trans (.of_eq (by simp [FJ]))|>.symm.symm)
 have h3 := h2.Xu
 have h4 : St w0 M w ((FJ TS s ⟨qs, ws, ts⟩ ++ F2 TS k V.Ap ls) ++ (Ac.box b T (V.BK k s).enc :: K)) := h3.perm (by rw [List.append_assoc]; exact IL _ _ _)
 have h5 := (h4.perm (hp.symm.append_right _)).YF
 exact h5.perm (List.Perm.swap ..)
theorem Er (h0 : 0 ≤ k) (h1 : k < 4) (h : ∀ s l, V.Ap.at k = s → ls.at k = l → (s.Dx.queue.len = l.queue.length ∧ s.out.wait.len = l.wait.length ∧ s.told.len = l.told.length) → G P n w0 M cd Q F (Ac.own s.Dx.queue TS 1 (l.queue.flatMap A4) :: Ac.own s.out.wait TS 1 (l.wait.flatMap A4) :: Ac.own s.told TS 1 (l.told.flatMap A4) :: Ac.box b T (I9 V k s) :: Ac.De (F2 TS k V.Ap ls) :: K)) :
  G P n w0 M cd Q F (Ac.box b T V.enc :: Ac.De (CB TS V.Ap ls) :: K) := fun a w hF hS =>
 have hO := hS.aW h0 h1
 h _ _ rfl rfl ⟨(Kn.own (.head _) w hO).J7 DH (by decide), (Kn.own (.tail _ (.head _)) w hO).J7 DH (by decide), (Kn.own (.tail _ (.tail _ (.head _))) w hO).J7 DH (by decide)⟩ a w hF hO
theorem Gh (h0 : 0 ≤ k) (h1 : k < 4) {s : A0} {qs ws ts : List As} {q w' t : Hd} (hq : s.Dx.queue = q) (hw : s.out.wait = w') (ht : s.told = t) (h : G P n w0 M cd Q F (Ac.box b T (V.BK k s).enc :: Ac.De (CB TS (V.BK k s).Ap (ls.put k ⟨qs, ws, ts⟩)) :: K)) :
  G P n w0 M cd Q F (Ac.own q TS 1 (qs.flatMap A4) :: Ac.own w' TS 1 (ws.flatMap A4) :: Ac.own t TS 1 (ts.flatMap A4) :: Ac.box b T (I9 V k s) :: Ac.De (F2 TS k V.Ap ls) :: K) := fun a w hF hS => h a w hF (hS.close' h0 h1 hq hw ht)
theorem RY {x : Exit} (h0 : 0 ≤ k) (h1 : k < 4) {s : A0} {qs ws ts : List As} {q w' t : Hd} (hq : s.Dx.queue = q) (hw : s.out.wait = w') (ht : s.told = t) (h : GQ n w0 M Q x F (Ac.box b T (V.BK k s).enc :: Ac.De (CB TS (V.BK k s).Ap (ls.put k ⟨qs, ws, ts⟩)) :: K)) :
  GQ n w0 M Q x F (Ac.own q TS 1 (qs.flatMap A4) :: Ac.own w' TS 1 (ws.flatMap A4) :: Ac.own t TS 1 (ts.flatMap A4) :: Ac.box b T (I9 V k s) :: Ac.De (F2 TS k V.Ap ls) :: K) := fun a w hF hS => h a w hF (hS.close' h0 h1 hq hw ht)
end
theorem ER {V : AK} {ls : Vector BI 4} {ev : List Event} {k : Int} (h0 : 0 ≤ k) (h1 : k < 4) {s v : A0} {l l' : BI} (hs : V.Ap.at k = s) (hl : ls.at k = l) {f : A9 → A9} (e : Cj v l' = f (Cj s l)) : A3 (V.BK k v) (ls.put k l') ev = (A3 V ls ev).set k (f ((A3 V ls ev).at_ k)) := by
 rw [Hv V ls ev h0 h1, Ca V ls ev h0 h1, hs, hl, e]
theorem Ia {v : A0} {l : BI} (h : v.out.wait.len = l.wait.length) : (Cj v l).NG = Page.Bu v.out := by
 unfold A9.NG Page.Bu
 rw [h]; rfl
end Go.Ing
/- A house: plain laws for the walks. -/
namespace Go.Ing
open Go
theorem U4 {v : A0} {l : BI} {u : As} (hw : v.out.wait.len = l.wait.length) (h : Page.Bu v.out = false) : (Cj v l).line u = Cj v l := if_pos (by rw [Ia hw, h]; rfl)
theorem VY {v : A0} {l : BI} {u : As} (hw : v.out.wait.len = l.wait.length) (h : Page.Bu v.out = true) (c : v.out.cut = true) : (Cj v l).line u = Cj v l := (if_neg (by rw [Ia hw, h]; decide)).trans (if_pos c)
theorem UA {v : A0} {l : BI} {u : As} (hw : v.out.wait.len = l.wait.length) (h : Page.Bu v.out = true) (c : v.out.cut = false) (n : 60 ≤ l.wait.length) : (Cj v l).line u = Cj { v with out := ⟨v.out.wait, v.out.shown, v.out.B5, v.out.ring, true⟩ } l :=
 (if_neg (by rw [Ia hw, h]; decide)).trans ((if_neg (by show ¬ v.out.cut = true; rw [c]; decide)).trans (if_pos (decide_eq_true (show (60 : Int) ≤ (l.wait.length : Int) by omega))))
theorem UT {v : A0} {l : BI} {u : As} (hw : v.out.wait.len = l.wait.length) (h : Page.Bu v.out = true) (c : v.out.cut = false) (n : l.wait.length < 60) (w : Hd) : (Cj v l).line u = Cj { v with out := ⟨w, v.out.shown, v.out.B5, v.out.ring, v.out.cut⟩ } ⟨l.queue, l.wait ++ [u], l.told⟩ :=
 (if_neg (by rw [Ia hw, h]; decide)).trans ((if_neg (by show ¬ v.out.cut = true; rw [c]; decide)).trans (if_neg (by rw [decide_eq_true_eq]; show ¬ (60 : Int) ≤ (l.wait.length : Int); omega)))
theorem Yl {v : A0} {l : BI} {u : As} (h : (!v.out.cut) = true) (t : Hd) : (Cj v l).note u = Cj { v with told := t } ⟨l.queue, l.wait, l.told ++ [u]⟩ := if_pos h
theorem YZ {v : A0} {l : BI} {u : As} (h : (!v.out.cut) = false) : (Cj v l).note u = Cj v l := if_neg (by show ¬ (!v.out.cut) = true; rw [h]; decide)
theorem AM.IV (H : AM) {k j : Int} (h0 : 0 ≤ k) (h1 : k < 4) (j0 : 0 ≤ j) (s : A9) : (H.set k s).at_ j = if j = k then s else H.at_ j := by
 unfold AM.set AM.at_
 by_cases e : j = k
 ·subst e; rw [if_pos rfl]; exact Vector.CM h0 h1
 ·rw [if_neg e]; exact Vector.E1 h0 h1 j0 e
theorem CE (s : A9) (u : As) : (s.tell u).told.length ≤ s.told.length + 1 := by
 have h : (s.line u).told = s.told := by
  unfold A9.line; split
  ·rfl
  ·split
   ·rfl
   ·split <;> rfl
 unfold A9.tell A9.note
 split
 ·show ((s.line u).told ++ [u]).length ≤ _
  rw [h, List.length_append]; exact Nat.le_refl _
 ·rw [h]; exact Nat.le_succ _
theorem KJ {V V' : AK} {ls ls' : Vector BI 4} {ev ev' : List Event} {k : Int} {u : As} (h0 : 0 ≤ k) (h1 : k < 4) (e : A3 V' ls' ev' = (A3 V ls ev).tell k u) {j : Int} (j0 : 0 ≤ j) (j1 : j < 4) :
  (ls'.at j).told.length ≤ (ls.at j).told.length + 1 ∧ (j ≠ k → (ls'.at j).told = (ls.at j).told) := by
 have h := congrArg (fun H => (AM.at_ H j).told) e
 simp only [AM.tell] at h
 rw [Ca _ _ _ j0 j1, AM.IV _ h0 h1 j0] at h
 have h' : (ls'.at j).told = (if j = k then ((A3 V ls ev).at_ k).tell u else (A3 V ls ev).at_ j).told := h
 by_cases c : j = k
 ·subst c
  rw [if_pos rfl, Ca _ _ _ j0 j1] at h'
  exact ⟨by rw [h']; exact CE _ _, fun hn => absurd rfl hn⟩
 ·rw [if_neg c, Ca _ _ _ j0 j1] at h'
  exact ⟨by rw [h']; exact Nat.le_succ _, fun _ => h'⟩
theorem KV {V : AK} {ls : Vector BI 4} {ev : List Event} {e : Event} {X : AM} {i : Int} (h0 : 0 ≤ i) (h1 : i < 4) (h : A3 V ls ev = AM.Cm e X i.toNat) : AM.Cm e X (i + 1).toNat = if (!decide ((V.Ap.at i).state = 2)) = true then A3 V ls ev else if (AH.tell e (V.Ap.at i).A7).2 = true then (A3 V ls ev).tell i (AH.tell e (V.Ap.at i).A7).1 else A3 V ls ev := by
 obtain ⟨m, rfl⟩ := Int.eq_ofNat_of_zero_le h0
 have ha := Ca V ls ev h0 h1
 rw [show ((m : Int) + 1).toNat = m + 1 by omega, AM.Cm]
 rw [show ((m : Int)).toNat = m by omega] at h
 rw [← h, ha]
 rfl
theorem Rk {H : AM} {es : List Event} {k : Int} (h0 : 0 ≤ k) (h1 : k < es.length) : H.Ik (es.take (k + 1).toNat) = AM.Cm (es.getD k.toNat default) (H.Ik (es.take k.toNat)) 4 := by
 obtain ⟨m, rfl⟩ := Int.eq_ofNat_of_zero_le h0
 have hm : m < es.length := by omega
 show H.Ik (es.take (m + 1)) = AM.Cm (es.getD m default) (H.Ik (es.take m)) 4
 unfold AM.Ik
 rw [List.take_add_one, List.getElem?_eq_getElem hm, List.foldl_append, List.getD_eq_getElem?_getD, List.getElem?_eq_getElem hm]
 rfl
def WR (ls : Vector BI 4) (n : Nat) : Prop := ∀ j : Int, 0 ≤ j → j < 4 → (ls.at j).told.length ≤ n
theorem Wp {H : AM} {ev es : List Event} (h : H.last = ev) : AM.HE H es = ({ H with last := ev ++ es } : AM).Ik es := by subst h; rfl
end Go.Ing
/- What is said in a land of short names is short: plain laws. -/
namespace Go.Ing
open Go
namespace AH
structure L1 (w : AH) : Prop where
 th : ∀ i, (w.AX.at i).name.length ≤ 100
 be : ∀ i, (w.AW.at i).name.length ≤ 100
 ro : ∀ i, (w.Bz.at i).name.length ≤ 100
theorem L1.ME {w : AH} (h : w.L1) : w.D3 := ⟨fun i => Nat.le_trans (h.th i) (by decide), fun i => Nat.le_trans (h.be i) (by decide), fun i => Nat.le_trans (h.ro i) (by decide)⟩
theorem Vm {X : AH} (h : X.L1) {i : Int} {t : Al} (ht : t.name.length ≤ 100) : (X.KE i t).L1 := ⟨fun j => by
 rcases Vector.RR X.AX i j t with e | e
 ·show ((X.AX.put i t).at j).name.length ≤ _; rw [e]; exact ht
 ·show ((X.AX.put i t).at j).name.length ≤ _; rw [e]; exact h.th j, h.be, h.ro⟩
theorem Ht {X : AH} (h : X.L1) {i : Int} {t : Am} (ht : t.name.length ≤ 100) : (X.C1 i t).L1 := ⟨h.th, fun j => by
 rcases Vector.RR X.AW i j t with e | e
 ·show ((X.AW.put i t).at j).name.length ≤ _; rw [e]; exact ht
 ·show ((X.AW.put i t).at j).name.length ≤ _; rw [e]; exact h.be j, h.ro⟩
theorem VJ {X : AH} (h : X.L1) {r d : Int} {v : Bool} : (X.Yn r d v).L1 := ⟨h.th, h.be, fun j => by
 rcases Vector.RR X.Bz r j { X.Bz.at r with shut := (X.Bz.at r).shut.put d v } with e | e
 ·show ((X.Bz.put r _).at j).name.length ≤ _; rw [e]; exact h.ro r
 ·show ((X.Bz.put r _).at j).name.length ≤ _; rw [e]; exact h.ro j⟩
end AH
namespace AG
structure Cs (T : AG) : Prop where
 HB : T.w.L1
 out : ∀ e ∈ T.out, AH.Small e
theorem LV {w : AH} (hw : w.L1) : ∀ (l : List Int) (s : As), (HS w s l).length ≤ s.length + l.length * 102
 | [], s => by simp [HS]
 | i :: r, s => by
  have hn := hw.th i
  unfold HS
  split
  ·have := LV hw r (s ++ [32] ++ (w.AX.at i).name ++ [42])
   simp only [List.length_append, List.length_cons, List.length_nil] at this ⊢
   omega
  ·have := LV hw r (s ++ [32] ++ (w.AX.at i).name)
   simp only [List.length_append, List.length_cons, List.length_nil] at this ⊢
   omega
theorem MH : (default : Am).name.length ≤ 100 := by decide
section
variable {T : AG}
theorem Cs.Bk (h : Cs T) {e : Event} (h1 : e.B3.length ≤ 1000000) (h2 : e.text.length ≤ 1000000) (h3 : e.EC.length ≤ 1000000) (h4 : -9223372036854775808 ≤ e.n) (h5 : e.n ≤ 9223372036854775807) : Cs (T.Bk e) := by
 refine ⟨h.HB, fun x hx => ?_⟩
 rcases List.mem_append.1 (show x ∈ T.out ++ [T.w.HD (T.D4 e) 6] from hx) with hx | hx
 ·exact h.out x hx
 ·have hx' : x = T.w.HD (T.D4 e) 6 := by simpa using hx
  subst hx'
  obtain ⟨a1, a2, a3, a4, a5, a6, a7, a8, a9⟩ := AH.Lu T.w (T.D4 e) 6
  have e2 : (T.D4 e).n = e.n ∧ (T.D4 e).Hq = T.me.name ∧ (T.D4 e).EC.length ≤ 1000000 ∧ (T.D4 e).B3 = e.B3 ∧ (T.D4 e).text = e.text := by
   unfold D4
   split
   ·exact ⟨rfl, rfl, Nat.le_trans (h.HB.be _) (by decide), rfl, rfl⟩
   ·exact ⟨rfl, rfl, h3, rfl, rfl⟩
  obtain ⟨b4, b5, b6, b7, b8⟩ := e2
  refine ⟨?_, ?_, ?_, ?_, ?_, ?_⟩
  ·rw [a6, b5]; exact Nat.le_trans (h.HB.be T.b) (by decide)
  ·rw [a7]; exact Nat.le_trans b6 (by decide)
  ·rw [a8, b7]; exact Nat.le_trans h1 (by decide)
  ·rw [a9, b8]; exact Nat.le_trans h2 (by decide)
  ·rw [a5, b4]; exact h4
  ·rw [a5, b4]; exact h5
theorem Cs.tell (h : Cs T) {s : As} (hs : s.length ≤ 1000000) : Cs (T.tell s) := h.Bk (Nat.zero_le _) hs (Nat.zero_le _) (show (-9223372036854775808 : Int) ≤ 0 by decide) (show (0 : Int) ≤ 9223372036854775807 by decide)
theorem Cs.kind (h : Cs T) (k : Int) : Cs (T.kind k) := h.Bk (Nat.zero_le _) (Nat.zero_le _) (Nat.zero_le _) (show (-9223372036854775808 : Int) ≤ 0 by decide) (show (0 : Int) ≤ 9223372036854775807 by decide)
theorem Cs.B3 (h : Cs T) (k i : Int) : Cs (T.B3 k i) := h.Bk (Nat.le_trans (h.HB.th i) (by decide)) (Nat.zero_le _) (Nat.zero_le _) (show (-9223372036854775808 : Int) ≤ 0 by decide) (show (0 : Int) ≤ 9223372036854775807 by decide)
theorem Cs.land (h : Cs T) {w' : AH} (ht : w'.L1) : Cs { T with w := w' } := ⟨ht, h.out⟩
theorem Cs.D9 (h : Cs T) {i : Int} {t : Al} (ht : t.name = (T.w.AX.at i).name) : Cs (T.D9 i t) := h.land (w' := T.w.KE i t) (AH.Vm h.HB (by rw [ht]; exact h.HB.th i))
theorem Cs.place (h : Cs T) (i Cr at_ : Int) : Cs (T.place i Cr at_) := h.D9 rfl
theorem Cs.DR (h : Cs T) (k f : Int) : Cs (T.DR k f) := h.land (w' := T.w.C1 k { T.w.AW.at k with B7 := f }) (AH.Ht h.HB (h.HB.be k))
theorem Cs.DG (h : Cs T) (k : Int) {x : Am} (hx : x.name.length ≤ 100) : Cs (T.DG k x) := h.land (w' := T.w.C1 k x) (AH.Ht h.HB hx)
theorem Cs.Fv (h : Cs T) (r d : Int) (v : Bool) : Cs (T.Fv r d v) := h.land (w' := T.w.Yn r d v) (AH.VJ h.HB)
theorem Cs.JS (h : Cs T) (r : Int) : Cs (T.JS r) := h.land (w' := T.w.C1 T.b { T.me with room := r, B7 := 0 }) (AH.Ht h.HB (h.HB.be T.b))
theorem Cs.list (h : Cs T) {s : As} (hs : s.length ≤ 100) {l : List Int} (hl : l.length ≤ 9) : Cs (T.list s l) := by
 refine h.tell ?_
 have := LV h.HB l s
 unfold Qv
 split <;> simp only [List.length_append, List.length_cons, List.length_nil] <;> omega
theorem Cs.look (h : Cs T) : Cs T.look := by
 have hk : ∀ {T' : AG}, Cs T' → ∀ k : Nat, Cs (T'.Fa k) := fun {T'} h' k => by
  induction k with
  | zero => exact h'
  | succ k ih =>
   unfold Fa
   split
   ·exact ih.tell (by
     have := ih.HB.be k
     have e : (T'.Fa k).w = T'.w := (LH T' k).1
     rw [e] at this
     simp only [List.length_append, List.length_cons, List.length_nil]; omega)
   ·exact ih
 unfold AG.look
 split
 ·exact h.tell (by show ([73, 116, 32, 105, 115, 32, 100, 97, 114, 107, 46] : As).length ≤ _; decide)
 ·refine hk ?_ 6
  have ha : Cs T.Jz := (h.tell (by
   have := h.HB.ro T.me.room
   simp only [List.length_append, List.length_cons, List.length_nil]; omega)).tell (by
   have := L4 (T.w.Bz.at T.me.room) 6
   omega)
  unfold D2
  split
  ·exact ha.list (by decide) (AH.Hg ..)
  ·exact ha
theorem Cs.walk (h : Cs T) (d : Int) : Cs (T.walk d) := by
 unfold AG.walk
 split
 ·exact h.tell (by decide)
 ·split
  ·exact h.tell (by decide)
  ·have i1 : Cs (T.Bk { GH 1 with dir := d }) := h.Bk (Nat.zero_le _) (Nat.zero_le _) (Nat.zero_le _) (show (-9223372036854775808 : Int) ≤ 0 by decide) (show (0 : Int) ≤ 9223372036854775807 by decide)
   exact ((i1.JS _).Bk (e := { GH 2 with dir := AH.opposite d }) (Nat.zero_le _) (Nat.zero_le _) (Nat.zero_le _) (show (-9223372036854775808 : Int) ≤ 0 by decide) (show (0 : Int) ≤ 9223372036854775807 by decide)).look
theorem Cs.box (h : Cs T) (u : As) : Cs (T.box u).1 := by
 unfold AG.box
 split
 ·exact h.tell (by decide)
 ·split
  ·exact h.tell (by decide)
  ·exact h
theorem Cs.BN (h : Cs T) (u : As) : Cs (T.BN u).1 := by
 unfold AG.BN
 split
 ·split
  ·exact h
  ·exact h.tell (by decide)
 ·exact h.tell (by decide)
theorem Cs.Dg (l : List Int) : ∀ {T' : AG}, Cs T' → Cs (T'.Dg l) := by
 induction l with
 | nil => exact fun h => h
 | cons i r ih => exact fun {T'} h => ih ((h.place i 1 T'.b).B3 3 i)
theorem Cs.P1 (h : Cs T) (l : List Int) (o : Order) : Cs (T.P1 l o) := by
 unfold AG.P1
 refine Cs.Dg _ ?_
 split
 ·exact h.tell (by decide)
 ·exact h
theorem Cs.get (h : Cs T) (o : Order) : Cs (T.get o) := by
 unfold AG.get
 split
 ·split
  ·exact h.box _
  ·exact (h.box _).P1 _ _
 ·exact h.P1 _ _
theorem Cs.DX (h : Cs T) (v to i : Int) : Cs (T.DX v to i) := by
 unfold AG.DX
 split
 ·exact h.tell (by decide)
 ·split
  ·exact (h.place _ _ _).B3 _ _
  ·split
   ·exact (h.place i 1 to).Bk (e := { GH 6 with other := to, B3 := (T.w.AX.at i).name }) (Nat.le_trans (h.HB.th i) (by decide)) (Nat.zero_le _) (Nat.zero_le _) (show (-9223372036854775808 : Int) ≤ 0 by decide) (show (0 : Int) ≤ 9223372036854775807 by decide)
   ·split
    ·exact h.tell (by decide)
    ·exact (h.place i 2 to).Bk (e := { GH 5 with B3 := (T.w.AX.at i).name, text := (T.w.AX.at to).name }) (Nat.le_trans (h.HB.th i) (by decide)) (Nat.le_trans (h.HB.th to) (by decide)) (Nat.zero_le _) (show (-9223372036854775808 : Int) ≤ 0 by decide) (show (0 : Int) ≤ 9223372036854775807 by decide)
theorem Cs.Fp {v to : Int} (l : List Int) : ∀ {T' : AG}, Cs T' → Cs (T'.Fp v to l) := by
 induction l with
 | nil => exact fun h => h
 | cons i r ih => exact fun h => ih (h.DX v to i)
theorem Cs.Gx (h : Cs T) (o : Order) : Cs (T.Gx o) := by
 have ht : Cs (T.DI o).1 := by
  unfold DI
  split
  ·exact h.box _
  ·split
   ·exact h.BN _
   ·exact h
 unfold AG.Gx
 split
 ·exact ht
 ·unfold VO
  refine Cs.Fp _ ?_
  split
  ·exact ht.tell (by decide)
  ·exact ht
theorem Cs.GU (h : Cs T) (o : Order) : Cs (T.GU o) := by
 unfold AG.GU
 generalize (if (!decide (o.nth = 1) || o.Bm) = true then [] else o.name) = nm
 have hs := h.BN nm
 split
 ·exact hs
 ·refine Cs.tell ?_ (by decide)
  split
  ·exact (hs.DR _ _).DR _ _
  ·exact hs.DR _ _
theorem Cs.before (h : Cs T) (first : Bool) (i : Int) (v : Bool) (k : Int) : Cs (T.before first i v k) := by
 unfold AG.before
 split
 ·exact (Cs.D9 h (i := i) (t := { T.w.AX.at i with on := v }) rfl).B3 _ _
 ·exact (h.B3 k i).D9 rfl
theorem Cs.JP (h : Cs T) (d : Int) (on : Bool) (k : Int) : Cs (T.JP d on k) := by
 unfold AG.JP
 split
 ·exact h.tell (by decide)
 ·split
  ·exact h.tell (by decide)
  ·refine Cs.Bk ?_ (by show ([100, 111, 111, 114] : As).length ≤ 1000000; decide) (Nat.zero_le _) (Nat.zero_le _) (show (-9223372036854775808 : Int) ≤ 0 by decide) (show (0 : Int) ≤ 9223372036854775807 by decide)
   split
   ·exact (h.Fv _ _ _).Fv _ _ _
   ·exact h.Fv _ _ _
theorem Cs.set (h : Cs T) (o : Order) : Cs (T.set o) := by
 unfold AG.set
 split
 ·exact h.JP _ _ _
 ·split
  ·exact h.tell (by decide)
  ·split
   ·exact h.tell (by decide)
   ·split
    ·exact h.before _ _ _ _
    ·exact h.before _ _ _ _
theorem Cs.Ck (l : List Int) : ∀ {T' : AG}, Cs T' → Cs (T'.Ck l) := by
 induction l with
 | nil => exact fun h => h
 | cons i r ih => exact fun {T'} h => ih (Cs.D9 h (i := i) rfl)
theorem Cs.Dy (h : Cs T) : ∀ k : Nat, Cs (T.Dy k)
 | 0 => h
 | k + 1 => by
  unfold AG.Dy
  split
  ·exact (Cs.Dy h k).DR _ _
  ·exact Cs.Dy h k
theorem Cs.GA (h : Cs T) : Cs T.GA := by
 rw [Mn]
 exact ((Cs.Ck _ h).Dy 6).DR _ _
theorem Cs.Km (h : Cs T) : Cs T.Km := by
 have hf := Cs.GA (h.kind 18)
 unfold AG.Km
 generalize (T.kind 18).GA = F at *
 exact hf.DG T.b (x := default) MH
theorem Cs.act (h : Cs T) {o : Order} (hx : o.text.length ≤ 1000000) : Cs (T.act o) := by
 unfold AG.act
 split
 ·exact h.walk _
 ·split
  ·exact h.look
  ·split
   ·exact h.list (by decide) (AH.Hg ..)
   ·split
    ·exact h.Bk (e := { GH 7 with text := o.text }) (Nat.zero_le _) hx (Nat.zero_le _) (show (-9223372036854775808 : Int) ≤ 0 by decide) (show (0 : Int) ≤ 9223372036854775807 by decide)
    ·split
     ·exact h.Km
     ·split
      ·exact h.GU _
      ·split
       ·exact h.get _
       ·split
        ·exact h.Gx _
        ·exact h.set _
end
theorem Me {X : AH} {b : Int} {o : Order} (hw : X.L1) (hx : o.text.length ≤ 1000000) : (Fe X b o).1.L1 ∧ ∀ e ∈ (Fe X b o).2.1, AH.Small e := by
 unfold Fe
 split
 ·exact ⟨hw, fun e h => by cases h⟩
 ·split
  ·exact ⟨hw, fun e h => by cases h⟩
  ·split
   ·exact ⟨hw, fun e h => by cases h⟩
   ·have := Cs.act (T := ⟨X, b, []⟩) ⟨hw, fun e h => by cases h⟩ hx
    exact ⟨this.HB, this.out⟩
theorem J9 {X : AH} {s : As} (hw : X.L1) : (Bi X s).1.L1 ∧ ∀ e ∈ (Bi X s).2.2.1, AH.Small e := by
 unfold Bi
 split
 ·exact ⟨hw, fun e h => by cases h⟩
 ·split
  ·exact ⟨hw, fun e h => by cases h⟩
  ·rename_i h1
   split
   ·exact ⟨hw, fun e h => by cases h⟩
   ·split
    ·exact ⟨hw, fun e h => by cases h⟩
    ·have hn : s.length ≤ 8 := by
      have h2 : Jb s = true := by simpa using h1
      simp only [Jb, Bool.and_eq_true, decide_eq_true_eq] at h2
      omega
     have h0 : Cs ⟨X.C1 (DN X 6) (KL s), DN X 6, []⟩ := ⟨AH.Ht hw (by show s.length ≤ 100; omega), fun e h => by cases h⟩
     have := (h0.kind 17).look
     exact ⟨this.HB, this.out⟩
theorem Se {w : AH} {b B7 n : Int} (hw : w.L1) (h0 : 1 ≤ n) (h1 : n ≤ 3) : Cs (CK w b B7 n) := by
 have hs : Cs ⟨w, b, []⟩ := ⟨hw, fun e h => by cases h⟩
 unfold CK
 exact (hs.Bk (e := { GH 14 with other := B7, n := n }) (Nat.zero_le _) (Nat.zero_le _) (Nat.zero_le _) (show -9223372036854775808 ≤ n by omega) (show n ≤ 9223372036854775807 by omega)).DG _ (hw.be B7)
theorem Cs.bp {T : AG} (h : Cs T) (b : Int) : Cs (T.DG b { T.w.AW.at b with room := 0, BM := 10 }) := h.DG b (h.HB.be b)
theorem Vs {w : AH} {b : Int} (hw : w.L1) : Cs (IP w b) := by
 have h0 : Cs (FX w b) := ⟨AH.Ht hw (hw.be b), fun e h => by cases h⟩
 have h1 : Cs (F7 w b) := by unfold F7; exact (h0.kind 15).GA
 unfold IP
 split
 ·generalize F7 w b = F at *
  exact h1.DG b (x := default) MH
 ·have h2 : Cs (It w b) := by unfold It; exact h1.bp b
  exact (h2.kind 17).look
theorem Sj {draw b : Int} (hb : 0 ≤ b) {s : AH × List Event} (h : s.1.L1 ∧ ∀ e ∈ s.2, AH.Small e) : (Et draw b s).1.L1 ∧ ∀ e ∈ (Et draw b s).2, AH.Small e := by
 have hh := Mk (draw := draw) hb
 unfold Et
 split
 ·exact h
 ·split
  ·exact ⟨AH.Ht h.1 (h.1.be b), h.2⟩
  ·have hk := Se (b := b) (B7 := (s.1.AW.at b).B7 - 1) h.1 hh.1 hh.2
   split
   ·have hd := Vs (b := (s.1.AW.at b).B7 - 1) hk.HB
    refine ⟨hd.HB, fun e he => ?_⟩
    rcases List.mem_append.1 he with he | he
    ·rcases List.mem_append.1 he with he | he
     ·exact h.2 e he
     ·exact hk.out e he
    ·exact hd.out e he
   ·refine ⟨hk.HB, fun e he => ?_⟩
    rcases List.mem_append.1 he with he | he
    ·exact h.2 e he
    ·exact hk.out e he
theorem NZ {X : AH} {draw : Int} (hw : X.L1) : ∀ k : Nat, (EH X draw k).1.L1 ∧ ∀ e ∈ (EH X draw k).2, AH.Small e
 | 0 => ⟨hw, fun e h => by cases h⟩
 | k + 1 => Sj (by omega) (NZ hw k)
theorem Nc {X : AH} {draw : Int} (hw : X.L1) : (Ch X draw).1.L1 ∧ ∀ e ∈ (Ch X draw).2.1, AH.Small e := by
 unfold Ch
 split
 ·exact ⟨hw, fun e h => by cases h⟩
 ·have h := NZ (draw := draw) hw 6
  generalize EH X draw 6 = r at *
  exact h
end AG
end Go.Ing
/- What a house keeps: plain laws. -/
namespace Go.Ing
open Go
namespace AM
def Y1 (q : List As) : Prop := q.length ≤ 6 ∧ ∀ s ∈ q, s.length ≤ 60
structure Fit (H : AM) (n m : Nat) : Prop where
 HB : H.w.L1
 told : ∀ k : Int, 0 ≤ k → k < 4 → (H.at_ k).told.length ≤ n
 last : H.last.length ≤ m
 A7 : ∀ k : Int, 0 ≤ k → k < 4 → (H.at_ k).state = 2 → 0 ≤ (H.at_ k).A7 ∧ (H.at_ k).A7 < 6
 wait : ∀ k : Int, 0 ≤ k → k < 4 → ∀ s ∈ (H.at_ k).wait, s.length ≤ 70368744000000
 queue : ∀ k : Int, 0 ≤ k → k < 4 → Y1 (H.at_ k).queue
variable {H : AM} {n m : Nat}
theorem Fit.mono (h : H.Fit n m) {n' m' : Nat} (hn : n ≤ n') (hm : m ≤ m') : H.Fit n' m' := ⟨h.HB, fun k a b => Nat.le_trans (h.told k a b) hn, Nat.le_trans h.last hm, h.A7, h.wait, h.queue⟩
theorem Fit.set (h : H.Fit n m) {k : Int} (h0 : 0 ≤ k) (h1 : k < 4) {s : A9} (ht : s.told.length ≤ n) (hb : s.state = 2 → 0 ≤ s.A7 ∧ s.A7 < 6) (hw : ∀ u ∈ s.wait, u.length ≤ 70368744000000) (hq : Y1 s.queue) : (H.set k s).Fit n m := by
 have e : ∀ j : Int, 0 ≤ j → (H.set k s).at_ j = if j = k then s else H.at_ j := fun j j0 => AM.IV H h0 h1 j0 s
 refine ⟨h.HB, fun j a b => ?_, h.last, fun j a b => ?_, fun j a b => ?_, fun j a b => ?_⟩ <;> rw [e j a] <;> split
 ·exact ht
 ·exact h.told j a b
 ·exact hb
 ·exact h.A7 j a b
 ·exact hw
 ·exact h.wait j a b
 ·exact hq
 ·exact h.queue j a b
theorem Fit.land (h : H.Fit n m) {w : AH} (hw : w.L1) : ({ H with w := w } : AM).Fit n m := ⟨hw, h.told, h.last, h.A7, h.wait, h.queue⟩
theorem O7 (s : A9) (u : As) : (s.line u).wait = s.wait ∨ (s.line u).wait = s.wait ++ [u] := by
 unfold A9.line
 split
 ·exact .inl rfl
 ·split
  ·exact .inl rfl
  ·split
   ·exact .inl rfl
   ·exact .inr rfl
theorem Ub (s : A9) (u : As) : (s.line u).state = s.state ∧ (s.line u).A7 = s.A7 ∧ (s.line u).queue = s.queue ∧ (s.line u).told = s.told := by
 unfold A9.line
 split
 ·exact ⟨rfl, rfl, rfl, rfl⟩
 ·split
  ·exact ⟨rfl, rfl, rfl, rfl⟩
  ·split <;> exact ⟨rfl, rfl, rfl, rfl⟩
theorem Jl (s : A9) (u : As) : (s.tell u).state = s.state ∧ (s.tell u).A7 = s.A7 ∧ (s.tell u).queue = s.queue ∧ (s.tell u).wait = (s.line u).wait := by
 obtain ⟨a, b, c, _⟩ := Ub s u
 unfold A9.tell A9.note
 split
 ·exact ⟨a, b, c, rfl⟩
 ·exact ⟨a, b, c, rfl⟩
theorem Fit.tell (h : H.Fit n m) {k : Int} (h0 : 0 ≤ k) (h1 : k < 4) {u : As} (hu : u.length ≤ 70368744000000) : (H.tell k u).Fit (n + 1) m := by
 obtain ⟨a, b, c, d⟩ := Jl (H.at_ k) u
 refine (h.mono (Nat.le_succ n) (Nat.le_refl m)).set h0 h1 (Nat.le_trans (CE _ _) (Nat.succ_le_succ (h.told k h0 h1))) (by rw [a, b]; exact h.A7 k h0 h1) (fun s hs => ?_) (by rw [c]; exact h.queue k h0 h1)
 rw [d] at hs
 rcases O7 (H.at_ k) u with e | e <;> rw [e] at hs
 ·exact h.wait k h0 h1 s hs
 ·rcases List.mem_append.1 hs with hs | hs
  ·exact h.wait k h0 h1 s hs
  ·rw [List.mem_singleton.1 hs]; exact hu
theorem XM {e : Event} (he : AH.Small e) (b : Int) : (AH.tell e b).1.length ≤ 70368744000000 := by
 unfold AH.tell
 split
 ·exact Nat.zero_le _
 ·split
  ·exact Nat.zero_le _
  ·refine Nat.le_trans (AH.OB he (AH.Om he b) (AH.Mp he b) _ _) ?_
   have := AH.Mr e b
   omega
theorem TX {k j : Int} (h0 : 0 ≤ k) (h1 : k < 4) (j0 : 0 ≤ j) (hn : j ≠ k) (u : As) : (H.tell k u).at_ j = H.at_ j := by
 unfold AM.tell
 rw [AM.IV H h0 h1 j0, if_neg hn]
theorem KB (e : Event) (H : AM) : ∀ k : Nat, k ≤ 4 → ∀ j : Int, (k : Int) ≤ j → j < 4 → (Cm e H k).at_ j = H.at_ j
 | 0, _, _, _, _ => rfl
 | k + 1, hk, j, h0, h1 => by
  have ih := KB e H k (by omega) j (by omega) h1
  unfold Cm
  split
  ·exact ih
  ·split
   ·rw [TX (by omega) (by omega) (by omega) (by omega)]; exact ih
   ·exact ih
theorem OJ {e : Event} (he : AH.Small e) (h : H.Fit n m) : ∀ k : Nat, k ≤ 4 → (Cm e H k).Fit (n + 1) m
 | 0, _ => h.mono (Nat.le_succ n) (Nat.le_refl m)
 | k + 1, hk => by
  have ih := OJ he h k (by omega)
  unfold Cm
  split
  ·exact ih
  ·split
   ·have hr := KB e H k (by omega) k (Int.le_refl _) (by omega)
    obtain ⟨a, b, c, d⟩ := Jl ((Cm e H k).at_ k) (AH.tell e ((Cm e H k).at_ k).A7).1
    unfold AM.tell
    refine ih.set (by omega) (by omega) ?_ (by rw [a, b]; exact ih.A7 k (by omega) (by omega)) (fun s hs => ?_) (by rw [c]; exact ih.queue k (by omega) (by omega))
    ·refine Nat.le_trans (CE _ _) ?_
     rw [hr]; exact Nat.succ_le_succ (h.told k (by omega) (by omega))
    ·rw [d] at hs
     rcases O7 ((Cm e H k).at_ k) (AH.tell e ((Cm e H k).at_ k).A7).1 with q | q <;> rw [q] at hs
     ·exact ih.wait k (by omega) (by omega) s hs
     ·rcases List.mem_append.1 hs with hs | hs
      ·exact ih.wait k (by omega) (by omega) s hs
      ·rw [List.mem_singleton.1 hs]; exact XM he _
   ·exact ih
theorem PF : ∀ (es : List Event) {H : AM} {n : Nat}, (∀ e ∈ es, AH.Small e) → H.Fit n m → (H.Ik es).Fit (n + es.length) m
 | [], _, _, _, h => h
 | e :: r, H, n, he, h => by
  have h1 := OJ (he e (List.mem_cons_self ..)) h 4 (Nat.le_refl 4)
  have h2 := PF r (fun x hx => he x (List.mem_cons_of_mem _ hx)) h1
  rw [List.length_cons, show n + (r.length + 1) = n + 1 + r.length by omega]
  exact h2
theorem Fit.HE (h : H.Fit n m) {es : List Event} (he : ∀ e ∈ es, AH.Small e) : (H.HE es).Fit (n + es.length) (m + es.length) := by
 refine PF (m := m + es.length) es he ?_
 exact ⟨h.HB, h.told, by show (H.last ++ es).length ≤ _; rw [List.length_append]; exact Nat.add_le_add_right h.last _, h.A7, h.wait, h.queue⟩
theorem Fit.free (h : H.Fit n m) {k : Int} (h0 : 0 ≤ k) (h1 : k < 4) : (H.set k default).Fit n m :=
 h.set h0 h1 (Nat.zero_le _) (fun e => absurd (show (0 : Int) = 2 from e) (by decide)) (fun u hu => by cases hu) ⟨Nat.zero_le _, fun u hu => by cases hu⟩
theorem PL : FY.text.length ≤ 1000000 := Nat.zero_le _
theorem Fit.leave (h : H.Fit n m) {k : Int} (h0 : 0 ≤ k) (h1 : k < 4) : (H.leave k).Fit (n + 11) (m + 11) := by
 unfold AM.leave
 refine Fit.free ?_ h0 h1
 split
 ·have hd := AG.Me (b := (H.at_ k).A7) (o := FY) h.HB PL
  have hl := AG.Mg H.w (H.at_ k).A7 FY
  exact (((h.land hd.1).free h0 h1).HE hd.2).mono (Nat.add_le_add_left hl n) (Nat.add_le_add_left hl m)
 ·exact h.mono (Nat.le_add_right ..) (Nat.le_add_right ..)
theorem RV (ht : Int) : ∀ (l : List As) (x : Page.Pg), ∀ s ∈ (Page.B4 ht l x).2, s ∈ l
 | [], _, s, h => h
 | q :: r, x, s, h => by
  unfold Page.B4 at h
  split at h
  ·exact h
  ·split at h
   ·exact h
   ·exact List.mem_cons_of_mem _ (RV ht r _ s h)
theorem UQ (s : A9) : s.B4.told = s.told ∧ s.B4.state = s.state ∧ s.B4.A7 = s.A7 ∧ s.B4.queue = s.queue ∧ ∀ u ∈ s.B4.wait, u ∈ s.wait := by
 unfold A9.B4
 split
 ·exact ⟨rfl, rfl, rfl, rfl, fun _ h => h⟩
 ·exact ⟨rfl, rfl, rfl, rfl, RV _ _ _⟩
theorem Fit.Vg (h : H.Fit n m) {k : Int} (h0 : 0 ≤ k) (h1 : k < 4) : (H.set k (H.at_ k).B4).Fit n m := by
 obtain ⟨a, b, c, d, e⟩ := UQ (H.at_ k)
 exact h.set h0 h1 (by rw [a]; exact h.told k h0 h1) (by rw [b, c]; exact h.A7 k h0 h1) (fun u hu => h.wait k h0 h1 u (e u hu)) (by rw [d]; exact h.queue k h0 h1)
theorem Ld (h : H.Fit n m) : ∀ k : Nat, k ≤ 4 → (H.DS k).1.Fit (n + 11 * k) (m + 11 * k)
 | 0, _ => h
 | k + 1, hk => by
  have ih := Ld h k (by omega)
  unfold DS
  split
  ·exact ih.mono (by omega) (by omega)
  ·split
   ·exact ((ih.Vg (by omega) (by omega)).leave (by omega) (by omega)).mono (by omega) (by omega)
   ·exact (ih.Vg (by omega) (by omega)).mono (by omega) (by omega)
theorem Od : ∀ (r : Nat) {H : AM} {n m : Nat}, H.Fit n m → (H.Il r).Fit (n + 44 * r) (m + 44 * r)
 | 0, _, _, _, h => h
 | r + 1, H, n, m, h => by
  have h1 := Ld h 4 (Nat.le_refl 4)
  unfold Il
  split
  ·exact h1.mono (by omega) (by omega)
  ·exact (Od r h1).mono (by omega) (by omega)
theorem Fit.B4 (h : H.Fit n m) : H.B4.Fit (n + 220) (m + 220) := Od 5 h
end AM
end Go.Ing
/- A house: plain laws for the walks, on. -/
namespace Go.Ing
open Go
theorem Hs {V : AK} {ls : Vector BI 4} {ev : List Event} {k : Int} (h0 : 0 ≤ k) (h1 : k < 4) : A3 (V.BK k default) (ls.put k ⟨[], [], []⟩) ev = (A3 V ls ev).set k default := Hv V ls ev h0 h1 _ _
theorem Nx {V : AK} {ls : Vector BI 4} {ev : List Event} {w : AH} : A3 { V with w := w } ls ev = { A3 V ls ev with w := w } := rfl
theorem QU {V V4 : AK} {ls ls4 : Vector BI 4} {ev ev4 : List Event} {k : Int} (h0 : 0 ≤ k) (h1 : k < 4) (c : (decide ((V.Ap.at k).state = 2) && (V.w.AW.at (V.Ap.at k).A7).here) = true)
  (e : A3 V4 ls4 ev4 = (A3 (AK.BK { V with w := (AG.Fe V.w (V.Ap.at k).A7 AM.FY).1 } k default) (ls.put k ⟨[], [], []⟩) ev).HE (AG.Fe V.w (V.Ap.at k).A7 AM.FY).2.1) :
  A3 (V4.BK k default) (ls4.put k ⟨[], [], []⟩) ev4 = (A3 V ls ev).leave k := by
 rw [Hs h0 h1, e, Hs h0 h1, Nx]
 have ha := Ca V ls ev h0 h1
 unfold AM.leave AM.SA
 rw [ha]
 rw [if_pos (show (decide ((Cj (V.Ap.at k) (ls.at k)).state = 2) && ((A3 V ls ev).w.AW.at (Cj (V.Ap.at k) (ls.at k)).A7).here) = true from c)]
 rfl
theorem TE {V : AK} {ls : Vector BI 4} {ev : List Event} {k : Int} (h0 : 0 ≤ k) (h1 : k < 4) (c : (decide ((V.Ap.at k).state = 2) && (V.w.AW.at (V.Ap.at k).A7).here) = false) :
  A3 (V.BK k default) (ls.put k ⟨[], [], []⟩) ev = (A3 V ls ev).leave k := by
 rw [Hs h0 h1]
 have ha := Ca V ls ev h0 h1
 unfold AM.leave
 rw [ha]
 rw [if_neg (show ¬ (decide ((Cj (V.Ap.at k) (ls.at k)).state = 2) && ((A3 V ls ev).w.AW.at (Cj (V.Ap.at k) (ls.at k)).A7).here) = true by rw [show (decide ((Cj (V.Ap.at k) (ls.at k)).state = 2) && ((A3 V ls ev).w.AW.at (Cj (V.Ap.at k) (ls.at k)).A7).here) = false from c]; decide)]
theorem F4 {V : AK} {ls : Vector BI 4} {ev : List Event} {n m : Nat} (h : (A3 V ls ev).Fit n m) : WR ls n := fun j j0 j1 => by
 have := h.told j j0 j1
 rw [Ca V ls ev j0 j1] at this
 exact this
theorem UF {V : AK} {ls : Vector BI 4} {ev : List Event} {n m : Nat} (h : (A3 V ls ev).Fit n m) {k : Int} (h0 : 0 ≤ k) (h1 : k < 4) : (V.Ap.at k).state ≠ 2 ∨ (0 ≤ (V.Ap.at k).A7 ∧ (V.Ap.at k).A7 < 6) := by
 have := h.A7 k h0 h1
 rw [Ca V ls ev h0 h1] at this
 by_cases c : (V.Ap.at k).state = 2
 ·exact .inr (this c)
 ·exact .inl c
theorem St.or {w0 w : World} {M : List Nat} {L : List Ac} {T TS : Nat} {h f g : Hd} {xs qs zs : List As} (ho : ZC T h xs TS f qs TS g zs) (hS : St w0 M w (Ac.own g TS 1 (zs.flatMap A4) :: Ac.own f TS 1 (qs.flatMap A4) :: L)) : St w0 M w (Ac.own h TS 1 (xs.flatMap A4) :: L) := by
 rcases ho with ⟨_, rfl, rfl, _, _⟩ | ⟨_, rfl, rfl⟩
 ·exact hS.sub (List.sublist_cons_self ..)
 ·exact hS.sub (List.Sublist.cons_cons _ (List.sublist_cons_self ..))
theorem aG {n : Nat} {w0 : World} {M : List Nat} {Q : Exit → Go.Act → World → Prop} {F : List (Nat × Value)} {L : List Ac} {x : Exit} {T TS : Nat} {h f g : Hd} {xs qs zs : List As} (ho : ZC T h xs TS f qs TS g zs) (k : GQ n w0 M Q x F (Ac.own h TS 1 (xs.flatMap A4) :: L)) : GQ n w0 M Q x F (Ac.own g TS 1 (zs.flatMap A4) :: Ac.own f TS 1 (qs.flatMap A4) :: L) := fun a w hF hS => k a w hF (St.or ho hS)
theorem Q1 {v : A0} {l : BI} (hw : v.out.wait.len = l.wait.length) (h : (!Page.Bu v.out || decide (v.EG.CZ < 0) || decide (200 < v.EG.CZ)) = true) : Cj v l = (Cj v l).B4 :=
 (if_pos (show (!(Cj v l).NG || decide (v.EG.CZ < 0) || decide (200 < v.EG.CZ)) = true by rw [Ia hw]; exact h)).symm
theorem Xh {v : A0} {l : BI} (hw : v.out.wait.len = l.wait.length) (h : (!Page.Bu v.out || decide (v.EG.CZ < 0) || decide (200 < v.EG.CZ)) = false) (w : Hd) :
  Cj { v with out := ⟨w, (Page.B4 v.EG.CZ l.wait (Page.of v.out)).1.shown, (Page.B4 v.EG.CZ l.wait (Page.of v.out)).1.B5, (Page.B4 v.EG.CZ l.wait (Page.of v.out)).1.ring, (Page.B4 v.EG.CZ l.wait (Page.of v.out)).1.cut⟩ } ⟨l.queue, (Page.B4 v.EG.CZ l.wait (Page.of v.out)).2, l.told⟩ = (Cj v l).B4 :=
 ((if_neg (show ¬ (!(Cj v l).NG || decide (v.EG.CZ < 0) || decide (200 < v.EG.CZ)) = true by rw [Ia hw, h]; decide)).trans rfl).symm
theorem KG {V : AK} {ls : Vector BI 4} {ev : List Event} {c : Bool} {H : AM} {i : Int} (h0 : 0 ≤ i) (h1 : i < 4) (h : (A3 V ls ev, c) = H.DS i.toNat) :
  H.DS (i + 1).toNat = if decide ((V.Ap.at i).state = 0) = true then (A3 V ls ev, c) else if (((A3 V ls ev).at_ i).B4).pg.cut = true then (((A3 V ls ev).set i ((A3 V ls ev).at_ i).B4).leave i, true) else ((A3 V ls ev).set i ((A3 V ls ev).at_ i).B4, c) := by
 obtain ⟨m, rfl⟩ := Int.eq_ofNat_of_zero_le h0
 have ha := Ca V ls ev h0 h1
 rw [show ((m : Int) + 1).toNat = m + 1 by omega, AM.DS]
 rw [show ((m : Int)).toNat = m by omega] at h
 rw [← h]
 rw [show decide (((A3 V ls ev).at_ (m : Int)).state = 0) = decide ((V.Ap.at (m : Int)).state = 0) by rw [ha]; rfl]
theorem TI {V V' : AK} {ls ls' : Vector BI 4} {ev ev' : List Event} {i : Int} (h0 : 0 ≤ i) (h1 : i < 4) {s : A9} (e : A3 V' ls' ev' = (A3 V ls ev).set i s) : (V'.Ap.at i).out.cut = s.pg.cut := by
 have h := congrArg (fun H => (AM.at_ H i).pg.cut) e
 rw [Ca V' ls' ev' h0 h1, AM.IV _ h0 h1 h0, if_pos rfl] at h
 exact h
theorem Ns {X : AM} {k : Int} (h0 : 0 ≤ k) (h1 : k < 5) : X.Il (5 - k).toNat = if (!(X.DS 4).2) = true then (X.DS 4).1 else (X.DS 4).1.Il (5 - (k + 1)).toNat := by
 rw [show (5 - k).toNat = (5 - (k + 1)).toNat + 1 by omega, AM.Il]
theorem O4 {H : AM} {n m : Nat} (h : H.Fit n m) {V : AK} {ls : Vector BI 4} {ev : List Event} {c : Bool} {i : Int} (h0 : 0 ≤ i) (h1 : i ≤ 4) (e : (A3 V ls ev, c) = H.DS i.toNat) : (A3 V ls ev).Fit (n + 44) (m + 44) := by
 have := AM.Ld h i.toNat (by omega)
 rw [← e] at this
 exact this.mono (by omega) (by omega)
theorem Wf {V : AK} {ls : Vector BI 4} {ev : List Event} {n m : Nat} (h : (A3 V ls ev).Fit n m) {k : Int} (h0 : 0 ≤ k) (h1 : k < 4) : ∀ s ∈ (ls.at k).wait, s.length ≤ 70368744000000 := by
 have := h.wait k h0 h1
 rw [Ca V ls ev h0 h1] at this
 exact this
end Go.Ing
/- A house: who comes, and what is typed: plain laws for the walks. -/
namespace Go.Ing
open Go
namespace Words
def OG (N : Nat) (o : Order) : Prop := o.name.length ≤ N ∧ o.second.length ≤ N ∧ o.text.length ≤ N
theorem FC (N : Nat) : OG N default := ⟨Nat.zero_le _, Nat.zero_le _, Nat.zero_le _⟩
theorem Wm (u p : As) : (MO u p).1.length ≤ u.length := by
 unfold MO
 split
 ·exact Nat.le_refl _
 ·show (List.drop _ u).length ≤ _
  rw [List.length_drop]; omega
theorem Vj (u : As) : (D6 u).2.1.length ≤ u.length := by
 unfold D6
 split
 ·exact Nat.zero_le _
 ·split
  ·exact Wm u _
  ·split
   ·split
    ·exact Nat.zero_le _
    ·exact Nat.le_refl _
   ·unfold OU
    have := (Mh 46 u).2
    split
    ·split
     ·exact Nat.zero_le _
     ·exact this
    ·exact Nat.zero_le _
theorem Vb {N : Nat} {o : Order} {j : As × Bool} {W : List As} {m : Nat} (h : OG N o) (hw : (W.getD 0 []).length ≤ N) : OG N (Pa o j W m).1 := by
 unfold Pa
 split
 ·exact h
 ·split
  ·exact FC N
  ·exact ⟨h.1, hw, h.2.2⟩
theorem YJ {N : Nat} {o : Order} {j : As × Bool} {W : List As} {m : Nat} (h : OG N o) (hw : ∀ i, (W.getD i []).length ≤ N) : OG N (SI o j W m).1 := by
 unfold SI
 split
 ·split
  ·exact FC N
  ·refine Vb h ?_
   have := hw 1
   rw [List.getD_eq_getElem?_getD, List.getElem?_drop, ← List.getD_eq_getElem?_getD]
   exact this
 ·exact Vb h (hw 0)
theorem WE {N : Nat} {v : Int} {W : List As} {m : Nat} (hw : ∀ i, (W.getD i []).length ≤ N) : OG N (Pl v W m).1 := by
 unfold Pl
 split
 ·exact FC N
 ·refine YJ ⟨Nat.le_trans (Vj _) (hw 0), Nat.zero_le _, Nat.zero_le _⟩ (fun i => ?_)
  rw [List.getD_eq_getElem?_getD, List.getElem?_drop, ← List.getD_eq_getElem?_getD]
  exact hw (1 + i)
theorem Qk (i : Nat) : (AH.F8.getD i []).length ≤ 20 := by
 rw [List.getD_eq_getElem?_getD]
 cases h : AH.F8[i]? with
 | none => exact Nat.zero_le _
 | some w =>
  have hm : w ∈ AH.F8 := List.mem_of_getElem? h
  have : ∀ w ∈ AH.F8, w.length ≤ 20 := by decide
  exact this w hm
theorem L6 (s : As) : OG (s.length + 20) (parse s).1 := by
 have hw : ∀ i, (((words s).drop 1).getD i []).length ≤ s.length + 20 := fun i => Nat.le_trans (Lc s i 1) (by omega)
 unfold parse
 split
 ·exact FC _
 ·split
  ·exact FC _
  ·unfold VW
   split
   ·split
    ·exact FC _
    ·refine ⟨Nat.zero_le _, Nat.zero_le _, ?_⟩
     show (said s).length ≤ _
     unfold said
     have h1 := K4 32 (RG 32 (cut 32 (PD 32 s)).2.1)
     have h2 := Pd 32 (cut 32 (PD 32 s)).2.1
     have h3 := (Mh 32 (PD 32 s)).2
     have h4 := K4 32 s
     omega
   ·split
    ·split
     ·exact FC _
     ·exact ⟨Nat.zero_le _, Nat.zero_le _, Nat.zero_le _⟩
    ·split
     ·exact FC _
     ·split
      ·split
       ·exact ⟨Nat.le_trans (Qk _) (by omega), Nat.zero_le _, Nat.zero_le _⟩
       ·exact WE hw
      ·exact WE hw
end Words
theorem UI {V : AK} {ls : Vector BI 4} {ev : List Event} {n m : Nat} (h : (A3 V ls ev).Fit n m) {k : Int} (h0 : 0 ≤ k) (h1 : k < 4) : AM.Y1 (ls.at k).queue := by
 have := h.queue k h0 h1
 rw [Ca V ls ev h0 h1] at this
 exact this
theorem AM.K7 (H : AM) {k : Int} (h0 : 0 ≤ k) (h1 : k < 4) : H.set k (H.at_ k) = H := by
 unfold AM.set AM.at_
 rw [Vector.LF _ h0 h1]
theorem Qy {X : AH} {s : As} (h : (AG.Bi X s).2.2.2 = 0) : 0 ≤ (AG.Bi X s).2.1 ∧ (AG.Bi X s).2.1 < 6 := by
 have hf := AG.O5 X 6 (Nat.le_refl 6)
 unfold AG.Bi at h ⊢
 split
 ·exact ⟨Int.le_refl 0, show (0 : Int) < 6 by decide⟩
 ·split
  ·exact ⟨Int.le_refl 0, show (0 : Int) < 6 by decide⟩
  ·split
   ·exact ⟨Int.le_refl 0, show (0 : Int) < 6 by decide⟩
   ·split
    ·rename_i h1 h2 h3 h4
     rw [if_neg h1, if_neg h2, if_neg h3, if_pos h4] at h
     exact absurd h (show ¬ (4 : Int) = 0 by decide)
    ·rename_i h4
     show 0 ≤ AG.DN X 6 ∧ AG.DN X 6 < 6
     rw [decide_eq_true_eq] at h4
     omega
namespace AM
variable {H : AM} {n m : Nat}
theorem Fit.enters (h : H.Fit n m) {k : Int} (h0 : 0 ≤ k) (h1 : k < 4) {u : As} (c : (AG.Bi H.w u).2.2.2 = 0) : (({ H with w := (AG.Bi H.w u).1 } : AM).set k { H.at_ k with state := 2, A7 := (AG.Bi H.w u).2.1 }).Fit n m := by
 have hs := AG.J9 (s := u) h.HB
 exact (h.land hs.1).set h0 h1 (h.told k h0 h1) (fun _ => Qy c) (h.wait k h0 h1) (h.queue k h0 h1)
theorem Fit.named (h : H.Fit n m) {k : Int} (h0 : 0 ≤ k) (h1 : k < 4) (u : As) : (H.named k u).Fit (n + 11) (m + 11) := by
 unfold AM.named
 split
 ·rename_i c
  have hs := AG.J9 (s := u) h.HB
  have hl := AG.Oz H.w u
  exact ((h.enters h0 h1 (of_decide_eq_true c)).HE hs.2).mono (by omega) (by omega)
 ·split
  ·exact (h.tell h0 h1 (show noRoom.length ≤ _ by decide)).mono (by omega) (by omega)
  ·exact (h.tell h0 h1 (show P6.length ≤ _ by decide)).mono (by omega) (by omega)
theorem Fit.order (h : H.Fit n m) {k : Int} (h0 : 0 ≤ k) (h1 : k < 4) {u : As} (hu : u.length ≤ 1000) : (H.order k u).Fit (n + 11) (m + 11) := by
 unfold AM.order
 split
 ·exact (h.tell h0 h1 (show YO.length ≤ _ by decide)).mono (by omega) (by omega)
 ·split
  ·exact h.leave h0 h1
  ·have hp := Words.L6 u
   have hd := AG.Me (b := (H.at_ k).A7) (o := (Words.parse u).1) h.HB (by have := hp.2.2; omega)
   have hl := AG.Mg H.w (H.at_ k).A7 (Words.parse u).1
   exact ((h.land hd.1).HE hd.2).mono (by omega) (by omega)
theorem Fit.FO (h : H.Fit n m) {k : Int} (h0 : 0 ≤ k) (h1 : k < 4) {q : As} {r : List As} (e : (H.at_ k).queue = q :: r) : (H.set k { H.at_ k with queue := r }.FO).Fit n m :=
 h.set h0 h1 (h.told k h0 h1) (h.A7 k h0 h1) (h.wait k h0 h1) (by
  have hq := h.queue k h0 h1
  rw [e] at hq
  exact ⟨Nat.le_of_succ_le hq.1, fun u hu => hq.2 u (List.mem_cons_of_mem _ hu)⟩)
theorem Fit.EV (h : H.Fit n m) {k : Int} (h0 : 0 ≤ k) (h1 : k < 4) : (H.EV k).Fit (n + 11) (m + 11) := by
 unfold AM.EV
 split
 ·exact h.mono (by omega) (by omega)
 ·split
  ·exact h.mono (by omega) (by omega)
  ·rename_i q r e
   have ht := h.FO h0 h1 e
   have hq := (h.queue k h0 h1).2 q (by rw [e]; exact List.mem_cons_self ..)
   simp only []
   split
   ·exact ht.mono (by omega) (by omega)
   ·split
    ·exact ht.named h0 h1 _
    ·exact ht.order h0 h1 (by omega)
theorem Je (h : H.Fit n m) : ∀ k : Nat, k ≤ 4 → (H.turns k).Fit (n + 11 * k) (m + 11 * k)
 | 0, _ => h
 | k + 1, hk => by
  have ih := Je h k (by omega)
  unfold AM.turns
  exact (ih.EV (by omega) (by omega)).mono (by omega) (by omega)
end AM
theorem Wt {V V3 V4 : AK} {ls ls3 ls4 : Vector BI 4} {ev ev4 : List Event} {k : Int} {u : As} (c : decide ((AG.Bi V.w u).2.2.2 = 0) = true)
  (e3 : A3 V3 ls3 ev = ({ A3 V ls ev with w := (AG.Bi V.w u).1 } : AM).set k { (A3 V ls ev).at_ k with state := 2, A7 := (AG.Bi V.w u).2.1 })
  (e : A3 V4 ls4 ev4 = (A3 V3 ls3 ev).HE (AG.Bi V.w u).2.2.1) : A3 V4 ls4 ev4 = (A3 V ls ev).named k u := by
 rw [e, e3]
 exact (if_pos c).symm
theorem XY {V V4 : AK} {ls ls4 : Vector BI 4} {ev ev4 : List Event} {k : Int} {u : As} (c : decide ((AG.Bi V.w u).2.2.2 = 0) = false) (c2 : decide ((AG.Bi V.w u).2.2.2 = 4) = true)
  (e : A3 V4 ls4 ev4 = (A3 V ls ev).tell k AM.noRoom) : A3 V4 ls4 ev4 = (A3 V ls ev).named k u := e.trans ((if_neg (by show ¬ decide ((AG.Bi V.w u).2.2.2 = 0) = true; rw [c]; decide)).trans (if_pos c2)).symm
theorem XR {V V4 : AK} {ls ls4 : Vector BI 4} {ev ev4 : List Event} {k : Int} {u : As} (c : decide ((AG.Bi V.w u).2.2.2 = 0) = false) (c2 : decide ((AG.Bi V.w u).2.2.2 = 4) = false)
  (e : A3 V4 ls4 ev4 = (A3 V ls ev).tell k AM.P6) : A3 V4 ls4 ev4 = (A3 V ls ev).named k u := e.trans ((if_neg (by show ¬ decide ((AG.Bi V.w u).2.2.2 = 0) = true; rw [c]; decide)).trans (if_neg (by show ¬ decide ((AG.Bi V.w u).2.2.2 = 4) = true; rw [c2]; decide))).symm
theorem S0 {V V4 : AK} {ls ls4 : Vector BI 4} {ev ev4 : List Event} {k : Int} {u : As} (h0 : 0 ≤ k) (h1 : k < 4) (c : (!decide ((Words.parse u).2 = 0)) = false) (c2 : decide ((Words.parse u).1.verb = 20) = false)
  (e : A3 V4 ls4 ev4 = (A3 { V with w := (AG.Fe V.w (V.Ap.at k).A7 (Words.parse u).1).1 } ls ev).HE (AG.Fe V.w (V.Ap.at k).A7 (Words.parse u).1).2.1) : A3 V4 ls4 ev4 = (A3 V ls ev).order k u := by
 rw [e, Nx]
 have ha := Ca V ls ev h0 h1
 unfold AM.order
 rw [if_neg (by rw [c]; decide), if_neg (by rw [c2]; decide), ha]
 rfl
theorem Ti {V : AK} {ls : Vector BI 4} {ev : List Event} {k : Int} (h0 : 0 ≤ k) (h1 : k < 4) (c : decide ((V.Ap.at k).state = 0) = true) : A3 V ls ev = (A3 V ls ev).EV k := by
 have ha := Ca V ls ev h0 h1
 exact (if_pos (show decide (((A3 V ls ev).at_ k).state = 0) = true by rw [ha]; exact c)).symm
theorem UO {V : AK} {ls : Vector BI 4} {ev : List Event} {k : Int} (h0 : 0 ≤ k) (h1 : k < 4) {sv : A0} {sl : BI} (hs : V.Ap.at k = sv) (hl : ls.at k = sl) (hq : sl.queue = []) (c : decide ((V.Ap.at k).state = 0) = false) :
  A3 (V.BK k sv) (ls.put k ⟨sl.queue, sl.wait, sl.told⟩) ev = (A3 V ls ev).EV k := by
 have ha := Ca V ls ev h0 h1
 rw [ER h0 h1 hs hl (f := fun x => x) rfl, AM.K7 _ h0 h1]
 unfold AM.EV
 rw [if_neg (show ¬ decide (((A3 V ls ev).at_ k).state = 0) = true by rw [ha]; show ¬ decide ((V.Ap.at k).state = 0) = true; rw [c]; decide)]
 have e : ((A3 V ls ev).at_ k).queue = [] := by rw [ha, hl]; exact hq
 split
 ·rfl
 ·rename_i q r e2; rw [e] at e2; cases e2
theorem DO {V : AK} {ls : Vector BI 4} {ev : List Event} {k : Int} (h0 : 0 ≤ k) (h1 : k < 4) {sv : A0} {sl : BI} (hs : V.Ap.at k = sv) (hl : ls.at k = sl) {q : As} {r : List As} (hq : sl.queue = q :: r) (c : decide ((V.Ap.at k).state = 0) = false) (h' : Hd) :
  A3 (V.BK k { sv with Dx := ⟨sv.Dx.now, sv.Dx.Cd, sv.Dx.ret, h'⟩, out := ⟨sv.out.wait, 0, false, sv.out.ring, sv.out.cut⟩ }) (ls.put k ⟨r, sl.wait, sl.told⟩) ev = (A3 V ls ev).set k { (A3 V ls ev).at_ k with queue := r }.FO ∧ ((A3 V ls ev).at_ k).queue = q :: r ∧
  (A3 V ls ev).EV k = if sv.out.B5 = true then (A3 V ls ev).set k { (A3 V ls ev).at_ k with queue := r }.FO else if decide (sv.state = 1) = true then ((A3 V ls ev).set k { (A3 V ls ev).at_ k with queue := r }.FO).named k (Words.PD 32 (Words.RG 32 q)) else ((A3 V ls ev).set k { (A3 V ls ev).at_ k with queue := r }.FO).order k q := by
 have ha := Ca V ls ev h0 h1
 have e : ((A3 V ls ev).at_ k).queue = q :: r := by rw [ha, hl]; exact hq
 refine ⟨ER h0 h1 hs hl (f := fun x => { x with queue := r }.FO) rfl, e, ?_⟩
 unfold AM.EV
 rw [if_neg (show ¬ decide (((A3 V ls ev).at_ k).state = 0) = true by rw [ha]; show ¬ decide ((V.Ap.at k).state = 0) = true; rw [c]; decide)]
 split
 ·rename_i e2; rw [e] at e2; cases e2
 ·rename_i q' r' e2
  rw [e] at e2
  obtain ⟨rfl, rfl⟩ := List.cons.inj e2
  have e3 : ((A3 V ls ev).at_ k).pg.B5 = sv.out.B5 := by rw [ha, hs]; rfl
  have e4 : ((A3 V ls ev).at_ k).state = sv.state := by rw [ha, hs]; rfl
  simp only [e3, e4]
theorem Rq {H : AM} {i : Int} (h0 : 0 ≤ i) : H.turns (i + 1).toNat = (H.turns i.toNat).EV i := by
 obtain ⟨m, rfl⟩ := Int.eq_ofNat_of_zero_le h0
 rfl
end Go.Ing
/- A house: who comes, bytes that come: plain laws for the walks. -/
namespace Go.Ing
open Go
def W2 : Hd := ⟨none, 0, 0⟩
def EB (t : AN) (g : Page.Pg) : A0 := ⟨1, -1, t, ⟨[], false, false, W2⟩, ⟨W2, g.shown, g.B5, g.ring, g.cut⟩, W2⟩
def XU : BI := ⟨[], [], []⟩
theorem RK {v : A0} {l : BI} {u : As} (hw : v.out.wait.len = l.wait.length) : (Cj v l).send u = Cj { v with out := ⟨v.out.wait, (Page.send v.out u).1.shown, (Page.send v.out u).1.B5, (Page.send v.out u).1.ring, (Page.send v.out u).1.cut⟩ } l := by
 unfold A9.send Page.send
 rw [Ia hw]
 cases h : Page.Bu v.out with
 | false => rfl
 | true =>
  have e : (Cj v l).pg.cut = v.out.cut := rfl
  cases hc : v.out.cut with
  | true => rw [e, hc]; show Cj v l = Cj { v with out := ⟨v.out.wait, v.out.shown, v.out.B5, v.out.ring, v.out.cut⟩ } l; rfl
  | false => rw [e, hc]; rfl
def Hk (t : AN) (opt : Int) : AN := if decide ((t.DB opt).2.1 = []) = true then ((t.DB opt).1.Ask opt).1 else (t.DB opt).1
def Ly (t : AN) (opt : Int) : As := if decide ((t.DB opt).2.1 = []) = true then (t.DB opt).2.1 ++ ((t.DB opt).1.Ask opt).2.1 else (t.DB opt).2.1 ++ []
def KI (t : AN) (g : Page.Pg) (opt : Int) : Page.Pg := (Page.send ⟨W2, g.shown, g.B5, g.ring, g.cut⟩ (Ly t opt)).1
theorem L8 (t : AN) (g : Page.Pg) (opt : Int) : (Cj (EB t g) XU).offer opt = Cj (EB (Hk t opt) (KI t g opt)) XU := by
 have h := RK (v := EB (Hk t opt) g) (l := XU) (u := Ly t opt) rfl
 unfold A9.offer
 have e : (Cj (EB t g) XU).EG = t := rfl
 rw [e]
 by_cases c : decide ((t.DB opt).2.1 = []) = true
 ·rw [if_pos c]
  have e1 : Hk t opt = ((t.DB opt).1.Ask opt).1 := if_pos c
  have e2 : Ly t opt = [] ++ ((t.DB opt).1.Ask opt).2.1 := (if_pos c).trans (by rw [of_decide_eq_true c])
  rw [← e1, ← e2]
  exact h
 ·rw [if_neg c]
  have e1 : Hk t opt = (t.DB opt).1 := if_neg c
  have e2 : Ly t opt = (t.DB opt).2.1 ++ [] := if_neg c
  rw [← e1, ← e2]
  exact h
def Dj (j : Int) : Int := (((Vector.replicate 2 (default : Int)).put 0 3).put 1 31).at j
def En : Nat → AN × Page.Pg
 | 0 => (default, ⟨0, false, [], false⟩)
 | j + 1 => (Hk (En j).1 (Dj j), KI (En j).1 (En j).2 (Dj j))
theorem Gd {j : Int} (h0 : 0 ≤ j) : En (j + 1).toNat = (Hk (En j.toNat).1 (Dj j), KI (En j.toNat).1 (En j.toNat).2 (Dj j)) := by
 obtain ⟨m, rfl⟩ := Int.eq_ofNat_of_zero_le h0
 rfl
theorem NP : Cj (EB (En 2).1 (En 2).2) XU = (({ (default : A9) with state := 1, A7 := -1 }).offer 3).offer 31 := by
 have h0 : ({ (default : A9) with state := 1, A7 := -1 } : A9) = Cj (EB (En 0).1 (En 0).2) XU := rfl
 rw [h0, L8, L8]
 rfl
theorem FH (t : AN) (opt : Int) : (t.DB opt).2.1.length ≤ 3 := by
 unfold AN.DB
 split
 ·exact Nat.zero_le _
 ·split
  ·exact Nat.zero_le _
  ·split
   ·exact Nat.zero_le _
   ·exact Nat.le_refl 3
theorem HT (t : AN) (opt : Int) : (t.Ask opt).2.1.length ≤ 3 := by
 unfold AN.Ask
 split
 ·exact Nat.zero_le _
 ·split
  ·exact Nat.zero_le _
  ·split
   ·exact Nat.zero_le _
   ·exact Nat.le_refl 3
theorem AM.Fit.comes {H : AM} {n m : Nat} (h : H.Fit n m) {k : Int} (h0 : 0 ≤ k) (h1 : k < 4) (t : AN) (g : Page.Pg) : (H.set k (Cj (EB t g) XU)).Fit n m :=
 h.set h0 h1 (Nat.zero_le _) (fun e => absurd (show (1 : Int) = 2 from e) (by decide)) (fun u hu => by cases hu) ⟨Nat.zero_le _, fun u hu => by cases hu⟩
theorem AM.Fit.Rc {H : AM} {n m : Nat} (h : H.Fit n m) {k : Int} (h0 : 0 ≤ k) (h1 : k < 4) : (H.Rc k).Fit (n + 221) (m + 220) := by
 unfold AM.Rc
 rw [← NP]
 exact ((h.comes h0 h1 _ _).tell h0 h1 (show AM.Hq.length ≤ _ by decide)).B4.mono (by omega) (by omega)
end Go.Ing
/- A house: an act: plain laws for the walks. -/
namespace Go.Ing
open Go
theorem Ou {v : A0} {l : BI} (h : v.Dx.queue.len = l.queue.length) : (Cj v l).KY = Bc.Bu v.Dx l.queue := by
 unfold A9.KY Bc.Bu Bc.IW
 rw [h]; rfl
theorem Tf {v : A0} {l : BI} {u : As} (h : v.Dx.queue.len = l.queue.length) (c : Bc.Bu v.Dx l.queue = false) : (Cj v l).typed u = (Cj v l, 0) := if_pos (by rw [Ou h, c]; rfl)
theorem WX {v : A0} {l : BI} {u : As} (h : v.Dx.queue.len = l.queue.length) (c : Bc.Bu v.Dx l.queue = true) (q : Hd) :
  (Cj v l).typed u = (Cj { v with Dx := ⟨(Bc.feed (Bc.start v.Dx l.queue) u).now, (Bc.feed (Bc.start v.Dx l.queue) u).Cd, (Bc.feed (Bc.start v.Dx l.queue) u).ret, q⟩ } ⟨(Bc.feed (Bc.start v.Dx l.queue) u).queue, l.wait, l.told⟩, (Bc.feed (Bc.start v.Dx l.queue) u).lost) :=
 (if_neg (by rw [Ou h, c]; decide)).trans rfl
theorem RZ (s : A9) (u : As) : (s.typed u).1.told = s.told ∧ (s.typed u).1.state = s.state ∧ (s.typed u).1.A7 = s.A7 ∧ (s.typed u).1.wait = s.wait ∧ (AM.Y1 s.queue → AM.Y1 (s.typed u).1.queue) := by
 unfold A9.typed
 split
 ·exact ⟨rfl, rfl, rfl, rfl, fun h => h⟩
 ·rename_i c
  refine ⟨rfl, rfl, rfl, rfl, fun _ => ?_⟩
  have hg : Bc.Bu ⟨s.now, s.Cd, s.ret, ⟨none, s.queue.length, 0⟩⟩ s.queue = true := by
   have : s.KY = true := by simpa using c
   exact this
  have ho := Bc.TD u ((Bc.G5 (l := ⟨s.now, s.Cd, s.ret, ⟨none, s.queue.length, 0⟩⟩) rfl).1 hg)
  exact ⟨ho.len, fun q hq => ((Bc.Gj q).1 (ho.queue q hq)).1⟩
theorem SB (s : A9) (u : As) : (s.send u).told = s.told ∧ (s.send u).state = s.state ∧ (s.send u).A7 = s.A7 ∧ (s.send u).wait = s.wait ∧ (s.send u).queue = s.queue := by
 unfold A9.send
 split
 ·exact ⟨rfl, rfl, rfl, rfl, rfl⟩
 ·split <;> exact ⟨rfl, rfl, rfl, rfl, rfl⟩
def DT (s : A9) (u : As) : A9 × Int := (s.bytes u).1.typed (s.bytes u).2
theorem QR (s : A9) (u : As) : (DT s u).1.told = s.told ∧ (DT s u).1.state = s.state ∧ (DT s u).1.A7 = s.A7 ∧ (DT s u).1.wait = s.wait ∧ (AM.Y1 s.queue → AM.Y1 (DT s u).1.queue) := by
 have h1 := RZ (s.bytes u).1 (s.bytes u).2
 have h2 := SB { s with EG := (s.EG.DQ u).1 } (s.EG.DQ u).2.2.1
 obtain ⟨a, b, c, d, e⟩ := h1
 obtain ⟨a', b', c', d', e'⟩ := h2
 exact ⟨a.trans a', b.trans b', c.trans c', d.trans d', fun hq => e (by rw [show (s.bytes u).1.queue = s.queue from e']; exact hq)⟩
theorem LI (H : AM) (k : Int) (u : As) : H.byte k u = (if decide (0 < (DT (H.at_ k) u).2) = true then (H.set k (DT (H.at_ k) u).1).tell k AM.QW else H.set k (DT (H.at_ k) u).1).B4 := rfl
def heard (v : A0) (u : As) : A0 := { v with EG := (v.EG.DQ u).1, out := ⟨v.out.wait, (Page.send v.out (v.EG.DQ u).2.2.1).1.shown, (Page.send v.out (v.EG.DQ u).2.2.1).1.B5, (Page.send v.out (v.EG.DQ u).2.2.1).1.ring, (Page.send v.out (v.EG.DQ u).2.2.1).1.cut⟩ }
theorem O8 {v : A0} {l : BI} {u : As} (hw : v.out.wait.len = l.wait.length) : (Cj v l).bytes u = (Cj (heard v u) l, (v.EG.DQ u).2.1) := by
 unfold A9.bytes
 exact congrArg (fun x => (x, _)) (RK (v := { v with EG := (v.EG.DQ u).1 }) (l := l) (u := (v.EG.DQ u).2.2.1) hw)
theorem Gp {v : A0} {l : BI} {u : As} (hw : v.out.wait.len = l.wait.length) (h : v.Dx.queue.len = l.queue.length) (c : Bc.Bu v.Dx l.queue = false) : DT (Cj v l) u = (Cj (heard v u) l, 0) := by
 unfold DT
 rw [O8 hw]
 exact Tf (v := heard v u) h c
theorem ID {v : A0} {l : BI} {u : As} (hw : v.out.wait.len = l.wait.length) (h : v.Dx.queue.len = l.queue.length) (c : Bc.Bu v.Dx l.queue = true) (q : Hd) :
  DT (Cj v l) u = (Cj { heard v u with Dx := ⟨(Bc.feed (Bc.start v.Dx l.queue) (v.EG.DQ u).2.1).now, (Bc.feed (Bc.start v.Dx l.queue) (v.EG.DQ u).2.1).Cd, (Bc.feed (Bc.start v.Dx l.queue) (v.EG.DQ u).2.1).ret, q⟩ } ⟨(Bc.feed (Bc.start v.Dx l.queue) (v.EG.DQ u).2.1).queue, l.wait, l.told⟩, (Bc.feed (Bc.start v.Dx l.queue) (v.EG.DQ u).2.1).lost) := by
 unfold DT
 rw [O8 hw]
 exact WX (v := heard v u) h c q
namespace AM
variable {H : AM} {n m : Nat}
theorem Pq {i : Int} (h0 : 0 ≤ i) : H.EL (i + 1).toNat = (H.EL i.toNat).set i { (H.EL i.toNat).at_ i with told := [] } := by
 obtain ⟨k, rfl⟩ := Int.eq_ofNat_of_zero_le h0
 rfl
theorem GW : ∀ k : Nat, (H.EL k).w = H.w ∧ (H.EL k).last = H.last ∧ (H.EL k).Cc = H.Cc
 | 0 => ⟨rfl, rfl, rfl⟩
 | k + 1 => GW k
theorem NW : ∀ k : Nat, k ≤ 4 → ∀ j : Int, 0 ≤ j → j < 4 → (H.EL k).at_ j = if j < k then { H.at_ j with told := [] } else H.at_ j
 | 0, _, j, j0, _ => by rw [if_neg (by omega)]; rfl
 | k + 1, hk, j, j0, j1 => by
  have ih := NW k (by omega)
  show (((H.EL k).set k _).at_ j) = _
  rw [IV _ (by omega) (by omega) j0]
  by_cases c : j = (k : Int)
  ·subst c
   rw [if_pos rfl, if_pos (by omega), ih _ j0 j1, if_neg (by omega)]
  ·rw [if_neg c, ih j j0 j1]
   by_cases c2 : j < (k : Int)
   ·rw [if_pos c2, if_pos (by omega)]
   ·rw [if_neg c2, if_neg (by omega)]
theorem NQ {j : Int} (j0 : 0 ≤ j) (j1 : j < 4) : H.begun.at_ j = { H.at_ j with told := [] } := by
 have := NW (H := { H with Cc := H.Cc + 1, last := [] }) 4 (Nat.le_refl 4) j j0 j1
 rw [if_pos (by omega)] at this
 exact this
theorem Fit.begun (h : H.Fit n m) : H.begun.Fit 0 0 := by
 have hs := GW (H := { H with Cc := H.Cc + 1, last := [] }) 4
 refine ⟨by show (EL _ 4).w.L1; rw [hs.1]; exact h.HB, fun j a b => ?_, by show (EL _ 4).last.length ≤ 0; rw [hs.2.1]; exact Nat.le_refl 0, fun j a b => ?_, fun j a b => ?_, fun j a b => ?_⟩ <;> rw [NQ a b]
 ·exact Nat.le_refl 0
 ·exact h.A7 j a b
 ·exact h.wait j a b
 ·exact h.queue j a b
theorem Fit.typed (h : H.Fit n m) {k : Int} (h0 : 0 ≤ k) (h1 : k < 4) (u : As) : (H.set k (DT (H.at_ k) u).1).Fit n m := by
 obtain ⟨a, b, c, d, e⟩ := QR (H.at_ k) u
 exact h.set h0 h1 (by rw [a]; exact h.told k h0 h1) (by rw [b, c]; exact h.A7 k h0 h1) (by rw [d]; exact h.wait k h0 h1) (e (h.queue k h0 h1))
theorem Fit.Lz (h : H.Fit n m) {k : Int} (h0 : 0 ≤ k) (h1 : k < 4) (z : Int) : (H.set k ((H.at_ k).Lz z)).Fit n m :=
 h.set h0 h1 (h.told k h0 h1) (h.A7 k h0 h1) (h.wait k h0 h1) (h.queue k h0 h1)
theorem Fit.Ol (h : H.Fit n m) (d : Int) : (H.Ol d).Fit (n + 400) (m + 400) := by
 have h1 := Je h 4 (Nat.le_refl 4)
 have hr := AG.Nc (draw := d) h1.HB
 have hl := AG.On h1.HB.ME d
 exact (((h1.land hr.1).HE hr.2).B4).mono (by omega) (by omega)
theorem Fit.byte (h : H.Fit 0 0) {k : Int} (h0 : 0 ≤ k) (h1 : k < 4) (u : As) : (H.byte k u).Fit 1000 1000 := by
 rw [LI]
 refine (Fit.B4 (n := 1) (m := 0) ?_).mono (by omega) (by omega)
 split
 ·exact (h.typed h0 h1 _).tell h0 h1 (show QW.length ≤ _ by decide)
 ·exact (h.typed h0 h1 _).mono (by omega) (by omega)
theorem KU (P : AM → Prop) (h0 : P H) (hp : ∀ d, P (H.Ol d)) (hc : ∀ k, 0 ≤ k → k < 4 → P (H.Rc k)) (hb : ∀ k u, 0 ≤ k → k < 4 → P (H.byte k u)) (ht : ∀ k z, 0 ≤ k → k < 4 → P ((H.set k ((H.at_ k).Lz z)).B4)) (hl : ∀ k, 0 ≤ k → k < 4 → P (H.leave k).B4) (a : Bt) : P (H.EO a).1 := by
 unfold AM.EO
 split
 ·dsimp only; exact hp a.n
 ·split
  ·dsimp only; exact h0
  ·split
   ·dsimp only; exact h0
   ·rename_i c
    have hs : 0 ≤ a.BK ∧ a.BK < 4 := by simp only [Bool.or_eq_true, decide_eq_true_eq] at c; omega
    split
    ·dsimp only; exact h0
    ·split
     ·dsimp only; exact hc _ hs.1 hs.2
     ·split
      ·dsimp only; exact hb _ _ hs.1 hs.2
      ·split
       ·dsimp only; exact ht _ _ hs.1 hs.2
       ·dsimp only; exact hl _ hs.1 hs.2
theorem Fit.EO (h : H.Fit 0 0) (a : Bt) : (H.EO a).1.Fit 1000 1000 :=
 KU (fun X => X.Fit 1000 1000) (h.mono (by omega) (by omega)) (fun d => (h.Ol d).mono (by omega) (by omega)) (fun k h0 h1 => (h.Rc h0 h1).mono (by omega) (by omega)) (fun k u h0 h1 => h.byte h0 h1 u)
  (fun k z h0 h1 => ((h.Lz h0 h1 z).B4).mono (by omega) (by omega)) (fun k h0 h1 => ((h.leave h0 h1).B4).mono (by omega) (by omega)) a
theorem Fit.act (h : H.Fit n m) (a : Bt) : (H.act a).1.Fit (n + 1000) (m + 1000) := by
 unfold AM.act
 split
 ·exact h.mono (by omega) (by omega)
 ·exact (h.begun.EO a).mono (by omega) (by omega)
theorem Fi {H : AM} (c : decide (400 ≤ H.Cc) = false) (a : Bt) : H.act a = H.begun.EO a := if_neg (by rw [c]; decide)
end AM
theorem GD (V : AK) (ls : Vector BI 4) (ev : List Event) {k : Int} (h0 : 0 ≤ k) (h1 : k < 4) : decide (((A3 V ls ev).at_ k).state = 0) = decide ((V.Ap.at k).state = 0) := by rw [Ca V ls ev h0 h1]; rfl
theorem Ez {V : AK} {ls : Vector BI 4} {ev : List Event} {k : Int} (h0 : 0 ≤ k) (h1 : k < 4) {sv v : A0} {sl l : BI} (hs : V.Ap.at k = sv) (hl : ls.at k = sl) {u : As} {z : Int} (e : DT (Cj sv sl) u = (Cj v l, z)) :
  A3 (V.BK k v) (ls.put k l) ev = (A3 V ls ev).set k (DT ((A3 V ls ev).at_ k) u).1 ∧ (DT ((A3 V ls ev).at_ k) u).2 = z := by
 have ha : DT ((A3 V ls ev).at_ k) u = (Cj v l, z) := by rw [Ca V ls ev h0 h1, hs, hl]; exact e
 rw [Hv V ls ev h0 h1, ha]
 exact ⟨rfl, rfl⟩
theorem H6 {V V2 : AK} {ls ls2 : Vector BI 4} {ev : List Event} {k : Int} (h0 : 0 ≤ k) (h1 : k < 4) {u : As} {z : Int} (e : A3 V2 ls2 ev = (A3 V ls ev).set k (DT ((A3 V ls ev).at_ k) u).1 ∧ (DT ((A3 V ls ev).at_ k) u).2 = z) (hF : (A3 V ls ev).Fit 0 0) : (A3 V2 ls2 ev).Fit 0 0 := by
 rw [e.1]; exact hF.typed h0 h1 u
theorem LU {V V2 V3 V4 : AK} {ls ls2 ls3 ls4 : Vector BI 4} {ev ev3 ev4 : List Event} {k : Int} (_ : 0 ≤ k) (_ : k < 4) {u : As} {z : Int} (e : A3 V2 ls2 ev = (A3 V ls ev).set k (DT ((A3 V ls ev).at_ k) u).1 ∧ (DT ((A3 V ls ev).at_ k) u).2 = z)
  (e3 : (decide (0 < z) = true ∧ A3 V3 ls3 ev3 = (A3 V2 ls2 ev).tell k AM.QW) ∨ (decide (0 < z) = false ∧ A3 V3 ls3 ev3 = A3 V2 ls2 ev)) (e4 : A3 V4 ls4 ev4 = (A3 V3 ls3 ev3).B4) : A3 V4 ls4 ev4 = (A3 V ls ev).byte k u := by
 rw [e4, LI, e.2]
 rcases e3 with ⟨c, e3⟩ | ⟨c, e3⟩
 ·rw [e3, if_pos c, e.1]
 ·rw [e3, if_neg (by rw [c]; decide), e.1]
theorem WM (V : AK) (ls : Vector BI 4) (ev : List Event) {k : Int} (h0 : 0 ≤ k) (h1 : k < 4) {sv : A0} (hs : V.Ap.at k = sv) (n : Int) : sv.out.ring.take (max 0 (min n (sv.out.ring.length : Int))).toNat = ((A3 V ls ev).at_ k).out n := by
 rw [Ca V ls ev h0 h1, hs]; rfl
theorem Tq (t : AN) (u : As) : (t.DQ u).2.1.length ≤ u.length := by
 unfold AN.DQ
 split
 ·exact Nat.zero_le _
 ·exact (AN.WJ u t).1
end Go.Ing
/- A house, from outside: plain laws for the walks. -/
namespace Go.Ing
open Go
namespace AM
def HL (H : AM) (i : Int) : Int × Int := if decide ((H.at_ i).state = 2) = true then (2, (H.at_ i).A7) else ((H.at_ i).state, -1)
theorem Ri : ∀ (l : List Bt) (H : AM) (a : Bt), run H (l ++ [a]) = (((run H l).1.act a).1, (run H l).2 ++ [((run H l).1.act a).2])
 | [], _, _ => rfl
 | b :: r, H, a => by
  have ih := Ri r (H.act b).1 a
  show ((run (H.act b).1 (r ++ [a])).1, (H.act b).2 :: (run (H.act b).1 (r ++ [a])).2) = _
  rw [ih]; rfl
theorem WZ {H : AM} {xs : List Bt} {k : Int} (h0 : 0 ≤ k) (h1 : k < xs.length) : run H (xs.take (k + 1).toNat) = (((run H (xs.take k.toNat)).1.act (xs.getD k.toNat default)).1, (run H (xs.take k.toNat)).2 ++ [((run H (xs.take k.toNat)).1.act (xs.getD k.toNat default)).2]) := by
 obtain ⟨m, rfl⟩ := Int.eq_ofNat_of_zero_le h0
 have hm : m < xs.length := by omega
 show run H (xs.take (m + 1)) = (((run H (xs.take m)).1.act (xs.getD m default)).1, (run H (xs.take m)).2 ++ [((run H (xs.take m)).1.act (xs.getD m default)).2])
 rw [List.take_add_one, List.getElem?_eq_getElem hm, List.getD_eq_getElem?_getD, List.getElem?_eq_getElem hm]
 exact Ri _ _ _
def Fits (H : AM) : Prop := ∃ n m, H.Fit n m
theorem Fits.act {H : AM} (h : H.Fits) (a : Bt) : (H.act a).1.Fits := by
 obtain ⟨n, m, h⟩ := h
 exact ⟨_, _, h.act a⟩
theorem Fits.run : ∀ (l : List Bt) {H : AM}, H.Fits → (run H l).1.Fits
 | [], _, h => h
 | a :: r, _, h => Fits.run r (h.act a)
theorem XD : AH.new.L1 := by
 refine ⟨fun i => ?_, fun i => ?_, fun i => ?_⟩
 ·rcases Vector.Nk AH.new.AX i with e | ⟨j, j0, j1, e⟩
  ·rw [e]; exact Nat.zero_le _
  ·rw [e]
   have : j = 0 ∨ j = 1 ∨ j = 2 ∨ j = 3 ∨ j = 4 ∨ j = 5 ∨ j = 6 ∨ j = 7 ∨ j = 8 := by omega
   rcases this with h | h | h | h | h | h | h | h | h <;> subst h <;> decide
 ·rcases Vector.Nk AH.new.AW i with e | ⟨j, j0, j1, e⟩
  ·rw [e]; exact Nat.zero_le _
  ·rw [e]
   have : j = 0 ∨ j = 1 ∨ j = 2 ∨ j = 3 ∨ j = 4 ∨ j = 5 := by omega
   rcases this with h | h | h | h | h | h <;> subst h <;> decide
 ·rcases Vector.Nk AH.new.Bz i with e | ⟨j, j0, j1, e⟩
  ·rw [e]; exact Nat.zero_le _
  ·rw [e]
   have : j = 0 ∨ j = 1 ∨ j = 2 ∨ j = 3 ∨ j = 4 ∨ j = 5 := by omega
   rcases this with h | h | h | h | h | h <;> subst h <;> decide
theorem WG {k : Int} (h0 : 0 ≤ k) (h1 : k < 4) : AM.new.at_ k = default := by
 rcases four h0 h1 with e | e | e | e <;> subst e <;> rfl
theorem XI : AM.new.Fit 0 0 := by
 refine ⟨XD, fun k a b => ?_, Nat.le_refl 0, fun k a b => ?_, fun k a b => ?_, fun k a b => ?_⟩ <;> rw [WG a b]
 ·exact Nat.le_refl 0
 ·exact fun e => absurd (show (0 : Int) = 2 from e) (by decide)
 ·exact fun u hu => by cases hu
 ·exact ⟨Nat.zero_le _, fun u hu => by cases hu⟩
end AM
theorem St.XA {w0 w : World} {M : List Nat} {L l : List Ac} (h : St w0 M w L) (hl : ∀ r ∈ l, r.CP = [] ∧ r.ok w) : St w0 M w (Ac.De l :: L) := by
 have hf : (Ac.De l).CP = [] := by
  show l.flatMap Ac.CP = []
  rw [List.flatMap_eq_nil_iff]
  exact fun r hr => (hl r hr).1
 refine ⟨h.os, h.tape, h.output, h.size, h.Gv, fun r hr => ?_, fun r hr => ?_, List.pairwise_cons.2 ⟨fun s hs b hb => ?_, h.IQ⟩⟩
 ·rcases List.mem_cons.1 hr with rfl | hr
  ·refine ⟨fun r hr => (hl r hr).2, ?_⟩
   refine List.Pairwise.imp_of_mem (R := fun _ _ => True) (fun {a b} ha hb _ x hx => ?_) (List.pairwise_of_forall (fun _ _ => trivial))
   rw [(hl a ha).1] at hx; cases hx
  ·exact h.ok r hr
 ·rcases List.mem_cons.1 hr with rfl | hr
  ·rw [hf]; exact fun b hb => by cases hb
  ·exact h.CP r hr
 ·rw [hf] at hb; cases hb
def Mi : Vector A0 4 := Vector.replicate 4 default
def Mj : Vector BI 4 := Vector.replicate 4 ⟨[], [], []⟩
theorem VE (T : Nat) (w : World) : ∀ r ∈ CB T Mi Mj, r.CP = [] ∧ r.ok w := by
 have hs : ∀ r ∈ FJ T default ⟨[], [], []⟩, r.CP = [] ∧ r.ok w := fun r hr => by
  unfold FJ at hr
  simp only [List.mem_cons, List.mem_nil_iff, or_false] at hr
  rcases hr with rfl | rfl | rfl <;> exact ⟨rfl, .inl ⟨rfl, rfl⟩⟩
 intro r hr
 have e : CB T Mi Mj = FJ T default ⟨[], [], []⟩ ++ (FJ T default ⟨[], [], []⟩ ++ (FJ T default ⟨[], [], []⟩ ++ FJ T default ⟨[], [], []⟩)) := rfl
 rw [e] at hr
 simp only [List.mem_append] at hr
 rcases hr with h | h | h | h <;> exact hs r h
def El (v : A0) : Int × Int := if decide (v.state = 2) = true then (2, v.A7) else (v.state, -1)
theorem IZ (V : AK) (ls : Vector BI 4) (ev : List Event) {i : Int} (h0 : 0 ≤ i) (h1 : i < 4) : El (V.Ap.at i) = (A3 V ls ev).HL i := by
 unfold AM.HL
 rw [Ca V ls ev h0 h1]
 rfl
end Go.Ing
/- Engine: calls of closures that read what they are handed; slices that are only read, beside boxes. -/
namespace Go.Ing
open Go
section
variable {P : Program} {n : Nat} {w0 : World} {M : List Nat} {Q : Exit → Go.Act → World → Prop} {F : List (Nat × Value)} {L : List Ac} {ops : Array Oper} {rest : List Oper}
def bL (w : World) (M : List Nat) (h : Hd) (T sz : Nat) (cs : List Value) : Prop := Rd w h T sz cs ∧ (cs ≠ [] → ∀ b o, h.a = some ⟨b, o, none⟩ → b ∉ M)
theorem Kn.Xk {h : Hd} {T sz : Nat} {cs : List Value} (hr : bL w0 M h T sz cs) : Kn w0 M L h T sz cs := fun w hS => by
 by_cases hc : cs = []
 ·subst hc; exact ⟨hr.1.1, fun h => absurd rfl h⟩
 ·exact hS.cY hr.1 (hr.2 hc)
end
theorem Rd.pull {w0 w : World} {L A K : List Ac} {h : Hd} {T sz : Nat} {cs : List Value} (hr : Rd w0 h T sz cs) (hS : St w0 [] w L) (hp : Av L A K) : bL w (CX A) h T sz cs :=
 ⟨hS.rd hr, fun hne b o e => by
  obtain ⟨b', o', C, fz, h1, h2, _⟩ := hr.2 hne
  rw [e] at h1
  injection h1 with h1
  injection h1 with h1
  subst h1
  exact OE h2 (by simp) hS hp⟩
instance : Inhabited AK := ⟨⟨default, Vector.replicate 4 default, 0, ⟨none, 0, 0⟩⟩⟩
end Go.Ing
/- Engine: the texts in a slice of acts that came in, and how much they can take. -/
namespace Go.Ing
open Go Go.RowKit Go.ChangeShapes Go.WideShapes Go.ChangeAt
section
variable {H : Type} {enc : TypeId × Value → H} {P : Program} {w : World}
theorem L9 {e : TypeId} {d : DataW H} : ∀ {l : List (DataW H)}, d ∈ l → ∀ n ∈ d.weights P e, n ∈ DataW.weightsAll P e l
 | [], h, _, _ => by cases h
 | x :: r, h, n, hn => by
  simp only [DataW.weightsAll]
  rcases List.mem_cons.1 h with rfl | h
  ·exact List.mem_append_left _ hn
  ·exact List.mem_append_right _ (L9 h n hn)
theorem R3 {t E TS : TypeId} {fs : Array Field} {h : Hd} {d : DataW H} {p : List MemPlace} {T0 : Nat} {xs : List Bt} (hT : P.underlying t = some (.slice E)) (hE : P.underlying E = some (.struct fs)) (hf : (fs[3]?).map (fun f => (f.type, f.offset)) = some (TS, 3)) (hS : P.underlying TS = some .string) (zE : P.cellsOf E = 4) (zS : P.cellsOf TS = 1)
  (hd : DataW.Trod enc P w 0 (fun _ => true) true t h.val d p) (hr : Rd w h T0 4 (xs.flatMap Bt.enc)) (hw : ∀ n ∈ d.weights P t, n ≤ reachBytes) : ∀ a ∈ xs, a.bytes.length ≤ 140737488351232 := by
 have hlen : h.len = xs.length := hr.J7 Bt.fl (by decide)
 intro a ha
 obtain ⟨i, hi, rfl⟩ := List.getElem_of_mem ha
 have hb : ∃ b o, h.a = some ⟨b, o, none⟩ := by
  have hne : xs.flatMap Bt.enc ≠ [] := fun e => by
   have := congrArg List.length e
   rw [Cw Bt.fl.len] at this
   simp only [List.length_nil] at this
   omega
  obtain ⟨b, o, _, _, e, _⟩ := hr.2 hne
  exact ⟨b, o, e⟩
 obtain ⟨b, o, hb⟩ := hb
 obtain ⟨fuel, hfu⟩ := hd
 have hv : h.val = .slice (some ⟨b, o, none⟩) h.len h.cap := by rw [← hb]; rfl
 have hcs : h.val.cells.toList = [.slice (some ⟨b, o, none⟩) h.len h.cap] := by rw [hv]; rfl
 rw [hcs] at hfu
 rcases DataW.trod_slice hT hfu with ⟨h3, _⟩ | ⟨a', len, cap, elems, rest, m, _, h3, h4, _, hlc, _, h5, hel, _⟩
 ·simp at h3
 ·simp at h3
  obtain ⟨rfl, rfl, rfl⟩ := h3
  have hd' : d = .slice (elems.map (·.1)) (rest.map (·.1)) := congrArg Prod.fst h4
  have h6 := hel i (by omega)
  have hi' : i < elems.length := by omega
  rw [List.getElem?_eq_getElem hi', Option.bind_eq_some_iff] at h6
  obtain ⟨c, h7, h9⟩ := h6
  obtain ⟨ys, q, _, hx, hl, hlen', hfl⟩ := DataW.trod_struct hE h9
  cases hf3 : fs[3]? with
  | none => rw [hf3] at hf; cases hf
  | some f =>
   rw [hf3] at hf
   simp at hf
   obtain ⟨rfl, hoff⟩ := hf
   have h1 := hfl 3 f hf3
   have h3s : 3 < fs.size := by
    rcases Nat.lt_or_ge 3 fs.size with h' | h'
    ·exact h'
    ·rw [Array.getElem?_eq_none h'] at hf3; cases hf3
   have h2 : ys[3]? = some (ys[3]'(by omega)) := List.getElem?_eq_getElem (by omega)
   rw [h2, zS, hoff] at h1
   obtain ⟨s, e1, e2, _⟩ := DataW.trod_string hS h1
   have hc := World.cells?_some h7
   rw [zE] at hc
   have h10 := hc.2.2 3 (by omega)
   have h11 : c[3]? = some (.string s) := by
    have := congrArg (fun l => l[0]?) e1
    simp only [List.getElem?_take, List.getElem?_drop] at this
    simpa using this
   obtain ⟨b', o', C, fz, k1, k2, k3, k4⟩ := M8 Bt.fl Bt.l3 hr hi (by decide)
   have k1' : (some ⟨b, o, none⟩ : Option Addr) = some ⟨b', o', none⟩ := hb.symm.trans k1
   injection k1' with k1'
   injection k1' with kb ko
   subst kb; subst ko
   rw [EE, EE] at h10
   unfold World.cell? at h10
   simp only [k2] at h10
   have k5 : C[o + i * 4 + 3]? = some (BQ xs[i].bytes) := by
    have := congrArg (fun l => l[0]?) k4
    simp only [List.getElem?_take, List.getElem?_drop] at this
    simpa [A4] using this
   have k6 : BQ xs[i].bytes = .string s := by
    rw [h11] at h10
    have : C[o + i * 4 + 3]? = some (Value.string s) := by simpa using h10
    rw [k5] at this
    injection this
   have k7 : s.data.toList = xs[i].bytes := by
    simp [BQ] at k6
    rw [← k6]
   have hmem : xs[i].bytes.length ∈ d.weights P t := by
    rw [hd']
    simp only [DataW.weights, hT]
    refine List.mem_cons_of_mem _ (List.mem_append_left _ (L9 (d := elems[i].1) (List.mem_map.2 ⟨elems[i], List.getElem_mem _, rfl⟩) _ ?_))
    have hx' : elems[i].1 = .agg (ys.map (·.1)) := congrArg Prod.fst hx
    rw [hx']
    simp only [DataW.weights, hE]
    refine DataW.weights_mem_each (j := 3) (t := f.type) (d := (ys[3]'(by omega)).1) ?_ ?_ _ ?_
    ·rw [List.getElem?_map]; simp [hf3]
    ·rw [List.getElem?_map, h2]; rfl
    ·rw [e2, k7]; simp [DataW.weights]
   exact hw _ hmem
theorem UL {t TS : TypeId} {fs : Array Field} {i o : Nat} {v : Value} {d : DataW H} {p : List MemPlace} {s : As} (hu : P.underlying t = some (.struct fs)) (hfi : (fs[i]?).map (fun f => (f.type, f.offset)) = some (TS, o)) (hS : P.underlying TS = some .string) (zS : P.cellsOf TS = 1)
  (hd : DataW.Trod enc P w 0 (fun _ => true) true t v d p) (hh : (v.cells.toList.drop o).take 1 = [BQ s]) (hw : ∀ n ∈ d.weights P t, n ≤ reachBytes) : s.length ≤ 140737488351232 := by
 obtain ⟨fuel, hf⟩ := hd
 obtain ⟨xs, n, _, hx, hl, hlen, hfl⟩ := DataW.trod_struct hu hf
 cases hfi' : fs[i]? with
 | none => rw [hfi'] at hfi; cases hfi
 | some f =>
  rw [hfi'] at hfi
  simp at hfi
  obtain ⟨rfl, rfl⟩ := hfi
  have h1 := hfl i f hfi'
  have hi : i < fs.size := by
   rcases Nat.lt_or_ge i fs.size with h' | h'
   ·exact h'
   ·rw [Array.getElem?_eq_none h'] at hfi'; cases hfi'
  have h2 : xs[i]? = some (xs[i]'(by omega)) := List.getElem?_eq_getElem (by omega)
  rw [h2, zS, hh] at h1
  obtain ⟨s', e1, e2, _⟩ := DataW.trod_string hS h1
  have hs' : s'.data.toList = s := by
   have e3 : BQ s = .string s' := by simpa using e1
   simp [BQ] at e3
   rw [← e3]
  have hxd : d = .agg (xs.map (·.1)) := congrArg Prod.fst hx
  refine hw _ ?_
  rw [hxd]
  simp only [DataW.weights, hu]
  refine DataW.weights_mem_each (j := i) (t := f.type) (d := (xs[i]'(by omega)).1) ?_ ?_ _ ?_
  ·rw [List.getElem?_map]; simp [hfi']
  ·rw [List.getElem?_map, h2]; rfl
  ·rw [e2, hs']; simp [DataW.weights]
end
end Go.Ing
/- What every turn keeps: a principle. -/
namespace Go.Ing
open Go
namespace AG
inductive UK (w : AH) : As → Prop
 | word {s : As} : s ∈ [L0, We, SX, K1, QI, NJ, Zp, YD, Y7, Py] → UK w s
 | room (r : Int) : UK w ([84, 104, 101, 32] ++ (w.Bz.at r).name ++ [46])
 | ways (r : Room) : UK w (H3 r 6)
 | list {s : As} (l : List Int) : s ∈ [[72, 101, 114, 101, 32, 105, 115], [89, 111, 117, 32, 104, 97, 118, 101]] → UK w (Qv w s l ++ [46])
 | seen (k : Int) : UK w ((w.AW.at k).name ++ [32, 105, 115, 32, 104, 101, 114, 101, 46])
inductive Shape (x : As) (w : AH) : Event → Prop
 | cZ {s : As} : UK w s → Shape x w { GH 16 with text := s }
 | said : Shape x w { GH 7 with text := x }
 | kind {k : Int} : k = 15 ∨ k = 17 → Shape x w (GH k)
 | dir {k d : Int} : k = 1 ∨ k = 2 → Shape x w { GH k with dir := d }
 | B3 {k i : Int} : k = 3 ∨ k = 4 ∨ (8 ≤ k ∧ k ≤ 13) → Shape x w { GH k with B3 := (w.AX.at i).name }
 | JP {k : Int} : k = 8 ∨ k = 9 → Shape x w { GH k with B3 := Oi }
 | cX {i to : Int} : Shape x w { GH 6 with other := to, B3 := (w.AX.at i).name }
 | ba {i to : Int} : Shape x w { GH 5 with B3 := (w.AX.at i).name, text := (w.AX.at to).name }
 | CK {B7 n : Int} : 1 ≤ n → n ≤ 3 → Shape x w { GH 14 with other := B7, n := n }
def ev (w : AH) (b : Int) (e : Event) : Event := w.HD (D4 ⟨w, b, []⟩ e) 6
structure Rel (x : As) (q : Prop) (b : Int) (R : AH → List Event → AH → Prop) : Prop where
 refl : ∀ w, R w [] w
 trans : ∀ {X l Y m Z}, R X l Y → R Y m Z → R X (l ++ m) Z
 hap : ∀ {w e}, Shape x w e → R w [ev w b e] w
 B3 : ∀ {w : AH} {i : Int} {t : Al}, t.name = (w.AX.at i).name → t.kind = (w.AX.at i).kind → R w [] (w.KE i t)
 B7 : ∀ {w : AH} {k f : Int}, R w [] (w.C1 k { w.AW.at k with B7 := f })
 shut : ∀ {w : AH} {r d : Int} {v : Bool}, R w [] (w.Yn r d v)
 JS : ∀ {w : AH} {d r : Int}, R w [ev w b { GH 1 with dir := d }] (w.C1 b { w.AW.at b with room := r, B7 := 0 })
 Km : q → ∀ {w}, R w [ev w b (GH 18)] w
 gone : ∀ {X l w}, R X l w → (∃ e ∈ l, (e.kind = 18 ∨ (e.kind = 15 ∧ b < 2)) ∧ e.Ds = b) → R X l (w.C1 b default)
section
variable {x : As} {q : Prop} {b : Int} {R : AH → List Event → AH → Prop} (K : Rel x q b R) {X : AH} {T : AG}
include K
end
end AG
end Go.Ing
/- What every round of fights keeps, and every coming in: a principle. -/
namespace Go.Ing
open Go
namespace AG
structure bT (R : AH → List Event → AH → Prop) : Prop where
 all : ∀ b, 0 ≤ b → b < 6 → Rel [] False b R
 cg : ∀ {w : AH} {k h : Int}, R w [] (w.C1 k { w.AW.at k with BM := h })
 ca : ∀ {X l w} {b : Int}, 2 ≤ b → R X l w → (∃ e ∈ l, e.kind = 15 ∧ e.Ds = b) → R X l (w.C1 b { w.AW.at b with room := 0, BM := 10 })
section
variable {R : AH → List Event → AH → Prop} (K : bT R)
include K
omit K in
end
end AG
end Go.Ing
/- What happens within an act of a house, in small steps. -/
namespace Go.Ing
open Go
namespace A9
def Cm (s : A9) (e : Event) : A9 := if (AH.tell e s.A7).2 = true then s.tell (AH.tell e s.A7).1 else s
def JJ (s : A9) (es : List Event) : A9 := if s.state = 2 then es.foldl Cm s else s
end A9
theorem lt_next {j : Int} {k : Nat} (c : ¬ j = (k : Int)) : (j < ((k + 1 : Nat) : Int)) = (j < (k : Int)) := propext ⟨fun _ => by omega, fun _ => by omega⟩
namespace AM
theorem Jx (e : Event) (H : AM) : ∀ k : Nat, k ≤ 4 → ∀ j : Int, 0 ≤ j → j < 4 → (Cm e H k).at_ j = if j < k ∧ (H.at_ j).state = 2 then (H.at_ j).Cm e else H.at_ j
 | 0, _, j, h0, _ => by rw [if_neg (by omega)]; rfl
 | k + 1, hk, j, h0, h1 => by
  have ih := Jx e H k (by omega) j h0 h1
  have ihk := KB e H k (by omega) k (Int.le_refl _) (by omega)
  by_cases c : j = (k : Int)
  ·subst c
   unfold Cm
   rw [ihk]
   split
   ·rename_i c1
    rw [if_neg (by simp at c1; exact fun h => c1 h.2)]; exact ihk
   ·rename_i c1
    have hr : (if (k : Int) < ((k + 1 : Nat) : Int) ∧ (H.at_ k).state = 2 then (H.at_ k).Cm e else H.at_ k) = if (AH.tell e (H.at_ k).A7).2 = true then (H.at_ k).tell (AH.tell e (H.at_ k).A7).1 else H.at_ k := if_pos ⟨by omega, by simpa using c1⟩
    rw [hr]
    by_cases c2 : (AH.tell e (H.at_ k).A7).2 = true
    ·rw [if_pos c2, if_pos c2]
     unfold AM.tell
     rw [AM.IV _ (by omega) (by omega) h0, if_pos rfl, ihk]
    ·rw [if_neg c2, if_neg c2]; exact ihk
  ·have e2 : (Cm e H (k + 1)).at_ j = (Cm e H k).at_ j := by
    rw [Cm.eq_2]
    split
    ·rfl
    ·split
     ·exact TX (by omega) (by omega) h0 c _
     ·rfl
   rw [e2, ih]; simp only [lt_next c]
theorem XS (s : A9) (e : Event) : (s.Cm e).state = s.state ∧ (s.Cm e).A7 = s.A7 := by
 unfold A9.Cm
 split
 ·exact ⟨(Jl _ _).1, (Jl _ _).2.1⟩
 ·exact ⟨rfl, rfl⟩
theorem Rg {j : Int} (j0 : 0 ≤ j) (j1 : j < 4) : ∀ (es : List Event) (H : AM), (H.Ik es).at_ j = (H.at_ j).JJ es
 | [], H => by show H.at_ j = _; unfold A9.JJ; split <;> rfl
 | e :: r, H => by
  have ih := Rg j0 j1 r (Cm e H 4)
  show ((Cm e H 4).Ik r).at_ j = _
  have h1 := Jx e H 4 (Nat.le_refl 4) j j0 j1
  rw [ih, h1]
  by_cases c : (H.at_ j).state = 2
  ·rw [if_pos ⟨by omega, c⟩]
   unfold A9.JJ
   rw [if_pos c, if_pos (by rw [(XS _ e).1]; exact c)]
   rfl
  ·rw [if_neg (fun h => c h.2)]
   unfold A9.JJ
   rw [if_neg c, if_neg c]
theorem Wq (H : AM) (es : List Event) {j : Int} (j0 : 0 ≤ j) (j1 : j < 4) : (H.HE es).at_ j = (H.at_ j).JJ es := Rg j0 j1 es _
def W6 : List As := [Hq, QW, YO, P6, noRoom]
inductive GZ (U : As → Prop) (H : AM) : Int → AH → A9 → List Event → Prop
 | left {k : Int} : (H.at_ k).state = 2 → (H.w.AW.at (H.at_ k).A7).here = true → GZ U H k (AG.Fe H.w (H.at_ k).A7 FY).1 default (AG.Fe H.w (H.at_ k).A7 FY).2.1
 | XG {k : Int} {u : As} : (H.at_ k).state = 1 → (AG.Bi H.w u).2.2.2 = 0 → GZ U H k (AG.Bi H.w u).1 { H.at_ k with state := 2, A7 := (AG.Bi H.w u).2.1 } (AG.Bi H.w u).2.2.1
 | cM {k : Int} {q : As} : U q → (H.at_ k).state ≠ 0 → (H.at_ k).state ≠ 1 → (Words.parse q).1.verb ≠ 20 → GZ U H k (AG.Fe H.w (H.at_ k).A7 (Words.parse q).1).1 (H.at_ k) (AG.Fe H.w (H.at_ k).A7 (Words.parse q).1).2.1
 | round {d : Int} : GZ U H 0 (AG.Ch H.w d).1 (H.at_ 0) (AG.Ch H.w d).2.1
def QP (H : AM) (k : Int) (w : AH) (s : A9) (es : List Event) : AM := ({ H with w := w }.set k s).HE es
inductive Step (U : As → Prop) (H : AM) : AM → Prop
 | told {k : Int} {u : As} : 0 ≤ k → k < 4 → (H.at_ k).state ≠ 0 → u ∈ W6 → Step U H (H.tell k u)
 | B4 {k : Int} : 0 ≤ k → k < 4 → (H.at_ k).state ≠ 0 → Step U H (H.set k (H.at_ k).B4)
 | goes {k : Int} {w : AH} {s : A9} {es : List Event} : 0 ≤ k → k < 4 → GZ U H k w s es → Step U H (H.QP k w s es)
 | free {k : Int} : 0 ≤ k → k < 4 → ¬ ((H.at_ k).state = 2 ∧ (H.w.AW.at (H.at_ k).A7).here = true) → Step U H (H.set k default)
inductive Steps (U : As → Prop) (H : AM) : AM → Prop
 | refl : Steps U H H
 | tail {X Y : AM} : Steps U H X → Step U X Y → Steps U H Y
section
variable {U : As → Prop} {H X Y : AM}
theorem Step.one (h : Step U H X) : Steps U H X := .tail .refl h
theorem Steps.trans (h : Steps U H X) (k : Steps U X Y) : Steps U H Y := by
 induction k with
 | refl => exact h
 | tail _ s ih => exact ih.tail s
theorem Steps.Jp {P : AM → Prop} (hs : ∀ {H X : AM}, P H → Step U H X → P X) (h : P H) (k : Steps U H X) : P X := by
 induction k with
 | refl => exact h
 | tail _ s ih => exact hs ih s
theorem TC (H : AM) {k : Int} (h0 : 0 ≤ k) (h1 : k < 4) (w : AH) (s : A9) (es : List Event) {j : Int} (j0 : 0 ≤ j) (j1 : j < 4) : (H.QP k w s es).at_ j = (if j = k then s else H.at_ j).JJ es := by
 unfold QP
 rw [Wq _ _ j0 j1, IV _ h0 h1 j0]
 rfl
theorem Sm (es : List Event) : (default : A9).JJ es = default := if_neg (show ¬ (0 : Int) = 2 by decide)
theorem Iz (H : AM) {k : Int} (h0 : 0 ≤ k) (h1 : k < 4) : Steps U H (H.leave k) := by
 unfold AM.leave
 split
 ·rename_i c
  rw [Bool.and_eq_true, decide_eq_true_eq] at c
  have s : Step U H (H.QP k (AG.Fe H.w (H.at_ k).A7 FY).1 default (AG.Fe H.w (H.at_ k).A7 FY).2.1) := .goes h0 h1 (.left c.1 c.2)
  have e : (((H.SA k).set k default).HE (AG.Fe H.w (H.at_ k).A7 FY).2.1).set k default = H.QP k (AG.Fe H.w (H.at_ k).A7 FY).1 default (AG.Fe H.w (H.at_ k).A7 FY).2.1 := by
   show (H.QP k _ default _).set k default = _
   have := TC H h0 h1 (AG.Fe H.w (H.at_ k).A7 FY).1 default (AG.Fe H.w (H.at_ k).A7 FY).2.1 h0 h1
   rw [if_pos rfl, Sm] at this
   have h2 := K7 (H.QP k (AG.Fe H.w (H.at_ k).A7 FY).1 default (AG.Fe H.w (H.at_ k).A7 FY).2.1) h0 h1
   rw [this] at h2
   exact h2
  rw [e]
  exact s.one
 ·rename_i c
  exact (Step.free h0 h1 (fun h => c (by rw [Bool.and_eq_true, decide_eq_true_eq]; exact h))).one
theorem JH (H : AM) : ∀ k : Nat, k ≤ 4 → Steps U H (H.DS k).1
 | 0, _ => .refl
 | k + 1, hk => by
  have ih := JH H k (by omega)
  unfold DS
  split
  ·exact ih
  ·rename_i c
   have s : Step U (H.DS k).1 ((H.DS k).1.set k (((H.DS k).1.at_ k).B4)) := .B4 (by omega) (by omega) (by simpa using c)
   split
   ·exact (ih.tail s).trans (Iz _ (by omega) (by omega))
   ·exact ih.tail s
theorem L5 : ∀ (n : Nat) (H : AM), Steps U H (H.Il n)
 | 0, _ => .refl
 | n + 1, H => by
  unfold Il
  split
  ·exact JH H 4 (Nat.le_refl 4)
  ·exact (JH H 4 (Nat.le_refl 4)).trans (L5 n _)
theorem Sf (H : AM) : Steps U H H.B4 := L5 5 H
theorem QZ (H : AM) {k : Int} (h0 : 0 ≤ k) (h1 : k < 4) (hs : (H.at_ k).state = 1) (u : As) : Steps U H (H.named k u) := by
 unfold AM.named
 split
 ·rename_i c
  exact (Step.goes h0 h1 (.XG hs (of_decide_eq_true c))).one
 ·have hn : (H.at_ k).state ≠ 0 := by omega
  split
  ·exact (Step.told h0 h1 hn (by simp [W6])).one
  ·exact (Step.told h0 h1 hn (by simp [W6])).one
theorem Qb (H : AM) {k : Int} (h0 : 0 ≤ k) (h1 : k < 4) (hs : (H.at_ k).state ≠ 0) (h2 : (H.at_ k).state ≠ 1) {u : As} (hu : U u) : Steps U H (H.order k u) := by
 unfold AM.order
 split
 ·exact (Step.told h0 h1 hs (by simp [W6])).one
 ·split
  ·exact Iz H h0 h1
  ·rename_i c
   have := (Step.goes (H := H) h0 h1 (.cM hu hs h2 (fun e => c (decide_eq_true e)))).one
   unfold QP at this
   rw [show ({ H with w := (AG.Fe H.w (H.at_ k).A7 (Words.parse u).1).1 } : AM).set k (H.at_ k) = { H with w := (AG.Fe H.w (H.at_ k).A7 (Words.parse u).1).1 } from K7 { H with w := (AG.Fe H.w (H.at_ k).A7 (Words.parse u).1).1 } h0 h1] at this
   exact this
theorem Qr (H : AM) (d : Int) : Steps U H ({ H with w := (AG.Ch H.w d).1 }.HE (AG.Ch H.w d).2.1) := by
 have := (Step.goes (U := U) (H := H) (Int.le_refl 0) (by decide) (.round (d := d))).one
 unfold QP at this
 rw [show ({ H with w := (AG.Ch H.w d).1 } : AM).set 0 (H.at_ 0) = { H with w := (AG.Ch H.w d).1 } from K7 { H with w := (AG.Ch H.w d).1 } (Int.le_refl 0) (by decide)] at this
 exact this
def next (H : AM) (k : Int) (r : List As) : AM := H.set k { H.at_ k with queue := r }.FO
theorem Sr (H : AM) {k : Int} (h0 : 0 ≤ k) (h1 : k < 4) (hU : ∀ q ∈ (H.at_ k).queue, U q) : (((H.at_ k).state = 0 ∨ (H.at_ k).queue = []) ∧ H.EV k = H) ∨ ∃ q r, (H.at_ k).state ≠ 0 ∧ (H.at_ k).queue = q :: r ∧ Steps U (H.next k r) (H.EV k) := by
 unfold AM.EV
 split
 ·rename_i c; exact .inl ⟨.inl (of_decide_eq_true c), rfl⟩
 ·rename_i c
  have c' : (H.at_ k).state ≠ 0 := fun e => c (decide_eq_true e)
  split
  ·rename_i e; exact .inl ⟨.inr e, rfl⟩
  ·rename_i q r e
   refine .inr ⟨q, r, c', e, ?_⟩
   have ha : (H.next k r).at_ k = { H.at_ k with queue := r }.FO := by unfold next; rw [IV _ h0 h1 h0, if_pos rfl]
   have hst : ((H.next k r).at_ k).state = (H.at_ k).state := by rw [ha]; rfl
   show Steps U (H.next k r) (if (H.at_ k).pg.B5 = true then H.next k r else if decide ((H.at_ k).state = 1) = true then (H.next k r).named k (Words.PD 32 (Words.RG 32 q)) else (H.next k r).order k q)
   split
   ·exact .refl
   ·split
    ·rename_i c2
     exact QZ _ h0 h1 (by rw [hst]; exact of_decide_eq_true c2) _
    ·rename_i c2
     exact Qb _ h0 h1 (by rw [hst]; exact c') (by rw [hst]; exact fun e => c2 (decide_eq_true e)) (hU q (by rw [e]; exact List.mem_cons_self ..))
end
end AM
end Go.Ing
/- What a seat is behind every act: plain laws. -/
namespace Go.Ing
open Go
namespace Page
theorem NH (ht : Int) : ∀ (l : List As) (x : Pg), x.ring.length ≤ 700 → 0 ≤ x.shown → x.shown ≤ 200 → (B4 ht l x).1.ring.length ≤ 700 ∧ 0 ≤ (B4 ht l x).1.shown ∧ (B4 ht l x).1.shown ≤ 200
 | [], x, h1, h2, h3 => ⟨h1, h2, h3⟩
 | s :: r, x, h1, h2, h3 => by
  unfold B4
  split
  ·exact ⟨h1, h2, h3⟩
  ·split
   ·refine ⟨Ky h1, ?_, ?_⟩ <;> rw [Gi]
    ·exact h2
    ·exact h3
   ·refine NH ht r _ (Ky h1) ?_ ?_ <;> rw [Gi]
    ·show 0 ≤ min (x.shown + 1) 200; omega
    ·show min (x.shown + 1) 200 ≤ 200; omega
end Page
namespace A9
structure Ok (s : A9) : Prop where
 st : 0 ≤ s.state ∧ s.state ≤ 2
 n : s.wait.length ≤ 60
 ring : s.pg.ring.length ≤ 700
 s0 : 0 ≤ s.pg.shown
 s1 : s.pg.shown ≤ 200
 ln : Bc.Ok ⟨s.now, s.Cd, s.ret, s.queue, 0⟩
theorem YT (s : A9) : s.NG = true ↔ s.wait.length ≤ 60 ∧ s.pg.ring.length ≤ 700 ∧ 0 ≤ s.pg.shown ∧ s.pg.shown ≤ 200 := by
 simp only [NG, Bool.and_eq_true, decide_eq_true_eq]; omega
theorem YG (s : A9) : s.KY = true ↔ Bc.Ok ⟨s.now, s.Cd, s.ret, s.queue, 0⟩ :=
 Bc.G5 (l := ⟨s.now, s.Cd, s.ret, ⟨none, s.queue.length, 0⟩⟩) (qs := s.queue) rfl
variable {s : A9}
theorem Ok.NG (h : s.Ok) : s.NG = true := (YT s).2 ⟨h.n, h.ring, h.s0, h.s1⟩
theorem Ok.KY (h : s.Ok) : s.KY = true := (YG s).2 h.ln
theorem HM : (default : A9).Ok := ⟨⟨Int.le_refl 0, by decide⟩, Nat.zero_le _, Nat.zero_le _, Int.le_refl 0, by decide, (⟨Bc.Le, (fun s hs => by cases hs), Nat.zero_le _, (fun h => by cases h)⟩ : Bc.Ok ⟨[], false, false, [], 0⟩)⟩
theorem Ok.line (h : s.Ok) (u : As) : (s.line u).Ok := by
 unfold A9.line
 split
 ·exact h
 ·split
  ·exact h
  ·split
   ·exact ⟨h.st, h.n, h.ring, h.s0, h.s1, h.ln⟩
   ·rename_i c
    refine ⟨h.st, ?_, h.ring, h.s0, h.s1, h.ln⟩
    have hn := h.n
    have c' : ¬ (60 : Int) ≤ s.wait.length := fun e => c (decide_eq_true e)
    show (s.wait ++ [u]).length ≤ 60
    rw [List.length_append, List.length_singleton]; omega
theorem Ok.tell (h : s.Ok) (u : As) : (s.tell u).Ok := by
 have := h.line u
 unfold A9.tell A9.note
 split
 ·exact ⟨this.st, this.n, this.ring, this.s0, this.s1, this.ln⟩
 ·exact this
theorem Ok.B4 (h : s.Ok) : s.B4.Ok := by
 unfold A9.B4
 split
 ·exact h
 ·have hk := Page.NH s.EG.CZ s.wait s.pg h.ring h.s0 h.s1
  exact ⟨h.st, Nat.le_trans (Page.XW _ _ _) h.n, hk.1, hk.2.1, hk.2.2, h.ln⟩
theorem Ok.send (h : s.Ok) (u : As) : (s.send u).Ok := by
 unfold A9.send
 split
 ·exact h
 ·split
  ·exact h
  ·exact ⟨h.st, h.n, Page.Ky h.ring, by show 0 ≤ (Page.put s.pg u).shown; rw [Page.Gi]; exact h.s0, by show (Page.put s.pg u).shown ≤ 200; rw [Page.Gi]; exact h.s1, h.ln⟩
theorem Ok.EG (h : s.Ok) (t : AN) : ({ s with EG := t } : A9).Ok := ⟨h.st, h.n, h.ring, h.s0, h.s1, h.ln⟩
theorem Ok.offer (h : s.Ok) (opt : Int) : (s.offer opt).Ok := by
 unfold A9.offer
 split
 ·exact (h.EG _).send _
 ·exact (h.EG _).send _
theorem Ok.Lz (h : s.Ok) (n : Int) : (s.Lz n).Ok := ⟨h.st, h.n, by show (s.pg.ring.drop _).length ≤ 700; rw [List.length_drop]; have := h.ring; omega, h.s0, h.s1, h.ln⟩
theorem Ok.next (h : s.Ok) {q : As} {r : List As} (e : s.queue = q :: r) : ({ s with queue := r } : A9).FO.Ok :=
 ⟨h.st, h.n, h.ring, Int.le_refl 0, show (0 : Int) ≤ 200 by decide, ⟨h.ln.now, fun x hx => h.ln.queue x (by show x ∈ s.queue; rw [e]; exact List.mem_cons_of_mem _ hx), by
  have := h.ln.len
  have h2 : s.queue.length ≤ 6 := this
  rw [e, List.length_cons] at h2
  show r.length ≤ 6; omega, h.ln.ret⟩⟩
theorem Ok.typed (h : s.Ok) (u : As) : (DT s u).1.Ok := by
 have h1 : (s.bytes u).1.Ok := (h.EG _).send _
 unfold DT A9.typed
 split
 ·exact h1
 ·have ho := Bc.TD (s.bytes u).2 h1.ln
  exact ⟨h1.st, h1.n, h1.ring, h1.s0, h1.s1, ⟨ho.now, ho.queue, ho.len, ho.ret⟩⟩
theorem Ok.XG (h : s.Ok) (b : Int) : ({ s with state := 2, A7 := b } : A9).Ok := ⟨⟨show (0 : Int) ≤ 2 by decide, show (2 : Int) ≤ 2 by decide⟩, h.n, h.ring, h.s0, h.s1, h.ln⟩
theorem Ok.Cm (h : s.Ok) (e : Event) : (s.Cm e).Ok := by
 unfold A9.Cm; split
 ·exact h.tell _
 ·exact h
theorem TZ : ∀ (es : List Event) {s : A9}, s.Ok → (es.foldl A9.Cm s).Ok
 | [], _, h => h
 | e :: r, _, h => TZ r (h.Cm e)
theorem Ok.JJ (h : s.Ok) (es : List Event) : (s.JJ es).Ok := by
 unfold A9.JJ
 split
 ·exact TZ es h
 ·exact h
theorem Ok.heard (h : s.Ok) : ({ s with told := [] } : A9).Ok := ⟨h.st, h.n, h.ring, h.s0, h.s1, h.ln⟩
theorem Q1 (s : A9) (c : (decide (s.EG.CZ < 0) || decide (200 < s.EG.CZ)) = true) : s.B4 = s := by
 unfold A9.B4
 rw [if_pos]
 rw [Bool.or_assoc, c, Bool.or_true]
end A9
namespace AM
def Ir (H : AM) : Prop := ∀ k, 0 ≤ k → k < 4 → (H.at_ k).Ok
section
variable {U : As → Prop} {H X : AM}
theorem Ir.set (h : H.Ir) {k : Int} (h0 : 0 ≤ k) (h1 : k < 4) {s : A9} (hs : s.Ok) : (H.set k s).Ir := fun j j0 j1 => by
 rw [IV _ h0 h1 j0]; split
 ·exact hs
 ·exact h j j0 j1
theorem Ir.step (h : H.Ir) (s : Step U H X) : X.Ir := by
 cases s with
 | told h0 h1 _ _ => exact h.set h0 h1 ((h _ h0 h1).tell _)
 | B4 h0 h1 _ => exact h.set h0 h1 (h _ h0 h1).B4
 | free h0 h1 _ => exact h.set h0 h1 A9.HM
 | goes h0 h1 g =>
  intro j j0 j1
  rw [TC H h0 h1 _ _ _ j0 j1]
  refine A9.Ok.JJ ?_ _
  split
  ·cases g with
   | left _ _ => exact A9.HM
   | XG _ _ => exact (h _ h0 h1).XG _
   | cM _ _ _ _ => exact h _ h0 h1
   | round => exact h _ (Int.le_refl 0) (by decide)
  ·exact h j j0 j1
theorem Ir.steps (h : H.Ir) (s : Steps U H X) : X.Ir := Steps.Jp (P := Ir) (fun h s => h.step s) h s
/-! #### nobody is cut off behind all that flows -/
end
end AM
end Go.Ing
/- Acts that are played: plain laws. -/
namespace Go.Ing
open Go
namespace AN
def GO (t : AN) : Nat := if t.at_ = 2 then 2 else if t.at_ = 1 then 1 else 0
theorem Tv (t : AN) (b : UInt8) : (t.step b).2.2.length + (t.step b).1.GO ≤ 1 + t.GO := by
 unfold step; dsimp only
 split
 ·rename_i c; have c' := of_decide_eq_true c
  have hp : t.GO = 0 := by unfold GO; rw [if_neg (by omega), if_neg (by omega)]
  split
  ·exact Nat.le_add_right 1 _
  ·show 0 + t.GO ≤ 1 + t.GO; omega
 ·split
  ·rename_i c; have c' := of_decide_eq_true c
   have hp : t.GO = 1 := by unfold GO; rw [if_neg (by omega), if_pos c']
   rw [hp]
   split
   ·exact Nat.zero_le _
   ·split
    ·exact Nat.zero_le _
    ·split
     ·exact Nat.le_refl 2
     ·exact Nat.zero_le _
  ·split
   ·rename_i c; have c' := of_decide_eq_true c
    have hp : t.GO = 2 := by unfold GO; rw [if_pos c']
    rw [hp]
    exact Hh _ _ _
   ·split
    ·rename_i c; have c' := of_decide_eq_true c
     split
     ·exact Nat.zero_le _
     ·show 0 + (t.collect b).GO ≤ _
      have : (t.collect b).at_ = t.at_ := by unfold collect; split <;> rfl
      unfold GO; rw [this]; rw [if_neg (by omega), if_neg (by omega)]; omega
    ·split
     ·rename_i c; have c' := of_decide_eq_true c
      split
      ·show 0 + (collect { t with at_ := 3 } b).GO ≤ _
       have : (collect { t with at_ := 3 } b).at_ = 3 := by unfold collect; split <;> rfl
       unfold GO; rw [this]; rw [if_neg (by decide), if_neg (by decide)]; omega
      ·split
       ·show 0 + GO { t.measure with at_ := 0, sub := [] } ≤ _; exact Nat.zero_le _
       ·exact Nat.zero_le _
     ·show 0 + t.GO ≤ _; omega
theorem Lq : ∀ (s : As) (t : AN), (t.feed s).2.2.length ≤ s.length + t.GO
 | [], t => Nat.zero_le _
 | b :: s, t => by
  have h1 := Tv t b
  have h2 := Lq s (t.step b).1
  show ((t.step b).2.2 ++ ((t.step b).1.feed s).2.2).length ≤ s.length + 1 + t.GO
  rw [List.length_append]; omega
theorem TY (t : AN) : t.GO ≤ 2 := by unfold GO; split; exact Nat.le_refl 2; split <;> decide
theorem JQ.yb {X t : AN} {u x y : As} {k : Int} (h : JQ X u k t x y) : y.length ≤ u.length + 2 := by
 have h1 := Lq u X
 have h2 := TY X
 rw [h.e3, List.length_append] at h1
 omega
theorem Tu (t : AN) (u : As) : (t.DQ u).2.2.1.length ≤ u.length + 2 := by
 unfold DQ
 split
 ·exact Nat.zero_le _
 ·have h1 := Lq u t
  have h2 := TY t
  show (t.feed u).2.2.length ≤ _
  omega
end AN
namespace AM
section
variable {H : AM}
theorem Ir.tell (h : H.Ir) {k : Int} (h0 : 0 ≤ k) (h1 : k < 4) (u : As) : (H.tell k u).Ir := h.set h0 h1 ((h k h0 h1).tell u)
theorem Ir.B4 (h : H.Ir) : H.B4.Ir := h.steps (U := fun _ => True) (Sf H)
theorem Ir.EV (h : H.Ir) {k : Int} (h0 : 0 ≤ k) (h1 : k < 4) : (H.EV k).Ir := by
 rcases Sr (U := fun _ => True) H h0 h1 (fun _ _ => trivial) with ⟨_, e⟩ | ⟨q, r, _, e, s⟩
 ·rw [e]; exact h
 ·exact Ir.steps (h.set h0 h1 ((h k h0 h1).next e)) s
theorem Ir.turns (h : H.Ir) : ∀ k : Nat, k ≤ 4 → (H.turns k).Ir
 | 0, _ => h
 | k + 1, hk => (Ir.turns h k (by omega)).EV (by omega) (by omega)
theorem Ir.begun (h : H.Ir) : H.begun.Ir := fun k h0 h1 => by rw [NQ h0 h1]; exact (h k h0 h1).heard
theorem Ir.EO (h : H.Ir) (a : Bt) : (H.EO a).1.Ir :=
 KU (fun X => X.Ir) h (fun d => ((h.turns 4 (Nat.le_refl 4)).steps (U := fun _ => True) (Qr _ d)).B4)
  (fun k h0 h1 => ((h.set h0 h1 (((show ({ (default : A9) with state := 1, A7 := -1 } : A9).Ok from ⟨⟨show (0 : Int) ≤ 1 by decide, show (1 : Int) ≤ 2 by decide⟩, A9.HM.n, A9.HM.ring, A9.HM.s0, A9.HM.s1, A9.HM.ln⟩).offer 3).offer 31)).tell h0 h1 Hq).B4)
  (fun k u h0 h1 => by
   rw [LI]
   refine Ir.B4 ?_
   have hs := h.set h0 h1 ((h k h0 h1).typed u)
   split
   ·exact hs.tell h0 h1 QW
   ·exact hs)
  (fun k z h0 h1 => (h.set h0 h1 ((h k h0 h1).Lz z)).B4) (fun k h0 h1 => (h.steps (U := fun _ => True) (Iz H h0 h1)).B4) a
theorem Ir.act (h : H.Ir) (a : Bt) : (H.act a).1.Ir := by
 unfold AM.act
 split
 ·exact h
 ·exact h.begun.EO a
end
structure Live (H : AM) : Prop where
 fit : H.Fit 1000 1000
 Cc : 0 ≤ H.Cc
 bH : H.Ir
theorem Live.fits {H : AM} (h : H.Live) : H.Fits := ⟨_, _, h.fit⟩
theorem Xq : AM.new.Ir := fun k h0 h1 => by rw [WG h0 h1]; exact A9.HM
theorem OC : AM.new.Live := ⟨XI.mono (by decide) (by decide), Int.le_refl 0, Xq⟩
section
variable {H X : AM}
theorem M0 (e : Event) (H : AM) : ∀ k : Nat, (Cm e H k).Cc = H.Cc
 | 0 => rfl
 | k + 1 => by
  have ih := M0 e H k
  rw [Cm.eq_2]
  split
  ·exact ih
  ·split <;> exact ih
theorem N1 : ∀ (es : List Event) (H : AM), (H.Ik es).Cc = H.Cc
 | [], _ => rfl
 | e :: r, H => (N1 r _).trans (M0 e H 4)
theorem Jd (H : AM) (es : List Event) : (H.HE es).Cc = H.Cc := N1 es _
theorem KQ (H : AM) (k : Int) : (H.leave k).Cc = H.Cc := by
 unfold AM.leave
 split
 ·exact Jd _ _
 ·rfl
theorem Kb (H : AM) : ∀ k : Nat, (H.DS k).1.Cc = H.Cc
 | 0 => rfl
 | k + 1 => by
  have ih := Kb H k
  unfold DS
  split
  ·exact ih
  ·split
   ·exact (KQ _ _).trans ih
   ·exact ih
theorem M3 : ∀ (n : Nat) (H : AM), (H.Il n).Cc = H.Cc
 | 0, _ => rfl
 | n + 1, H => by
  unfold Il
  split
  ·exact Kb H 4
  ·exact (M3 n _).trans (Kb H 4)
theorem IB (H : AM) : H.B4.Cc = H.Cc := M3 5 H
theorem R6 (H : AM) (k : Int) : (H.EV k).Cc = H.Cc := by
 unfold AM.EV
 split
 ·rfl
 ·split
  ·rfl
  ·dsimp only
   split
   ·rfl
   ·split
    ·unfold AM.named
     split
     ·exact Jd _ _
     ·split <;> rfl
    ·unfold AM.order
     split
     ·rfl
     ·split
      ·exact KQ _ _
      ·exact Jd _ _
theorem NC (H : AM) : ∀ k : Nat, (H.turns k).Cc = H.Cc
 | 0 => rfl
 | k + 1 => (R6 _ _).trans (NC H k)
theorem UU (X : AM) (a : Bt) : (X.EO a).1.Cc = X.Cc :=
 KU (fun Y => Y.Cc = X.Cc) rfl (fun d => (IB _).trans ((Jd _ _).trans (NC X 4))) (fun k _ _ => IB _) (fun k u _ _ => by rw [LI, IB]; split <;> rfl) (fun k z _ _ => IB _) (fun k _ _ => (IB _).trans (KQ _ _)) a
theorem SV (H : AM) : H.begun.Cc = H.Cc + 1 := (GW (H := { H with Cc := H.Cc + 1, last := [] }) 4).2.2
theorem Qe (H : AM) (a : Bt) : (H.act a).1.Cc = if 400 ≤ H.Cc then H.Cc else H.Cc + 1 := by
 unfold AM.act
 by_cases c : 400 ≤ H.Cc
 ·rw [if_pos (decide_eq_true c), if_pos c]
 ·rw [if_neg (fun e => c (of_decide_eq_true e)), if_neg c]
  exact (UU _ _).trans (SV H)
theorem Live.act (h : H.Live) (a : Bt) : (H.act a).1.Live := ⟨by
 unfold AM.act
 split
 ·exact h.fit
 ·exact (h.fit.begun).EO a, by rw [Qe]; have := h.Cc; split <;> omega, h.bH.act a⟩
theorem Live.run : ∀ (l : List Bt) {H : AM}, H.Live → (H.run l).1.Live
 | [], _, h => h
 | a :: r, _, h => Live.run r (h.act a)
theorem Qa : ∀ (l : List Bt) {H : AM}, H.Cc + l.length ≤ 400 → (H.run l).1.Cc = H.Cc + l.length
 | [], H, _ => by show H.Cc = _; simp
 | a :: r, H, h => by
  rw [List.length_cons] at h
  have h1 : (H.act a).1.Cc = H.Cc + 1 := by rw [Qe, if_neg (by omega)]
  have := Qa r (H := (H.act a).1) (by rw [h1]; omega)
  show ((H.act a).1.run r).1.Cc = _
  rw [this, h1, List.length_cons]; omega
end
def QS (xs : List Bt) : AM := (AM.new.run (xs.take 150)).1
theorem HO (xs : List Bt) : (QS xs).Live := Live.run _ OC
theorem JE (xs : List Bt) : (QS xs).Cc = min (xs.length : Int) 150 := by
 unfold QS
 have hl : (xs.take 150).length = min 150 xs.length := List.length_take ..
 rw [Qa _ (by show (0 : Int) + _ ≤ 400; rw [hl]; omega), hl]
 show (0 : Int) + _ = _
 omega
theorem VR {xs : List Bt} {k : Int} (h0 : 0 ≤ k) (h1 : k < xs.length) (H : AM) : (H.run (xs.take (k + 1).toNat)).1 = ((H.run (xs.take k.toNat)).1.act (xs.getD k.toNat default)).1 := by rw [WZ h0 h1]
theorem Sq {xs : List Bt} {k : Int} (h0 : 0 ≤ k) (h1 : k ≤ xs.length) (h2 : k ≤ 150) (h : k = xs.length ∨ k = 150) : AM.new.run (xs.take k.toNat) = AM.new.run (xs.take 150) := by
 rcases h with h | h
 ·rw [h, show (xs.length : Int).toNat = xs.length by omega, List.take_length, List.take_of_length_le (by omega)]
 ·rw [h]; rfl
/-! #### does a house answer at all? -/
def Oj : Bt := ⟨1, 2, 0, []⟩
def type2 : Bt := ⟨2, 2, 0, [97, 110, 110, 13, 10]⟩
def SS : Bt := ⟨5, 0, 0, []⟩
theorem cS : AM.new.Live := OC
theorem cP : (AM.new.act Oj).1.Live := cS.act _
theorem cN : ((AM.new.act Oj).1.act type2).1.Live := cP.act _
def ah : AM := (((AM.new.act Oj).1.act type2).1.act SS).1
theorem Vz : ah.Live := cN.act _
theorem bV : (AM.new.act Oj).2.code = 0 := by kernel_rfl
theorem bM : (((AM.new.act Oj).1.act type2).1.act SS).2.code = 0 := by kernel_rfl
theorem bg : ah.HL 2 = (2, 2) := by kernel_rfl
theorem cD : decide (2 < ((ah.at_ 2).told.length : Int)) = true := by kernel_rfl
theorem Live.told {V : AK} {ls : Vector BI 4} {ev : List Event} (h : (A3 V ls ev).Live) {k : Int} (h0 : 0 ≤ k) (h1 : k < 4) : (ls.at k).told.length ≤ 1000000 := by
 have := h.fit.told k h0 h1
 rw [Ca _ _ _ h0 h1] at this
 exact Nat.le_trans this (by decide)
theorem Live.wait {V : AK} {ls : Vector BI 4} {ev : List Event} (h : (A3 V ls ev).Live) {k : Int} (h0 : 0 ≤ k) (h1 : k < 4) : (ls.at k).wait.length ≤ 1000000 := by
 have := (h.bH k h0 h1).n
 rw [Ca _ _ _ h0 h1] at this
 exact Nat.le_trans this (by decide)
theorem Live.queue {V : AK} {ls : Vector BI 4} {ev : List Event} (h : (A3 V ls ev).Live) {k : Int} (h0 : 0 ≤ k) (h1 : k < 4) : (ls.at k).queue.length ≤ 1000000 := by
 have := (h.bH k h0 h1).ln.len
 rw [Ca _ _ _ h0 h1] at this
 exact Nat.le_trans this (by decide)
theorem Live.last {V : AK} {ls : Vector BI 4} {ev : List Event} (h : (A3 V ls ev).Live) : ev.length ≤ 1000000 := Nat.le_trans h.fit.last (by decide)
/-! #### do two houses stand alike? -/
def Wb (s t : A9) : Bool := decide (s.wait = t.wait) && decide (s.pg.shown = t.pg.shown) && (s.pg.B5 == t.pg.B5) && decide (s.pg.ring = t.pg.ring) && (s.pg.cut == t.pg.cut)
def WL (s t : A9) : Bool := decide (s.now = t.now) && (s.Cd == t.Cd) && (s.ret == t.ret) && decide (s.queue = t.queue)
def sameAt (H K : AM) (k : Int) : Bool := !(!decide ((H.HL k).1 = (K.HL k).1) || !decide ((H.HL k).2 = (K.HL k).2) || !Wb (H.at_ k) (K.at_ k) || !WL (H.at_ k) (K.at_ k))
def same (H K : AM) : Bool := CA 4 (sameAt H K) 4 && decide (H.w = K.w)
theorem Xn {H K : AM} (hw : H.w = K.w) (hs : ∀ k, 0 ≤ k → k < 4 → { H.at_ k with told := [] } = { K.at_ k with told := [] }) : same H K = true := by
 unfold same
 rw [Bool.and_eq_true]
 refine ⟨(DK 4).2 fun k h0 h1 => ?_, decide_eq_true hw⟩
 have h := hs k (by omega) h1
 have e1 : (H.at_ k).state = (K.at_ k).state := by have q := congrArg A9.state h; exact q
 have e2 : (H.at_ k).A7 = (K.at_ k).A7 := by have q := congrArg A9.A7 h; exact q
 have e3 : (H.at_ k).wait = (K.at_ k).wait := by have q := congrArg A9.wait h; exact q
 have e4 : (H.at_ k).pg = (K.at_ k).pg := by have q := congrArg A9.pg h; exact q
 have e5 : (H.at_ k).now = (K.at_ k).now := by have q := congrArg A9.now h; exact q
 have e6 : (H.at_ k).Cd = (K.at_ k).Cd := by have q := congrArg A9.Cd h; exact q
 have e7 : (H.at_ k).ret = (K.at_ k).ret := by have q := congrArg A9.ret h; exact q
 have e8 : (H.at_ k).queue = (K.at_ k).queue := by have q := congrArg A9.queue h; exact q
 simp [sameAt, HL, Wb, WL, e1, e2, e3, e4, e5, e6, e7, e8]
end AM
theorem JU {V W : AK} {ls ms : Vector BI 4} {ev fv : List Event} {k : Int} (h0 : 0 ≤ k) (h1 : k < 4) : AM.sameAt (A3 V ls ev) (A3 W ms fv) k =
  !(!decide ((El (V.Ap.at k)).1 = (El (W.Ap.at k)).1) || !decide ((El (V.Ap.at k)).2 = (El (W.Ap.at k)).2) || !(decide ((ls.at k).wait = (ms.at k).wait) && decide ((V.Ap.at k).out.shown = (W.Ap.at k).out.shown) && ((V.Ap.at k).out.B5 == (W.Ap.at k).out.B5) && decide ((V.Ap.at k).out.ring = (W.Ap.at k).out.ring) && ((V.Ap.at k).out.cut == (W.Ap.at k).out.cut)) || !(decide ((V.Ap.at k).Dx.now = (W.Ap.at k).Dx.now) && ((V.Ap.at k).Dx.Cd == (W.Ap.at k).Dx.Cd) && ((V.Ap.at k).Dx.ret == (W.Ap.at k).Dx.ret) && decide ((ls.at k).queue = (ms.at k).queue))) := by
 unfold AM.sameAt
 rw [← IZ V ls ev h0 h1, ← IZ W ms fv h0 h1, Ca V ls ev h0 h1, Ca W ms fv h0 h1]
 rfl
end Go.Ing
/- An act that is refused, and acts behind the last: plain laws. -/
namespace Go.Ing
open Go
theorem XP {α : Type} (a b c : α) : [a, b, c].Perm [c, b, a] := List.reverse_perm [c, b, a]
namespace AM
theorem ND (H : AM) : H.begun.w = H.w ∧ H.begun.last = [] ∧ H.begun.Cc = H.Cc + 1 := GW (H := { H with Cc := H.Cc + 1, last := [] }) 4
theorem Rr (H : AM) : same H H.begun = true := Xn (ND H).1.symm fun k h0 h1 => by rw [NQ h0 h1]
theorem refused {H : AM} (c : H.Cc < 400) {a : Bt} (hr : (H.act a).2.code ≠ 0) : (H.act a).2.out = [] ∧ same H (H.act a).1 = true ∧ (H.act a).1.last = [] := by
 rw [Fi (decide_eq_false (by omega)) a] at hr ⊢
 have hb := Rr H
 have hl := (ND H).2.1
 generalize H.begun = X at hr hb hl ⊢
 unfold AM.EO at hr ⊢
 split at hr
 ·exact absurd rfl hr
 ·rename_i c1
  rw [if_neg c1]
  split at hr
  ·rename_i c2; rw [if_pos c2]; exact ⟨rfl, hb, hl⟩
  ·rename_i c2
   rw [if_neg c2]
   split at hr
   ·rename_i c3; rw [if_pos c3]; exact ⟨rfl, hb, hl⟩
   ·rename_i c3
    rw [if_neg c3]
    split at hr
    ·rename_i c4; rw [if_pos c4]; exact ⟨rfl, hb, hl⟩
    ·split at hr
     ·exact absurd rfl hr
     ·split at hr
      ·exact absurd rfl hr
      ·split at hr
       ·exact absurd rfl hr
       ·exact absurd rfl hr
def zero : Bt := ⟨0, 0, 0, []⟩
end AM
end Go.Ing
