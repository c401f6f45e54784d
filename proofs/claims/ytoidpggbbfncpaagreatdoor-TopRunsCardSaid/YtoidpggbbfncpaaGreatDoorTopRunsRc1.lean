/- What the functions that the law of this seat reaches compute, and the plain laws of it. No condition. -/
import Derived.Test.YtoidpggbbfncpaaGreatDoorTopRunsEc3
import Derived.Test.YtoidpggbbfncpaaGreatDoorTopRunsRa1
import Derived.Test.YtoidpggbbfncpaaGreatDoorTopRunsRb1
set_option linter.unusedSimpArgs false
set_option linter.unusedVariables false
/- Who is far perceives nothing: plain laws. -/
namespace Go.Ing
open Go
namespace AH
theorem K5 (w : AH) (e : Event) : ∀ n : Nat, (w.G7 e n).kind = e.kind ∧ (w.G7 e n).Dm = e.Dm ∧ (w.G7 e n).room = e.room ∧ (w.G7 e n).other = e.other ∧ (w.G7 e n).n = e.n ∧ (w.G7 e n).HQ = e.HQ ∧ (w.G7 e n).D3 = e.D3 ∧ (w.G7 e n).By = e.By ∧ (w.G7 e n).text = e.text
 | 0 => ⟨rfl, rfl, rfl, rfl, rfl, rfl, rfl, rfl, rfl⟩
 | k + 1 => K5 w e k
end AH
namespace AF
section
variable {b c rc : Int} {S : Int → Prop} {T : AF}
section
variable (c0 : 0 ≤ c) (c6 : c < 6) (hn : c ≠ b)
include c0 c6 hn
end
end
end AF
end Go.Ing
/- What others are told is not empty: plain laws. -/
namespace Go.Ing
open Go
namespace AH
end AH
theorem Oh {α : Type} {d : α} {xs : List α} {i : Nat} (h : i < xs.length) : xs.getD i d ∈ xs := by
 rw [List.getD_eq_getElem?_getD, List.getElem?_eq_getElem h]
 exact List.getElem_mem h
namespace AF
theorem Lq : ∀ (l : List Int) (T : AF), (T.DZ l).out.length = T.out.length + l.length
 | [], T => rfl
 | i :: r, T => by rw [DZ, Lq r, E6]; show T.out.length + 1 + r.length = _; rw [List.length_cons]; omega
theorem Mz (v to : Int) : ∀ (l : List Int) (T : AF), (T.Fa v to l).out.length ≤ T.out.length + l.length
 | [], T => Nat.le_refl _
 | i :: r, T => by
  have h1 := Mz v to r (T.DN v to i)
  have h2 := T.MX v to i
  rw [Fa, List.length_cons]; omega
theorem RG (T : AF) {l : List Int} (hl : l.length ≤ 9) (o : Order) : (T.Oz l o).out.length ≤ T.out.length + 10 := by
 have h := (ET T.w l o.nth o.name o.Bk).length_le
 unfold Oz
 rw [Lq]
 split
 ·rw [B6]; omega
 ·omega
theorem Wd (T : AF) (o : Order) : (T.get o).out.length ≤ T.out.length + 11 := by
 have hb := T.HA o.second
 unfold get
 split
 ·split
  ·omega
  ·have := RG (T.box o.second).1 (AH.Ha (T.box o.second).1.w 2 (T.box o.second).2.1) o
   omega
 ·have := RG T T.Hu o
  omega
theorem TT (T : AF) (o : Order) : (T.Gy o).out.length ≤ T.out.length + 11 := by
 have hb := T.OW o
 unfold Gy
 split
 ·omega
 ·unfold WJ
  have h := (ET (T.C7 o).1.w (T.C7 o).1.own o.nth o.name o.Bk).length_le
  have h9 := (T.C7 o).1.JN
  refine Nat.le_trans (Mz _ _ _ _) ?_
  split
  ·rw [B6]; omega
  ·omega
theorem UD (T : AF) (o : Order) : (T.GK o).out.length ≤ T.out.length + 2 := by
 unfold GK
 generalize (if (!decide (o.nth = 1) || o.Bk) = true then [] else o.name) = nm
 have hs := T.GX nm
 split
 ·omega
 ·refine Nat.le_trans (Nat.le_of_eq (B6 _ _)) ?_
  split
  ·show (T.BN nm).1.out.length + 1 ≤ _; omega
  ·show (T.BN nm).1.out.length + 1 ≤ _; omega
theorem NR (T : AF) (first : Bool) (i : Int) (v : Bool) (k : Int) : (T.before first i v k).out.length = T.out.length + 1 := by
 unfold before
 split
 ·rw [E6]; rfl
 ·exact E6 T k i
theorem Wi (T : AF) (o : Order) : (T.set o).out.length ≤ T.out.length + 1 := by
 unfold set
 split
 ·unfold JJ
  split
  ·rw [B6]; exact Nat.le_refl _
  ·split
   ·rw [B6]; exact Nat.le_refl _
   ·refine Nat.le_trans (Nat.le_of_eq (CR _ _)) ?_
    split <;> exact Nat.le_refl _
 ·split
  ·rw [B6]; exact Nat.le_refl _
  ·split
   ·rw [B6]; exact Nat.le_refl _
   ·split
    ·exact Nat.le_of_eq (NR T _ _ _ _)
    ·exact Nat.le_of_eq (NR T _ _ _ _)
theorem VN (T : AF) (d : Int) : (T.walk d).out.length ≤ T.out.length + 11 := by
 unfold walk
 split
 ·rw [B6]; omega
 ·split
  ·rw [B6]; omega
  ·refine Nat.le_trans (Mv _).2.2 ?_
   rw [CR]
   show (T.out ++ [_]).length + 1 + 9 ≤ _
   simp
theorem W1 (T : AF) (o : Order) : (T.act o).out.length ≤ T.out.length + 11 := by
 unfold act
 split
 ·exact T.VN _
 ·split
  ·exact Nat.le_trans (T.Mv).2.2 (by omega)
  ·split
   ·rw [(T.IM _ _).2.2]; omega
   ·split
    ·rw [CR]; omega
    ·split
     ·rw [(T.V7).2.1, Ks]; omega
     ·split
      ·exact Nat.le_trans (T.UD o) (by omega)
      ·split
       ·exact T.Wd o
       ·split
        ·exact T.TT o
        ·exact Nat.le_trans (T.Wi o) (by omega)
end AF
end Go.Ing
/- A round of all fights: plain functions and laws. -/
namespace Go.Ing
open Go
theorem Cg (d : Int) : -2 ≤ d.tmod 3 ∧ d.tmod 3 ≤ 2 := by
 have h1 := Int.tmod_lt_of_pos d (show (0 : Int) < 3 by decide)
 have h2 := Int.tmod_lt_of_pos (-d) (show (0 : Int) < 3 by decide)
 rw [Int.neg_tmod] at h2
 omega
namespace AF
def FN (w : AH) (b : Int) : AF := ⟨w.Cv b { w.AV.at b with BL := 1 }, b, []⟩
def Fy (w : AH) (b : Int) : AF := ((FN w b).kind 15).Fz
def Ig (w : AH) (b : Int) : AF := (Fy w b).C6 b { (Fy w b).w.AV.at b with room := 0, BL := 10 }
def IC (w : AH) (b : Int) : AF := if decide (b < 2) = true then (Fy w b).C6 b default else ((Ig w b).kind 17).look
def Kk (draw b : Int) : Int := 1 + (draw.tmod 3 + 3 + b).tmod 3
def CD (w : AH) (b B1 n : Int) : AF := (AF.Bj ⟨w, b, []⟩ { GA 14 with other := B1, n := n }).C6 B1 { w.AV.at B1 with BL := max 0 ((w.AV.at B1).BL - n) }
def El (draw b : Int) (s : AH × List Event) : AH × List Event :=
 if (!(s.1.AV.at b).here || decide ((s.1.AV.at b).B1 = 0)) = true then s
 else if (!(s.1.AV.at ((s.1.AV.at b).B1 - 1)).here || !decide ((s.1.AV.at ((s.1.AV.at b).B1 - 1)).room = (s.1.AV.at b).room)) = true then (s.1.Cv b { s.1.AV.at b with B1 := 0 }, s.2)
 else if decide (((CD s.1 b ((s.1.AV.at b).B1 - 1) (Kk draw b)).w.AV.at ((s.1.AV.at b).B1 - 1)).BL = 0) = true then ((IC (CD s.1 b ((s.1.AV.at b).B1 - 1) (Kk draw b)).w ((s.1.AV.at b).B1 - 1)).w, (s.2 ++ (CD s.1 b ((s.1.AV.at b).B1 - 1) (Kk draw b)).out) ++ (IC (CD s.1 b ((s.1.AV.at b).B1 - 1) (Kk draw b)).w ((s.1.AV.at b).B1 - 1)).out)
 else ((CD s.1 b ((s.1.AV.at b).B1 - 1) (Kk draw b)).w, s.2 ++ (CD s.1 b ((s.1.AV.at b).B1 - 1) (Kk draw b)).out)
def D9 (X : AH) (draw : Int) : Nat → AH × List Event
 | 0 => (X, [])
 | k + 1 => El draw k (D9 X draw k)
def CY (X : AH) (draw : Int) : AH × List Event × Int := if (!X.Bq) = true then (X, [], 2) else ((D9 X draw 6).1, (D9 X draw 6).2, 0)
theorem HB {X : AH} {draw k : Int} (h : 0 ≤ k) : D9 X draw (k + 1).toNat = El draw k (D9 X draw k.toNat) := by
 obtain ⟨m, rfl⟩ := Int.eq_ofNat_of_zero_le h
 rfl
theorem MC {draw b : Int} (h : 0 ≤ b) : 1 ≤ Kk draw b ∧ Kk draw b ≤ 3 := by
 unfold Kk
 have := Cg draw
 have h2 : 0 ≤ draw.tmod 3 + 3 + b := by omega
 have h3 := Int.tmod_nonneg (a := draw.tmod 3 + 3 + b) 3 h2
 have h4 := Int.tmod_lt_of_pos (draw.tmod 3 + 3 + b) (show (0 : Int) < 3 by decide)
 omega
structure WU (x : Al) : Prop where
 room : 0 ≤ x.room ∧ x.room < 6
 BL : 0 ≤ x.BL ∧ x.BL ≤ 10
 B1 : 0 ≤ x.B1 ∧ x.B1 ≤ 6
 off : x.here = false → x.B1 = 0
 alive : x.here = decide (0 < x.BL)
theorem Zw {x : Al} (h : AH.DQ x = false) : WU x := by
 simp only [AH.DQ, Bool.or_eq_false_iff, decide_eq_false_iff_not, Bool.and_eq_false_iff, Bool.not_eq_false', bne_eq_false_iff_eq] at h
 obtain ⟨⟨⟨⟨⟨⟨⟨q1, q2⟩, q3⟩, q4⟩, q5⟩, q6⟩, q7⟩, q8⟩ := h
 refine ⟨by omega, by omega, by omega, fun e => ?_, q8⟩
 rcases q7 with q | q
 ·rw [e] at q; cases q
 ·exact of_decide_eq_true q
theorem Z5 {x : Al} (h : WU x) : AH.DQ x = false := by
 have h1 := h.room; have h2 := h.BL; have h3 := h.B1
 simp only [AH.DQ, Bool.or_eq_false_iff, decide_eq_false_iff_not, Bool.and_eq_false_iff, Bool.not_eq_false', bne_eq_false_iff_eq]
 refine ⟨⟨⟨⟨⟨⟨⟨by omega, by omega⟩, by omega⟩, by omega⟩, by omega⟩, by omega⟩, ?_⟩, h.alive⟩
 cases hh : x.here with
 | true => exact .inl rfl
 | false => exact .inr (decide_eq_true (h.off hh))
theorem G9 {X : AH} (h : X.Bq = true) {b : Int} (h0 : 0 ≤ b) (h6 : b < 6) : WU (X.AV.at b) := Zw (AH.Fg h h0 h6)
theorem JK {X : AH} (h : X.Bq = true) {b : Int} (h0 : 0 ≤ b) (h6 : b < 6) {x : Al} (hx : WU x) (hh : (X.AV.at b).here = true → x.here = true) : (X.Cv b x).Bq = true :=
 AH.JS h h0 h6 (Z5 hx) fun i i0 i9 e1 e2 => by
  rcases (AH.K8 h i0 i9).Ck with ⟨a, _⟩ | ⟨_, _, a⟩ | ⟨a, _⟩
  ·omega
  ·rw [e2] at a; exact hh a
  ·omega
theorem Tl (X : AH) (b : Int) (x y : Al) : (X.Cv b x).Cv b y = X.Cv b y := by
 unfold AH.Cv
 show ({ X with AV := (X.AV.put b x).put b y } : AH) = _
 rw [Vector.EK]
section
variable {w : AH} {b B1 n : Int} (hg : w.Bq = true) (hw : w.Dw) (f0 : 0 ≤ B1) (f6 : B1 < 6) (hh : (w.AV.at B1).here = true)
include hg hw f0 f6 hh
theorem Jq : (FN (CD w b B1 n).w B1).Fit := by
 have e : (CD w b B1 n).w.Cv B1 { (CD w b B1 n).w.AV.at B1 with BL := 1 } = w.Cv B1 { w.AV.at B1 with BL := 1 } := by
  show (w.Cv B1 _).Cv B1 { (w.Cv B1 _).AV.at B1 with BL := 1 } = _
  rw [Tl, AH.Ed f0 f6]
 have k := G9 hg f0 f6
 refine ⟨⟨f0, f6⟩, ?_, ?_, ?_⟩
 ·show ((CD w b B1 n).w.Cv B1 _).Dw
  rw [e]; exact EJ hw (hw.be B1)
 ·show ((CD w b B1 n).w.Cv B1 _).Bq = true
  rw [e]
  exact JK hg f0 f6 ⟨k.room, ⟨show (0 : Int) ≤ 1 by decide, show (1 : Int) ≤ 10 by decide⟩, k.B1, k.off, by rw [show ({ w.AV.at B1 with BL := 1 } : Al).here = true from hh]; rfl⟩ fun _ => hh
 ·show (((CD w b B1 n).w.Cv B1 _).AV.at B1).here = true
  rw [e, AH.Ed f0 f6]; exact hh
theorem Qx (hn : 0 < (w.AV.at B1).BL - n) (h1 : 0 ≤ n) : (CD w b B1 n).w.Bq = true ∧ (CD w b B1 n).w.Dw := by
 have k := G9 hg f0 f6
 have hk := k.BL
 refine ⟨JK hg f0 f6 ⟨k.room, ⟨?_, ?_⟩, k.B1, k.off, ?_⟩ fun _ => hh, EJ hw (hw.be B1)⟩
 ·show 0 ≤ max 0 ((w.AV.at B1).BL - n); omega
 ·show max 0 ((w.AV.at B1).BL - n) ≤ 10; omega
 ·show (w.AV.at B1).here = decide (0 < max 0 ((w.AV.at B1).BL - n))
  rw [hh, decide_eq_true (by omega)]
end
theorem K3 (w : AH) (b : Int) : (Fy w b).b = b ∧ (Fy w b).out = ((FN w b).kind 15).out := SP ((FN w b).kind 15)
theorem SC (w : AH) (b : Int) : (Ig w b).b = b ∧ (Ig w b).out = ((FN w b).kind 15).out ∧ (Ig w b).w = (Fy w b).w.Cv b { (Fy w b).w.AV.at b with room := 0, BL := 10 } := by
 have h := K3 w b
 unfold Ig
 rw [(DR _ _ _).1, (DR _ _ _).2.1, (DR _ _ _).2.2]
 exact ⟨h.1, h.2, rfl⟩
theorem We (D : AH) {b : Int} (hb : 0 ≤ b ∧ b < 6) : ({ D with AV := (D.AV.put b { D.AV.at b with room := 0 }).put b { (D.AV.put b { D.AV.at b with room := 0 }).at b with BL := 10 } } : AH) = D.Cv b { D.AV.at b with room := 0, BL := 10 } := by
 rw [Vector.CG hb.1 hb.2, Vector.EK]; rfl
theorem Ss {X F : AH} {b : Int} (h : F = ((FN X b).kind 15).Fz.w) (x : Al) : (Fy X b).C6 b x = ⟨F.Cv b x, b, ((FN X b).kind 15).out⟩ := by
 subst h
 have e := K3 X b
 have h1 := DR (Fy X b) b x
 cases hT : (Fy X b).C6 b x with
 | mk w' b' o' =>
  rw [hT] at h1
  obtain ⟨q1, q2, q3⟩ := h1
  simp only at q1 q2 q3
  rw [q1, q2, q3, e.1, e.2]
  rfl
theorem Ws {X F : AH} {b : Int} (h : F = ((FN X b).kind 15).Fz.w) : Ig X b = ⟨F.Cv b { F.AV.at b with room := 0, BL := 10 }, b, ((FN X b).kind 15).out⟩ := by
 have h' : (Fy X b).w = F := h.symm
 unfold Ig
 rw [h', Ss h]
theorem Ov {w : AH} {b : Int} (h : (FN w b).Fit) : GZ (FN w b) (Fy w b) ∧ ∀ j, 0 ≤ j → j < 9 → ¬ (((Fy w b).w.AX.at j).Ck = 1 ∧ ((Fy w b).w.AX.at j).at_ = b) := by
 have g1 : GZ (FN w b) ((FN w b).kind 15) := h.goes.O1 rfl rfl
 obtain ⟨g2, k⟩ := TH g1.fit
 exact ⟨g1.trans g2, k⟩
theorem Qr {w : AH} {b : Int} (h : (FN w b).Fit) : (Ig w b).Fit := by
 have g := (Ov h).1.fit
 have hb : 0 ≤ b ∧ b < 6 := h.b
 have e := SC w b
 have eb := (K3 w b).1
 have gb := g.b
 have gh := g.here
 rw [eb] at gb gh
 have k := G9 g.gd hb.1 hb.2
 have gbr := g.br
 have ggd := g.gd
 obtain ⟨e1, _, e3⟩ := e
 generalize hD : (Fy w b).w = D at *
 have hx : (D.Cv b { D.AV.at b with room := 0, BL := 10 }).Bq = true := JK ggd hb.1 hb.2 ⟨⟨Int.le_refl _, show (0 : Int) < 6 by decide⟩, ⟨show (0 : Int) ≤ 10 by decide, show (10 : Int) ≤ 10 by decide⟩, k.B1, k.off, gh⟩ fun _ => gh
 have hy : (D.Cv b { D.AV.at b with room := 0, BL := 10 }).Dw := EJ gbr (gbr.be b)
 have hz : ((D.Cv b { D.AV.at b with room := 0, BL := 10 }).AV.at b).here = true := by rw [AH.Ed hb.1 hb.2]; exact gh
 exact ⟨by rw [e1]; exact hb, by rw [e3]; exact hy, by rw [e3]; exact hx, by rw [e1, e3]; exact hz⟩
theorem Oj {w : AH} {b : Int} (h : (FN w b).Fit) : (IC w b).w.Bq = true ∧ (IC w b).w.Dw ∧ (IC w b).out.length ≤ 12 := by
 have hb : 0 ≤ b ∧ b < 6 := h.b
 obtain ⟨g, hk⟩ := Ov h
 unfold IC
 split
 ·rw [(DR _ _ _).2.1, (DR _ _ _).2.2]
  refine ⟨AH.JS (X := (Fy w b).w) g.fit.gd hb.1 hb.2 (by decide) fun i i0 i9 e1 e2 => absurd ⟨e1, e2⟩ (hk i i0 i9), EJ (X := (Fy w b).w) g.fit.br (by decide), ?_⟩
  rw [(K3 w b).2, Ks]
  exact (by decide : (0 : Nat) + 1 ≤ 12)
 ·have f := Qr h
  have hl := Mv ((Ig w b).kind 17)
  refine ⟨by rw [hl.1]; exact f.gd, by rw [hl.1]; exact f.br, ?_⟩
  have h2 := hl.2.2
  rw [Ks, (SC w b).2.1, Ks] at h2
  exact Nat.le_trans h2 (by decide : (0 : Nat) + 1 + 1 + 9 ≤ 12)
theorem Fv {s : AH × List Event} {draw b : Int} (hg : s.1.Bq = true) (hw : s.1.Dw) (h0 : 0 ≤ b) (h6 : b < 6) : (El draw b s).1.Bq = true ∧ (El draw b s).1.Dw ∧ (El draw b s).2.length ≤ s.2.length + 13 := by
 have kb := G9 hg h0 h6
 have hn := MC (draw := draw) h0
 unfold El
 split
 ·exact ⟨hg, hw, by omega⟩
 ·rename_i h1
  simp only [Bool.or_eq_true, Bool.not_eq_true', decide_eq_true_eq, not_or, Bool.not_eq_false] at h1
  have kf := kb.B1
  split
  ·exact ⟨JK hg h0 h6 ⟨kb.room, kb.BL, ⟨Int.le_refl _, show (0 : Int) ≤ 6 by decide⟩, fun _ => rfl, kb.alive⟩ fun h => h, EJ hw (hw.be b), Nat.le_add_right _ _⟩
  ·rename_i h2
   simp only [Bool.or_eq_true, Bool.not_eq_true', decide_eq_false_iff_not, not_or, Bool.not_eq_false, Decidable.not_not] at h2
   have hf := Jq (b := b) (n := Kk draw b) hg hw (B1 := (s.1.AV.at b).B1 - 1) (by omega) (by omega) h2.1
   have hso : (CD s.1 b ((s.1.AV.at b).B1 - 1) (Kk draw b)).out.length = 1 := rfl
   split
   ·obtain ⟨d1, d2, d3⟩ := Oj hf
    refine ⟨d1, d2, ?_⟩
    show ((s.2 ++ _) ++ _).length ≤ _
    rw [List.length_append, List.length_append, hso]; omega
   ·rename_i h3
    have h3' : ¬ ((CD s.1 b ((s.1.AV.at b).B1 - 1) (Kk draw b)).w.AV.at ((s.1.AV.at b).B1 - 1)).BL = 0 := fun e => h3 (decide_eq_true e)
    have e : ((CD s.1 b ((s.1.AV.at b).B1 - 1) (Kk draw b)).w.AV.at ((s.1.AV.at b).B1 - 1)) = { s.1.AV.at ((s.1.AV.at b).B1 - 1) with BL := max 0 ((s.1.AV.at ((s.1.AV.at b).B1 - 1)).BL - Kk draw b) } := Vector.CG (by omega) (by omega)
    rw [e] at h3'
    have h3'' : ¬ max 0 ((s.1.AV.at ((s.1.AV.at b).B1 - 1)).BL - Kk draw b) = 0 := h3'
    obtain ⟨d1, d2⟩ := Qx (b := b) (n := Kk draw b) hg hw (B1 := (s.1.AV.at b).B1 - 1) (by omega) (by omega) h2.1 (by omega) (by omega)
    refine ⟨d1, d2, ?_⟩
    show (s.2 ++ _).length ≤ _
    rw [List.length_append, hso]; omega
end AF
end Go.Ing
/- What a round takes: plain laws. -/
namespace Go.Ing
open Go
namespace AF
def Of (v : Vector Int 6) (e : Event) : Vector Int 6 := if decide (e.kind = 14) = true then v.put e.other (v.at e.other + e.n) else v
def OO (v : Vector Bool 6) (e : Event) : Vector Bool 6 := if decide (e.kind = 15) = true then v.put e.Dm true else v
def Du (l : List Event) : Vector Int 6 := l.foldl Of (Vector.replicate 6 default)
def E3 (l : List Event) : Vector Bool 6 := l.foldl OO (Vector.replicate 6 default)
theorem M9 (l : List Event) (e : Event) : Du (l ++ [e]) = Of (Du l) e := by simp [Du]
theorem Mc (l : List Event) (e : Event) : E3 (l ++ [e]) = OO (E3 l) e := by simp [E3]
def Quiet (q : List Event) : Prop := ∀ e ∈ q, e.kind ≠ 14 ∧ e.kind ≠ 15
theorem M0 : ∀ {q : List Event} (v : Vector Int 6) (u : Vector Bool 6), Quiet q → q.foldl Of v = v ∧ q.foldl OO u = u
 | [], _, _, _ => ⟨rfl, rfl⟩
 | e :: r, v, u, h => by
  have he := h e (List.mem_cons_self ..)
  have hr : Quiet r := fun x hx => h x (List.mem_cons_of_mem _ hx)
  rw [List.foldl_cons, List.foldl_cons, Of, if_neg (by simp [he.1]), OO, if_neg (by simp [he.2])]
  exact M0 v u hr
theorem Q8 {l q : List Event} (h : Quiet q) : Du (l ++ q) = Du l ∧ E3 (l ++ q) = E3 l := by
 unfold Du E3
 rw [List.foldl_append, List.foldl_append]
 exact M0 _ _ h
theorem HH (T : AF) (e : Event) : ∃ x : Event, (T.Bj e).out = T.out ++ [x] ∧ x.kind = e.kind ∧ x.Dm = T.b ∧ x.other = e.other ∧ x.n = e.n := by
 obtain ⟨a1, a2, _, a4, a5, _⟩ := AH.K5 T.w (T.Dz e) 6
 have e2 : (T.Dz e).kind = e.kind ∧ (T.Dz e).Dm = T.b ∧ (T.Dz e).other = e.other ∧ (T.Dz e).n = e.n := by
  unfold Dz
  split <;> exact ⟨rfl, rfl, rfl, rfl⟩
 exact ⟨_, rfl, a1.trans e2.1, a2.trans e2.2.1, a4.trans e2.2.2.1, a5.trans e2.2.2.2⟩
def L5 (T T' : AF) : Prop := ∃ q, T'.out = T.out ++ q ∧ ∀ e ∈ q, e.kind = 16
theorem L5.refl (T : AF) : L5 T T := ⟨[], by simp, fun _ h => by cases h⟩
theorem L5.tell {T T' : AF} (h : L5 T T') (s : Aq) : L5 T (T'.tell s) := by
 obtain ⟨q, e, k⟩ := h
 obtain ⟨x, e2, k2, _⟩ := HH T' { GA 16 with text := s }
 refine ⟨q ++ [x], ?_, fun y hy => ?_⟩
 ·show (T'.Bj _).out = _
  rw [e2, e, List.append_assoc]
 ·rcases List.mem_append.1 hy with hy | hy
  ·exact k y hy
  ·have : y = x := by simpa using hy
   rw [this]; exact k2
theorem L5.look {T T' : AF} (h : L5 T T') : L5 T T'.look := by
 have hk : ∀ {T'' : AF}, L5 T T'' → ∀ k : Nat, L5 T (T''.FP k) := fun {T''} h' k => by
  induction k with
  | zero => exact h'
  | succ k ih =>
   unfold FP
   split
   ·exact ih.tell _
   ·exact ih
 unfold AF.look
 split
 ·exact h.tell _
 ·refine hk ?_ 6
  have ha : L5 T T'.Jm := (h.tell _).tell _
  unfold Dt
  split
  ·exact ha.tell _
  ·exact ha
/-! #### who is struck, who dies -/
def calm (b : Int) (x : Al) : Al := { x with B1 := if x.B1 = b + 1 then 0 else x.B1 }
theorem Vg {b : Int} {x : Al} (h : x.B1 = b + 1) : calm b x = { x with B1 := 0 } := by unfold calm; rw [if_pos h]
theorem V6 {b : Int} {x : Al} (h : ¬ x.B1 = b + 1) : calm b x = x := by unfold calm; rw [if_neg h]
theorem Qz (T : AF) (hb : 0 ≤ T.b) : ∀ k : Nat, k ≤ 6 → ∀ c : Int, 0 ≤ c → c < 6 → (T.Dr k).w.AV.at c = if c < (k : Int) then calm T.b (T.w.AV.at c) else T.w.AV.at c
 | 0, _, c, c0, _ => by rw [if_neg (by omega)]; rfl
 | k + 1, hk, c, c0, c6 => by
  have ih := Qz T hb k (by omega)
  have ihk := ih k (by omega) (by omega)
  rw [if_neg (by omega)] at ihk
  have ihc := ih c c0 c6
  unfold Dr
  rw [ihk]
  by_cases e : (T.w.AV.at (k : Int)).B1 = T.b + 1
  ·rw [if_pos (decide_eq_true e)]
   show (((T.Dr k).w.AV.put (k : Int) { (T.Dr k).w.AV.at (k : Int) with B1 := 0 }).at c) = _
   rw [Jy _ _ _ _ (by omega) (by omega) c0]
   by_cases ec : c = (k : Int)
   ·subst ec
    rw [if_pos rfl, if_pos (by omega), ihk, Vg e]
   ·rw [if_neg ec, ihc]
    by_cases hl : c < (k : Int)
    ·rw [if_pos hl, if_pos (by omega)]
    ·rw [if_neg hl, if_neg (by omega)]
  ·rw [if_neg (by simpa using e), ihc]
   by_cases hl : c < (k : Int)
   ·rw [if_pos hl, if_pos (by omega)]
   ·rw [if_neg hl]
    by_cases ec : c = (k : Int)
    ·subst ec
     rw [if_pos (by omega), V6 e]
    ·rw [if_neg (by omega)]
theorem Mf : ∀ (l : List Int) (T : AF), (T.Ca l).w.AV = T.w.AV
 | [], _ => rfl
 | i :: r, T => (Mf r (T.Ee i)).trans rfl
theorem W8 (T : AF) (hb : 0 ≤ T.b ∧ T.b < 6) {c : Int} (c0 : 0 ≤ c) (c6 : c < 6) : T.Fz.w.AV.at c = if c = T.b then { T.w.AV.at c with B1 := 0 } else calm T.b (T.w.AV.at c) := by
 have hd := Mf T.own T
 have hdb := (Ht T.own T).1
 have hk := Qz (T.Ca T.own) (by rw [hdb]; exact hb.1) 6 (Nat.le_refl _)
 rw [hd, hdb] at hk
 rw [MF]
 generalize (T.Ca T.own).Dr 6 = D at *
 show (D.w.AV.put T.b { D.w.AV.at T.b with B1 := 0 }).at c = _
 rw [Jy _ _ _ _ hb.1 hb.2 c0]
 have hc := hk c c0 c6
 rw [if_pos (by omega)] at hc
 by_cases e : c = T.b
 ·rw [if_pos e, if_pos e, ← e, hc]; rfl
 ·rw [if_neg e, if_neg e, hc]
structure Z1 (w w' : AH) (f : Int) : Prop where
 aB : ∀ c, 0 ≤ c → c < 6 → c ≠ f → (w'.AV.at c).BL = (w.AV.at c).BL ∧ (w'.AV.at c).room = (w.AV.at c).room ∧ (w'.AV.at c).here = (w.AV.at c).here ∧ ((w'.AV.at c).B1 = (w.AV.at c).B1 ∨ (w'.AV.at c).B1 = 0) ∧ (w'.AV.at c).B1 ≠ f + 1
 here : (w'.AV.at f).here = decide (2 ≤ f)
 B1 : (w'.AV.at f).B1 = 0
theorem So {w : AH} {f c : Int} (hf : 0 ≤ f ∧ f < 6) (c0 : 0 ≤ c) (c6 : c < 6) : (Fy w f).w.AV.at c = if c = f then { (FN w f).w.AV.at c with B1 := 0 } else calm f ((FN w f).w.AV.at c) := W8 ((FN w f).kind 15) hf c0 c6
theorem Vm {w : AH} {f c : Int} (hf : 0 ≤ f ∧ f < 6) (c0 : 0 ≤ c) (c6 : c < 6) (hn : c ≠ f) : (Fy w f).w.AV.at c = calm f (w.AV.at c) := by
 have h0 : (FN w f).w.AV.at c = w.AV.at c := AH.HK hf.1 hf.2 c0 hn _
 rw [So hf c0 c6, h0, if_neg hn]
theorem Wb (f : Int) (hf : 0 ≤ f) (x : Al) : (calm f x).BL = x.BL ∧ (calm f x).room = x.room ∧ (calm f x).here = x.here ∧ ((calm f x).B1 = x.B1 ∨ (calm f x).B1 = 0) ∧ (calm f x).B1 ≠ f + 1 := by
 by_cases e : x.B1 = f + 1
 ·rw [Vg e]
  refine ⟨rfl, rfl, rfl, .inr rfl, ?_⟩
  show (0 : Int) ≠ f + 1
  omega
 ·rw [V6 e]
  exact ⟨rfl, rfl, rfl, .inl rfl, e⟩
theorem Sw {w w1 w' : AH} {f : Int} (hf : 0 ≤ f ∧ f < 6) (ho : ∀ c, 0 ≤ c → c < 6 → c ≠ f → w1.AV.at c = calm f (w.AV.at c)) (he : ∀ c, 0 ≤ c → c < 6 → c ≠ f → w'.AV.at c = w1.AV.at c) (h1 : (w'.AV.at f).here = decide (2 ≤ f)) (h2 : (w'.AV.at f).B1 = 0) : Z1 w w' f := by
 refine ⟨fun c c0 c6 hn => ?_, h1, h2⟩
 rw [he c c0 c6 hn, ho c c0 c6 hn]
 exact Wb f hf.1 _
theorem UN {w : AH} {f : Int} (h : (FN w f).Fit) : Z1 w (IC w f).w f ∧ ∃ x q, (IC w f).out = x :: q ∧ x.kind = 15 ∧ x.Dm = f ∧ Quiet q := by
 have hf : 0 ≤ f ∧ f < 6 := h.b
 have ho : ∀ c, 0 ≤ c → c < 6 → c ≠ f → (Fy w f).w.AV.at c = calm f (w.AV.at c) := fun c c0 c6 hn => Vm hf c0 c6 hn
 obtain ⟨x, e1, k1, k2, _⟩ := HH (FN w f) (GA 15)
 have hout : ((FN w f).kind 15).out = [x] := e1
 have g := (Ov h).1.fit
 have gh := g.here
 rw [(K3 w f).1] at gh
 have hme := So (w := w) hf hf.1 hf.2
 rw [if_pos rfl] at hme
 have hfoe : ((Fy w f).w.AV.at f).B1 = 0 := by rw [hme]
 unfold IC
 split
 ·rename_i c2
  have c2' := of_decide_eq_true c2
  rw [(DR _ _ _).2.1, (DR _ _ _).2.2, (K3 w f).2, hout]
  generalize (Fy w f).w = D at *
  refine ⟨Sw (w1 := D) hf ho (fun c c0 _ hn => AH.HK hf.1 hf.2 c0 hn _) ?_ ?_, x, [], rfl, k1, k2, fun e he => by cases he⟩
  ·show ((D.Cv f default).AV.at f).here = _
   rw [AH.Ed hf.1 hf.2, decide_eq_false (by omega)]; rfl
  ·show ((D.Cv f default).AV.at f).B1 = _
   rw [AH.Ed hf.1 hf.2]; rfl
 ·rename_i c2
  have c2' : ¬ f < 2 := fun e => c2 (decide_eq_true e)
  have hl := Mv ((Ig w f).kind 17)
  have e2 := SC w f
  obtain ⟨y, e3, k3, _⟩ := HH (Ig w f) (GA 17)
  obtain ⟨q, e4, k4⟩ := (L5.refl ((Ig w f).kind 17)).look
  have e3' : ((Ig w f).kind 17).out = [x] ++ [y] := by rw [show ((Ig w f).kind 17).out = _ from e3, e2.2.1, hout]
  rw [hl.1, e4, e3', show ((Ig w f).kind 17).w = (Ig w f).w from rfl, e2.2.2]
  generalize (Fy w f).w = D at *
  refine ⟨Sw (w1 := D) hf ho (fun c c0 _ hn => AH.HK hf.1 hf.2 c0 hn _) ?_ ?_, x, y :: q, rfl, k1, k2, fun e he => ?_⟩
  ·rw [AH.Ed hf.1 hf.2, decide_eq_true (by omega)]; exact gh
  ·rw [AH.Ed hf.1 hf.2]; exact hfoe
  ·rcases List.mem_cons.1 he with he | he
   ·rw [he, k3]; exact ⟨by decide, by decide⟩
   ·rw [k4 e he]; exact ⟨by decide, by decide⟩
/-! #### the count of a round -/
def au (e : Event) : Prop := (e.kind = 14 → 1 ≤ e.n ∧ e.n ≤ 3 ∧ 0 ≤ e.other ∧ e.other < 6) ∧ (e.kind = 15 → 0 ≤ e.Dm ∧ e.Dm < 6)
structure Ri (X : AH) (s : AH × List Event) : Prop where
 ev : ∀ e ∈ s.2, au e
 un : ∀ c, 0 ≤ c → c < 6 → (E3 s.2).at c = false → (s.1.AV.at c).BL = (X.AV.at c).BL - (Du s.2).at c ∧ (s.1.AV.at c).room = (X.AV.at c).room ∧ (s.1.AV.at c).here = (X.AV.at c).here
 di : ∀ c, 0 ≤ c → c < 6 → (E3 s.2).at c = true → (X.AV.at c).BL ≤ (Du s.2).at c ∧ (s.1.AV.at c).here = decide (2 ≤ c) ∧ (s.1.AV.at c).B1 = 0 ∧ ∀ a, 0 ≤ a → a < 6 → (s.1.AV.at a).B1 ≠ c + 1
theorem Vo {α : Type} [Inhabited α] (c : Int) (c0 : 0 ≤ c) (c6 : c < 6) : (Vector.replicate 6 (default : α)).at c = default := by
 have : c = 0 ∨ c = 1 ∨ c = 2 ∨ c = 3 ∨ c = 4 ∨ c = 5 := by omega
 rcases this with rfl | rfl | rfl | rfl | rfl | rfl <;> rfl
theorem Ri.start (X : AH) : Ri X (X, []) := by
 have hh : ∀ c, 0 ≤ c → c < 6 → (Du []).at c = 0 := fun c c0 c6 => Vo c c0 c6
 have hd : ∀ c, 0 ≤ c → c < 6 → (E3 []).at c = false := fun c c0 c6 => Vo c c0 c6
 refine ⟨fun _ h => (by cases h), fun c c0 c6 _ => ⟨?_, rfl, rfl⟩, fun c c0 c6 h => ?_⟩
 ·show (X.AV.at c).BL = (X.AV.at c).BL - (Du []).at c
  rw [hh c c0 c6]; omega
 ·have h' : (E3 []).at c = true := h
  rw [hd c c0 c6] at h'; cases h'
theorem Ri.next {X : AH} {s : AH × List Event} {draw b : Int} (h : Ri X s) (hg : s.1.Bq = true) (hw : s.1.Dw) (h0 : 0 ≤ b) (h6 : b < 6) : Ri X (El draw b s) := by
 have kb := G9 hg h0 h6
 have hn := MC (draw := draw) h0
 unfold El
 split
 ·exact h
 ·rename_i h1
  simp only [Bool.or_eq_true, Bool.not_eq_true', decide_eq_true_eq, not_or, Bool.not_eq_false] at h1
  have kf := kb.B1
  split
  ·have hb : ∀ c, 0 ≤ c → ((s.1.Cv b { s.1.AV.at b with B1 := 0 }).AV.at c).BL = (s.1.AV.at c).BL ∧ ((s.1.Cv b { s.1.AV.at b with B1 := 0 }).AV.at c).room = (s.1.AV.at c).room ∧ ((s.1.Cv b { s.1.AV.at b with B1 := 0 }).AV.at c).here = (s.1.AV.at c).here ∧ (((s.1.Cv b { s.1.AV.at b with B1 := 0 }).AV.at c).B1 = (s.1.AV.at c).B1 ∨ ((s.1.Cv b { s.1.AV.at b with B1 := 0 }).AV.at c).B1 = 0) := fun c c0 => by
    by_cases e : c = b
    ·subst e; rw [AH.Ed h0 h6]; exact ⟨rfl, rfl, rfl, .inr rfl⟩
    ·rw [AH.HK h0 h6 c0 e]; exact ⟨rfl, rfl, rfl, .inl rfl⟩
   refine ⟨h.ev, fun c c0 c6 hd => ?_, fun c c0 c6 hd => ?_⟩
   ·obtain ⟨q1, q2, q3⟩ := h.un c c0 c6 hd
    obtain ⟨r1, r2, r3, _⟩ := hb c c0
    exact ⟨r1.trans q1, r2.trans q2, r3.trans q3⟩
   ·obtain ⟨q1, q2, q3, q4⟩ := h.di c c0 c6 hd
    obtain ⟨_, _, r3, r4⟩ := hb c c0
    refine ⟨q1, r3.trans q2, ?_, fun a a0 a6 => ?_⟩
    ·rcases r4 with r4 | r4
     ·exact r4.trans q3
     ·exact r4
    ·have := q4 a a0 a6
     rcases (hb a a0).2.2.2 with r | r
     ·rw [r]; exact this
     ·rw [r]; omega
  ·rename_i h2
   simp only [Bool.or_eq_true, Bool.not_eq_true', decide_eq_false_iff_not, not_or, Bool.not_eq_false, Decidable.not_not] at h2
   generalize hfo : (s.1.AV.at b).B1 - 1 = f at *
   generalize Kk draw b = n at *
   have f0 : 0 ≤ f := by omega
   have f6 : f < 6 := by omega
   have hf := Jq (b := b) (n := n) hg hw (B1 := f) f0 f6 h2.1
   have kf2 := (G9 hg f0 f6).BL
   obtain ⟨x, ex, k1, k2, k3, k4⟩ := HH ⟨s.1, b, []⟩ { GA 14 with other := f, n := n }
   have hso : (CD s.1 b f n).out = [x] := ex
   have hsw : (CD s.1 b f n).w = s.1.Cv f { s.1.AV.at f with BL := max 0 ((s.1.AV.at f).BL - n) } := rfl
   have k1' : x.kind = 14 := k1
   have k3' : x.other = f := k3
   have k4' : x.n = n := k4
   have hH : Du (s.2 ++ [x]) = (Du s.2).put f ((Du s.2).at f + n) := by rw [M9, Of, if_pos (decide_eq_true k1'), k3', k4']
   have hD : E3 (s.2 ++ [x]) = E3 s.2 := by rw [Mc, OO, if_neg (by rw [k1']; decide)]
   have hnd : (E3 s.2).at f = false := by
    cases hh : (E3 s.2).at f with
    | false => rfl
    | true => exact absurd (by omega : (s.1.AV.at b).B1 = f + 1) ((h.di f f0 f6 hh).2.2.2 b h0 h6)
   have hfe := h.un f f0 f6 hnd
   have hxe : au x := ⟨fun _ => by rw [k3', k4']; omega, fun e => by rw [k1'] at e; cases e⟩
   have hev : ∀ e ∈ s.2 ++ [x], au e := fun e he => by
    rcases List.mem_append.1 he with he | he
    ·exact h.ev e he
    ·have : e = x := by simpa using he
     rw [this]; exact hxe
   have hwc : ∀ c, 0 ≤ c → c ≠ f → (CD s.1 b f n).w.AV.at c = s.1.AV.at c := fun c c0 hne => by rw [hsw]; exact AH.HK f0 f6 c0 hne _
   have hwf : (CD s.1 b f n).w.AV.at f = { s.1.AV.at f with BL := max 0 ((s.1.AV.at f).BL - n) } := by rw [hsw]; exact AH.Ed f0 f6 _
   have hwa : ∀ a, 0 ≤ a → ((CD s.1 b f n).w.AV.at a).B1 = (s.1.AV.at a).B1 := fun a a0 => by
    by_cases e : a = f
    ·rw [e, hwf]
    ·rw [hwc a a0 e]
   have hHc : ∀ c, 0 ≤ c → c ≠ f → ((Du s.2).put f ((Du s.2).at f + n)).at c = (Du s.2).at c := fun c c0 hne => Vector.Ev f0 f6 c0 hne
   have hHf : ((Du s.2).put f ((Du s.2).at f + n)).at f = (Du s.2).at f + n := Vector.CG f0 f6
   split
   ·rename_i h3
    have h3' := of_decide_eq_true h3
    rw [hwf] at h3'
    have h3'' : max 0 ((s.1.AV.at f).BL - n) = 0 := h3'
    obtain ⟨dd, y, q, e2, y1, y2, y3⟩ := UN hf
    rw [e2, hso]
    generalize (IC (CD s.1 b f n).w f).w = W at *
    have hA : Du (s.2 ++ [x] ++ y :: q) = (Du s.2).put f ((Du s.2).at f + n) ∧ E3 (s.2 ++ [x] ++ y :: q) = (E3 s.2).put f true := by
     have hq := Q8 (l := s.2 ++ [x] ++ [y]) y3
     rw [show s.2 ++ [x] ++ y :: q = s.2 ++ [x] ++ [y] ++ q by simp, hq.1, hq.2, M9, Mc, hH, hD, Of, if_neg (by rw [y1]; decide), OO, if_pos (decide_eq_true y1), y2]
     exact ⟨rfl, rfl⟩
    refine ⟨fun e he => ?_, fun c c0 c6 hd => ?_, fun c c0 c6 hd => ?_⟩
    ·rcases List.mem_append.1 he with he | he
     ·exact hev e he
     ·rcases List.mem_cons.1 he with he | he
      ·rw [he]; exact ⟨fun e => absurd (y1.symm.trans e) (by decide), fun _ => by rw [y2]; exact ⟨f0, f6⟩⟩
      ·exact ⟨fun e' => absurd e' (y3 e he).1, fun e' => absurd e' (y3 e he).2⟩
    ·have hd' : ((E3 s.2).put f true).at c = false := by rw [← hA.2]; exact hd
     have hne : c ≠ f := fun e => by
      rw [e, Vector.CG f0 f6] at hd'; cases hd'
     rw [Vector.Ev f0 f6 c0 hne] at hd'
     obtain ⟨q1, q2, q3⟩ := h.un c c0 c6 hd'
     obtain ⟨r1, r2, r3, _⟩ := dd.aB c c0 c6 hne
     rw [hwc c c0 hne] at r1 r2 r3
     show (W.AV.at c).BL = (X.AV.at c).BL - (Du (s.2 ++ [x] ++ y :: q)).at c ∧ _
     rw [hA.1, hHc c c0 hne]
     exact ⟨r1.trans q1, r2.trans q2, r3.trans q3⟩
    ·have hd' : ((E3 s.2).put f true).at c = true := by rw [← hA.2]; exact hd
     show (X.AV.at c).BL ≤ (Du (s.2 ++ [x] ++ y :: q)).at c ∧ _
     rw [hA.1]
     by_cases hne : c = f
     ·subst hne
      rw [hHf]
      refine ⟨by omega, dd.here, dd.B1, fun a a0 a6 => ?_⟩
      by_cases ea : a = c
      ·rw [ea, dd.B1]; omega
      ·exact (dd.aB a a0 a6 ea).2.2.2.2
     ·rw [Vector.Ev f0 f6 c0 hne] at hd'
      rw [hHc c c0 hne]
      obtain ⟨q1, q2, q3, q4⟩ := h.di c c0 c6 hd'
      obtain ⟨_, _, r3, r4, _⟩ := dd.aB c c0 c6 hne
      rw [hwc c c0 hne] at r3 r4
      refine ⟨q1, r3.trans q2, ?_, fun a a0 a6 => ?_⟩
      ·rcases r4 with r4 | r4
       ·exact r4.trans q3
       ·exact r4
      ·by_cases ea : a = f
       ·rw [ea, dd.B1]; omega
       ·have := q4 a a0 a6
        have r := (dd.aB a a0 a6 ea).2.2.2.1
        rw [hwc a a0 ea] at r
        rcases r with r | r
        ·rw [r]; exact this
        ·rw [r]; omega
   ·rename_i h3
    have h3' : ¬ ((CD s.1 b f n).w.AV.at f).BL = 0 := fun e => h3 (decide_eq_true e)
    rw [hwf] at h3'
    have h3'' : ¬ max 0 ((s.1.AV.at f).BL - n) = 0 := h3'
    rw [hso]
    refine ⟨hev, fun c c0 c6 hd => ?_, fun c c0 c6 hd => ?_⟩
    ·have hd' : (E3 s.2).at c = false := by rw [← hD]; exact hd
     show ((CD s.1 b f n).w.AV.at c).BL = (X.AV.at c).BL - (Du (s.2 ++ [x])).at c ∧ _
     rw [hH]
     by_cases hne : c = f
     ·subst hne
      rw [hHf, hwf]
      refine ⟨?_, hfe.2.1, hfe.2.2⟩
      show max 0 ((s.1.AV.at c).BL - n) = _
      have := hfe.1
      omega
     ·rw [hHc c c0 hne, hwc c c0 hne]
      exact h.un c c0 c6 hd'
    ·have hd' : (E3 s.2).at c = true := by rw [← hD]; exact hd
     have hne : c ≠ f := fun e => by rw [e, hnd] at hd'; cases hd'
     show (X.AV.at c).BL ≤ (Du (s.2 ++ [x])).at c ∧ _
     rw [hH, hHc c c0 hne]
     obtain ⟨q1, q2, q3, q4⟩ := h.di c c0 c6 hd'
     refine ⟨q1, by rw [hwc c c0 hne]; exact q2, by rw [hwc c c0 hne]; exact q3, fun a a0 a6 => by rw [hwa a a0]; exact q4 a a0 a6⟩
theorem OK {X : AH} {draw : Int} (hg : X.Bq = true) (hw : X.Dw) : ∀ k : Nat, k ≤ 6 → Ri X (D9 X draw k) ∧ (D9 X draw k).1.Bq = true ∧ (D9 X draw k).1.Dw ∧ (D9 X draw k).2.length ≤ 13 * k
 | 0, _ => ⟨.start X, hg, hw, Nat.le_refl _⟩
 | k + 1, hk => by
  obtain ⟨h1, h2, h3, h4⟩ := OK hg hw k (by omega)
  obtain ⟨g1, g2, g3⟩ := Fv (draw := draw) (b := (k : Int)) h2 h3 (by omega) (by omega)
  exact ⟨h1.next h2 h3 (by omega) (by omega), g1, g2, by show (El draw k (D9 X draw k)).2.length ≤ _; omega⟩
theorem Vs {X : AH} {draw : Int} (hw : X.Dw) (h : (CY X draw).2.2 = 0) : Ri X ((CY X draw).1, (CY X draw).2.1) ∧ (CY X draw).1.Bq = true ∧ (CY X draw).2.1.length ≤ 78 := by
 unfold CY at h ⊢
 split at h
 ·cases h
 ·rename_i h1
  rw [if_neg h1]
  obtain ⟨q1, q2, _, q4⟩ := OK (draw := draw) (by simpa using h1) hw 6 (Nat.le_refl _)
  generalize D9 X draw 6 = S at *
  exact ⟨q1, q2, Nat.le_trans q4 (by decide)⟩
end AF
end Go.Ing
/- The document's side of what beings do: plain functions and laws. -/
namespace Go.Ing
open Go
namespace AF
/-! #### names of players -/
def low (c : UInt8) : Bool := decide ((c.toNat : Int) < 97) || decide (122 < (c.toNat : Int))
def G4 (s : Aq) (k : Nat) : Bool := (s.drop k).all fun c => !low c
theorem UE {s : Aq} {k : Int} (h0 : 0 ≤ k) (h1 : k < s.length) : G4 s k.toNat = (!low (s.getD k.toNat 0) && G4 s (k + 1).toNat) := by
 have hk : k.toNat < s.length := by omega
 unfold G4
 rw [List.drop_eq_getElem_cons hk, show (k + 1).toNat = k.toNat + 1 by omega, List.getD_eq_getElem?_getD, List.getElem?_eq_getElem hk]
 rfl
theorem VZ (s : Aq) : G4 s (s.length : Int).toNat = true := by
 unfold G4
 rw [show (s.length : Int).toNat = s.length by omega, List.drop_length]; rfl
def Vy : Aq := [115, 111, 109, 101, 111, 110, 101]
def aP : Aq := [121, 111, 117]
def JR (s : Aq) : Bool := G4 s 0 && (decide (1 ≤ (s.length : Int)) && decide ((s.length : Int) ≤ 8) && !decide (s = Vy) && !decide (s = aP))
/-! #### who enters -/
def KS (X : AH) (s : Aq) (k : Int) : Bool := (X.AV.at k).here && decide ((X.AV.at k).name = s)
def DF (X : AH) : Nat → Int
 | 0 => -1
 | n + 1 => if (!(X.AV.at ((5 - n : Nat) : Int)).here && decide (2 ≤ ((5 - n : Nat) : Int))) = true then ((5 - n : Nat) : Int) else DF X n
theorem NN {X : AH} {k : Int} (h0 : 0 ≤ k) (h5 : k ≤ 5) : DF X (5 - (k - 1)).toNat = if (!(X.AV.at k).here && decide (2 ≤ k)) = true then k else DF X (5 - k).toNat := by
 have e : (5 - (k - 1)).toNat = (5 - k).toNat + 1 := by omega
 rw [e, DF, show ((5 - (5 - k).toNat : Nat) : Int) = k by omega]
theorem Vv {X : AH} {k : Int} (h2 : 2 ≤ k) (h5 : k ≤ 5) (h : (!(X.AV.at k).here) = false) : DF X (5 - (k - 1)).toNat = DF X (5 - k).toNat := by
 rw [NN (by omega) h5, h]; rfl
theorem TD {X : AH} {k : Int} (h2 : 2 ≤ k) (h5 : k ≤ 5) (h : (!(X.AV.at k).here) = true) : DF X (5 - (k - 1)).toNat = k := by
 rw [NN (by omega) h5, h, decide_eq_true h2]; rfl
theorem Tk (X : AH) : DF X 6 = DF X 4 := by
 have h1 : DF X 6 = DF X 5 := by
  rw [DF, if_neg (by simp)]
 have h2 : DF X 5 = DF X 4 := by
  rw [DF, if_neg (by simp)]
 rw [h1, h2]
theorem Oc (X : AH) : ∀ n : Nat, n ≤ 6 → DF X n = -1 ∨ (2 ≤ DF X n ∧ DF X n ≤ 5)
 | 0, _ => .inl rfl
 | n + 1, h => by
  unfold DF
  split
  ·rename_i c
   rw [Bool.and_eq_true] at c
   have := of_decide_eq_true c.2
   exact .inr ⟨this, by omega⟩
  ·exact Oc X n (by omega)
def KH (s : Aq) : Al := { (default : Al) with name := s, here := true, BL := 10 }
def Vi (X : AH) (s : Aq) (b : Int) : AF := ((⟨X.Cv b (KH s), b, []⟩ : AF).kind 17).look
def Bf (X : AH) (s : Aq) : AH × Int × List Event × Int :=
 if (!X.Bq) = true then (X, 0, [], 2)
 else if (!JR s) = true then (X, 0, [], 1)
 else if (!B5 6 (fun k => !KS X s k) 6) = true then (X, 0, [], 1)
 else if decide (DF X 6 < 0) = true then (X, 0, [], 4)
 else ((Vi X s (DF X 6)).w, DF X 6, (Vi X s (DF X 6)).out, 0)
theorem OV (X : AH) (s : Aq) : (Bf X s).2.2.1.length ≤ 10 := by
 unfold Bf
 split
 ·exact Nat.zero_le _
 ·split
  ·exact Nat.zero_le _
  ·split
   ·exact Nat.zero_le _
   ·split
    ·exact Nat.zero_le _
    ·exact (Mv _).2.2
theorem Tu {X : AH} {s : Aq} {b : Int} (hg : X.Bq = true) (hw : X.Dw) (hs : s.length ≤ 140737488351232) (h0 : 0 ≤ b) (h6 : b < 6) : Fit ⟨X.Cv b (KH s), b, []⟩ :=
 ⟨⟨h0, h6⟩, EJ hw hs, JK hg h0 h6 ⟨⟨Int.le_refl _, show (0 : Int) < 6 by decide⟩, ⟨show (0 : Int) ≤ 10 by decide, show (10 : Int) ≤ 10 by decide⟩, ⟨Int.le_refl _, show (0 : Int) ≤ 6 by decide⟩, fun _ => rfl, rfl⟩ fun _ => rfl, by
  show ((X.Cv b (KH s)).AV.at b).here = true
  rw [AH.Ed h0 h6]; rfl⟩
end AF
end Go.Ing
/- A round, as the document says it: plain laws. -/
namespace Go.Ing
open Go
theorem SY {α : Type} [Inhabited α] {n : Nat} {v u : Vector α n} (h : ∀ i : Int, 0 ≤ i → i < n → v.at i = u.at i) : v = u := by
 apply Vector.ext
 intro i hi
 have := h (i : Int) (by omega) (by omega)
 unfold Vector.at at this
 rw [List.getD_eq_getElem?_getD, List.getD_eq_getElem?_getD] at this
 simpa [hi] using this
namespace AF
def pre (o : List Event) (T : AF) : AF := ⟨T.w, T.b, o ++ T.out⟩
theorem PV (T : AF) {i : Int} (h0 : 0 ≤ i) (h9 : i < 9) (c : decide ((((T.w.AX.put i { T.w.AX.at i with Ck := 0 }).put i { (T.w.AX.put i { T.w.AX.at i with Ck := 0 }).at i with at_ := (T.w.AV.at T.b).room }).at i).kind = 2) = true) : ({ T.w with AX := ((T.w.AX.put i { T.w.AX.at i with Ck := 0 }).put i { (T.w.AX.put i { T.w.AX.at i with Ck := 0 }).at i with at_ := (T.w.AV.at T.b).room }).put i { ((T.w.AX.put i { T.w.AX.at i with Ck := 0 }).put i { (T.w.AX.put i { T.w.AX.at i with Ck := 0 }).at i with at_ := (T.w.AV.at T.b).room }).at i with on := false } } : AH) = (T.Ee i).w := by
 rw [Vector.CG h0 h9, Vector.CG h0 h9] at c
 rw [Vector.CG h0 h9, Vector.EK, Vector.CG h0 h9, Vector.EK]
 unfold Ee
 rw [if_pos (show decide ((T.w.AX.at i).kind = 2) = true from c)]; rfl
theorem TB (T : AF) {i : Int} (h0 : 0 ≤ i) (h9 : i < 9) (c : decide ((((T.w.AX.put i { T.w.AX.at i with Ck := 0 }).put i { (T.w.AX.put i { T.w.AX.at i with Ck := 0 }).at i with at_ := (T.w.AV.at T.b).room }).at i).kind = 2) = false) : ({ T.w with AX := (T.w.AX.put i { T.w.AX.at i with Ck := 0 }).put i { (T.w.AX.put i { T.w.AX.at i with Ck := 0 }).at i with at_ := (T.w.AV.at T.b).room } } : AH) = (T.Ee i).w := by
 rw [Vector.CG h0 h9, Vector.CG h0 h9] at c
 rw [Vector.CG h0 h9, Vector.EK]
 unfold Ee
 rw [if_neg (show ¬ decide ((T.w.AX.at i).kind = 2) = true from by rw [show decide ((T.w.AX.at i).kind = 2) = false from c]; decide)]; rfl
theorem OL {X : AH} (hw : X.Dw) (draw : Int) : (CY X draw).2.1.length ≤ 78 := by
 by_cases h : (CY X draw).2.2 = 0
 ·exact (Vs hw h).2.2
 ·unfold CY at h ⊢
  split
  ·exact Nat.zero_le _
  ·rename_i h1
   rw [if_neg h1] at h
   exact absurd rfl h
end AF
end Go.Ing
/- What beings do, as the document says it: plain laws. -/
namespace Go.Ing
open Go
namespace AF
def skip (w : AH) (u : Aq) (i : Int) : Bool := !decide (u = []) && !decide (u = (w.AX.at i).name)
/-! #### what is taken -/
/-! #### what is set -/
/-! #### what is let go of -/
theorem S6 (T : AF) (o : Order) : (T.C7 o).1.w = T.w ∧ (T.C7 o).1.b = T.b := by
 unfold C7
 split
 ·exact T.OE o.second
 ·split
  ·exact T.Nq o.second
  ·exact ⟨rfl, rfl⟩
theorem ON (T : AF) (o : Order) : 0 ≤ (T.C7 o).2.1 ∧ (T.C7 o).2.1 < 9 := by
 unfold C7
 split
 ·exact T.XG o.second
 ·split
  ·have := T.KN o.second; omega
  ·exact ⟨Int.le_refl 0, show (0 : Int) < 9 by decide⟩
theorem U9 {T : AF} {o : Order} (hv : o.verb = 8 ∨ o.verb = 9 ∨ o.verb = 10) (h : (T.C7 o).2.2 = true) : QP (T.C7 o).1 o.verb (T.C7 o).2.1 := by
 unfold QP
 rw [(T.S6 o).1]
 unfold C7 at h ⊢
 split at h
 ·rename_i h2
  rw [if_pos h2]
  obtain ⟨a0, a9, hk, _⟩ := Xu h
  have := of_decide_eq_true h2
  exact .inr (.inr ⟨by omega, by omega, a0, a9, hk⟩)
 ·rename_i h2
  rw [if_neg h2]
  split at h
  ·rename_i h3
   rw [if_pos h3]
   obtain ⟨a0, a6, _, hs⟩ := Qf h
   exact .inr (.inl ⟨of_decide_eq_true h3, a0, a6, (AH.JQ (AH.Rf hs).2.1).2.2⟩)
  ·rename_i h3
   rw [if_neg h3]
   refine .inl ?_
   rcases hv with e | e | e
   ·exact e
   ·exact absurd (decide_eq_true e) h2
   ·exact absurd (decide_eq_true e) h3
def KB (T : AF) (o : Order) : List Int := BO T.w T.own o.nth o.name o.Bk
def PJ (T : AF) (o : Order) : AF := if decide (((T.KB o).length : Int) = 0) = true then T.tell Ox else T
theorem YM {T : AF} {o : Order} (h : decide (((T.KB o).length : Int) = 0) = true) : T.PJ o = T.tell Ox := if_pos h
theorem YA {T : AF} {o : Order} (h : decide (((T.KB o).length : Int) = 0) = false) : T.PJ o = T := if_neg (by rw [h]; decide)
theorem Yf (T : AF) (o : Order) : (T.PJ o).w = T.w ∧ (T.PJ o).b = T.b ∧ (T.PJ o).out.length ≤ T.out.length + 1 := by
 unfold PJ
 split
 ·exact ⟨rfl, rfl, by rw [B6]; exact Nat.le_refl _⟩
 ·exact ⟨rfl, rfl, Nat.le_succ _⟩
def PO (T : AF) (to : Int) (o : Order) (k : Nat) : AF := (T.PJ o).Fa o.verb to ((T.KB o).take k)
theorem Lt {v to : Int} : ∀ (l : List Int) (T : AF) (i : Int), T.Fa v to (l ++ [i]) = (T.Fa v to l).DN v to i
 | [], _, _ => rfl
 | _ :: r, _, i => Lt r _ i
theorem XR {l : List Int} {k : Int} (h0 : 0 ≤ k) (h1 : k < l.length) : l.take (k + 1).toNat = l.take k.toNat ++ [l.getD k.toNat 0] := by
 obtain ⟨m, rfl⟩ := Int.eq_ofNat_of_zero_le h0
 have hm : m < l.length := by omega
 show l.take (m + 1) = l.take m ++ [l.getD m 0]
 rw [List.take_add_one, List.getElem?_eq_getElem hm, List.getD_eq_getElem?_getD, List.getElem?_eq_getElem hm]
 rfl
theorem H2 {T : AF} {to : Int} {o : Order} {k : Int} (h0 : 0 ≤ k) (h1 : k < (T.KB o).length) : T.PO to o (k + 1).toNat = (T.PO to o k.toNat).DN o.verb to ((T.KB o).getD k.toNat 0) := by
 unfold PO
 rw [XR h0 h1, Lt]
theorem Uz {T : AF} {to : Int} {o : Order} : T.PO to o ((T.KB o).length : Int).toNat = T.WJ to o := by
 unfold PO
 rw [show ((T.KB o).length : Int).toNat = (T.KB o).length by omega, List.take_length]
 rfl
theorem Qc {T : AF} {o : Order} : (∀ i ∈ T.KB o, Rq T.w T.b i) ∧ (T.KB o).Nodup ∧ (T.KB o).length ≤ 9 :=
 ⟨fun _ hi => (HF (EV hi)).XK, List.Nodup.sublist (ET ..) (AH.TJ ..), Nat.le_trans (ET ..).length_le (AF.JN T)⟩
theorem NI (v to : Int) : ∀ (l : List Int) (T : AF), (T.Fa v to l).out.length ≤ T.out.length + l.length ∧ (T.Fa v to l).b = T.b
 | [], _ => ⟨Nat.le_refl _, rfl⟩
 | i :: r, T => by
  obtain ⟨h1, h2⟩ := NI v to r (T.DN v to i)
  have h3 := T.MX v to i
  rw [Fa, List.length_cons]
  exact ⟨by omega, h2.trans (T.VO v to i)⟩
theorem V5 (T : AF) (to : Int) (o : Order) (k : Nat) : (T.PO to o k).out.length ≤ T.out.length + 10 ∧ (T.PO to o k).b = T.b := by
 have hs := T.Yf o
 obtain ⟨h1, h2⟩ := NI o.verb to ((T.KB o).take k) (T.PJ o)
 have h3 := (Qc (T := T) (o := o)).2.2
 have h4 : ((T.KB o).take k).length ≤ (T.KB o).length := (List.take_sublist ..).length_le
 unfold PO
 exact ⟨by omega, h2.trans hs.2.1⟩
theorem QP.bg {T : AF} {v to : Int} (h : QP T v to) (hv : v = 10) : to < 6 := by
 rcases h with h | ⟨_, _, h, _⟩ | ⟨_, h, _⟩ <;> omega
theorem Tr {T X : AF} {o : Order} {p : Bool} (hX : X = (T.C7 o).1) (hp : p = (T.C7 o).2.2) (h : (!p) = true) : T.Gy o = X := by
 rw [hp] at h
 rw [hX]
 exact if_pos h
theorem Rv {T X : AF} {o : Order} {to : Int} {p : Bool} (hX : X = (T.C7 o).1) (ht : to = (T.C7 o).2.1) (hp : p = (T.C7 o).2.2) (h : (!p) = false) : T.Gy o = X.WJ to o ∧ 0 ≤ to ∧ to < 9 ∧ (o.verb = 8 ∨ o.verb = 9 ∨ o.verb = 10 → QP X o.verb to) := by
 rw [hp] at h
 have h2 : (T.C7 o).2.2 = true := by simpa using h
 rw [hX, ht]
 exact ⟨if_neg (by rw [h]; decide), (T.ON o).1, (T.ON o).2, fun hv => U9 hv h2⟩
/-! #### what a being does -/
theorem GB {T : AF} {o : Order} (h : o.verb < 6) : T.act o = T.walk o.verb := by
 unfold act; rw [if_pos (decide_eq_true h)]
theorem MM (X : AH) (b : Int) (o : Order) : (FY X b o).2.1.length ≤ 11 := by
 unfold FY
 split
 ·exact Nat.zero_le _
 ·split
  ·exact Nat.zero_le _
  ·split
   ·exact Nat.zero_le _
   ·have := W1 (⟨X, b, []⟩ : AF) o
    exact Nat.le_trans this (Nat.le_refl 11)
end AF
end Go.Ing
/- Engine: the same rules, said shorter. -/
namespace Go.Ing
open Go
section
variable {F : List (Nat × Value)} {v0 v1 v2 v3 v4 v5 v6 v7 v8 v9 v10 v11 : Value}
theorem Sub.t1 (k0 : Nat) (h0 : lk k0 F = some v0 := by rfl) : Sub F [(k0, v0)] := .cons h0 (.nil _)
theorem Sub.t2 (k0 k1 : Nat) (h0 : lk k0 F = some v0 := by rfl) (h1 : lk k1 F = some v1 := by rfl) : Sub F [(k0, v0), (k1, v1)] := .cons h0 (.cons h1 (.nil _))
theorem Sub.t3 (k0 k1 k2 : Nat) (h0 : lk k0 F = some v0 := by rfl) (h1 : lk k1 F = some v1 := by rfl) (h2 : lk k2 F = some v2 := by rfl) : Sub F [(k0, v0), (k1, v1), (k2, v2)] := .cons h0 (.cons h1 (.cons h2 (.nil _)))
theorem Sub.t4 (k0 k1 k2 k3 : Nat) (h0 : lk k0 F = some v0 := by rfl) (h1 : lk k1 F = some v1 := by rfl) (h2 : lk k2 F = some v2 := by rfl) (h3 : lk k3 F = some v3 := by rfl) : Sub F [(k0, v0), (k1, v1), (k2, v2), (k3, v3)] := .cons h0 (.cons h1 (.cons h2 (.cons h3 (.nil _))))
theorem Sub.t5 (k0 k1 k2 k3 k4 : Nat) (h0 : lk k0 F = some v0 := by rfl) (h1 : lk k1 F = some v1 := by rfl) (h2 : lk k2 F = some v2 := by rfl) (h3 : lk k3 F = some v3 := by rfl) (h4 : lk k4 F = some v4 := by rfl) : Sub F [(k0, v0), (k1, v1), (k2, v2), (k3, v3), (k4, v4)] := .cons h0 (.cons h1 (.cons h2 (.cons h3 (.cons h4 (.nil _)))))
theorem Sub.t6 (k0 k1 k2 k3 k4 k5 : Nat) (h0 : lk k0 F = some v0 := by rfl) (h1 : lk k1 F = some v1 := by rfl) (h2 : lk k2 F = some v2 := by rfl) (h3 : lk k3 F = some v3 := by rfl) (h4 : lk k4 F = some v4 := by rfl) (h5 : lk k5 F = some v5 := by rfl) : Sub F [(k0, v0), (k1, v1), (k2, v2), (k3, v3), (k4, v4), (k5, v5)] := .cons h0 (.cons h1 (.cons h2 (.cons h3 (.cons h4 (.cons h5 (.nil _))))))
theorem Sub.t7 (k0 k1 k2 k3 k4 k5 k6 : Nat) (h0 : lk k0 F = some v0 := by rfl) (h1 : lk k1 F = some v1 := by rfl) (h2 : lk k2 F = some v2 := by rfl) (h3 : lk k3 F = some v3 := by rfl) (h4 : lk k4 F = some v4 := by rfl) (h5 : lk k5 F = some v5 := by rfl) (h6 : lk k6 F = some v6 := by rfl) : Sub F [(k0, v0), (k1, v1), (k2, v2), (k3, v3), (k4, v4), (k5, v5), (k6, v6)] := .cons h0 (.cons h1 (.cons h2 (.cons h3 (.cons h4 (.cons h5 (.cons h6 (.nil _)))))))
theorem Sub.t8 (k0 k1 k2 k3 k4 k5 k6 k7 : Nat) (h0 : lk k0 F = some v0 := by rfl) (h1 : lk k1 F = some v1 := by rfl) (h2 : lk k2 F = some v2 := by rfl) (h3 : lk k3 F = some v3 := by rfl) (h4 : lk k4 F = some v4 := by rfl) (h5 : lk k5 F = some v5 := by rfl) (h6 : lk k6 F = some v6 := by rfl) (h7 : lk k7 F = some v7 := by rfl) : Sub F [(k0, v0), (k1, v1), (k2, v2), (k3, v3), (k4, v4), (k5, v5), (k6, v6), (k7, v7)] := .cons h0 (.cons h1 (.cons h2 (.cons h3 (.cons h4 (.cons h5 (.cons h6 (.cons h7 (.nil _))))))))
theorem Sub.t9 (k0 k1 k2 k3 k4 k5 k6 k7 k8 : Nat) (h0 : lk k0 F = some v0 := by rfl) (h1 : lk k1 F = some v1 := by rfl) (h2 : lk k2 F = some v2 := by rfl) (h3 : lk k3 F = some v3 := by rfl) (h4 : lk k4 F = some v4 := by rfl) (h5 : lk k5 F = some v5 := by rfl) (h6 : lk k6 F = some v6 := by rfl) (h7 : lk k7 F = some v7 := by rfl) (h8 : lk k8 F = some v8 := by rfl) : Sub F [(k0, v0), (k1, v1), (k2, v2), (k3, v3), (k4, v4), (k5, v5), (k6, v6), (k7, v7), (k8, v8)] := .cons h0 (.cons h1 (.cons h2 (.cons h3 (.cons h4 (.cons h5 (.cons h6 (.cons h7 (.cons h8 (.nil _)))))))))
theorem Sub.t10 (k0 k1 k2 k3 k4 k5 k6 k7 k8 k9 : Nat) (h0 : lk k0 F = some v0 := by rfl) (h1 : lk k1 F = some v1 := by rfl) (h2 : lk k2 F = some v2 := by rfl) (h3 : lk k3 F = some v3 := by rfl) (h4 : lk k4 F = some v4 := by rfl) (h5 : lk k5 F = some v5 := by rfl) (h6 : lk k6 F = some v6 := by rfl) (h7 : lk k7 F = some v7 := by rfl) (h8 : lk k8 F = some v8 := by rfl) (h9 : lk k9 F = some v9 := by rfl) : Sub F [(k0, v0), (k1, v1), (k2, v2), (k3, v3), (k4, v4), (k5, v5), (k6, v6), (k7, v7), (k8, v8), (k9, v9)] := .cons h0 (.cons h1 (.cons h2 (.cons h3 (.cons h4 (.cons h5 (.cons h6 (.cons h7 (.cons h8 (.cons h9 (.nil _))))))))))
theorem Sub.t11 (k0 k1 k2 k3 k4 k5 k6 k7 k8 k9 k10 : Nat) (h0 : lk k0 F = some v0 := by rfl) (h1 : lk k1 F = some v1 := by rfl) (h2 : lk k2 F = some v2 := by rfl) (h3 : lk k3 F = some v3 := by rfl) (h4 : lk k4 F = some v4 := by rfl) (h5 : lk k5 F = some v5 := by rfl) (h6 : lk k6 F = some v6 := by rfl) (h7 : lk k7 F = some v7 := by rfl) (h8 : lk k8 F = some v8 := by rfl) (h9 : lk k9 F = some v9 := by rfl) (h10 : lk k10 F = some v10 := by rfl) : Sub F [(k0, v0), (k1, v1), (k2, v2), (k3, v3), (k4, v4), (k5, v5), (k6, v6), (k7, v7), (k8, v8), (k9, v9), (k10, v10)] := .cons h0 (.cons h1 (.cons h2 (.cons h3 (.cons h4 (.cons h5 (.cons h6 (.cons h7 (.cons h8 (.cons h9 (.cons h10 (.nil _)))))))))))
end
section
variable {P : Program} {n : Nat} {w0 : World} {M : List Nat} {Q : Exit → Go.Act → World → Prop} {F F' : List (Nat × Value)} {L L' A K : List Ad} {ops : Array Oper} {rest l : List Oper} {d id : Nat} {op : Op} {T : TypeId} {pos : String} {Cf : Array Edge} {v v' : Value} {x y : Code}
theorem Gs (h : GL P n w0 M l.toArray (Exit.then (y.wp P Q) Q) l F L) : G P n w0 M (.seq (.region id l.toArray false) y) Q F L := Ap (AI h)
theorem B7 {z : Code} (h : GL P n w0 M l.toArray (Exit.then (y.wp P (Exit.then (z.wp P Q) Q)) (Exit.then (z.wp P Q) Q)) l F L) : G P n w0 M (.seq (.seq (.region id l.toArray false) y) z) Q F L := Ap (Ap (AI h))
theorem Gn (hs : Sub F F') (h : G P n w0 M y Q F' L) : GL P n w0 M ops (Exit.then (y.wp P Q) Q) [] F L := AO (AB hs (AA h))
theorem Gt (h : PS P n w0 M op T F L v L') (k : GL P n w0 M ops Q rest ((d, v) :: F) L') (hd : Nat.blt d n = true := by rfl) : GL P n w0 M ops Q (⟨some d, op, T, pos, Cf, none⟩ :: rest) F L := JT hd h k
theorem Gm {x : Operand} (h : ev F x = some v) (k : GL P n w0 M ops Q rest ((d, v) :: F) L) (hd : Nat.blt d n = true := by rfl) : GL P n w0 M ops Q (⟨some d, .move x, T, pos, Cf, none⟩ :: rest) F L := JT hd (AE h) k
theorem Ga {x : Operand} (h : ev F x = some v) (k : GL P n w0 M ops Q rest ((d, v) :: F) L) (hd : Nat.blt d n = true := by rfl) : GL P n w0 M ops Q (⟨some d, .assign x, T, pos, Cf, none⟩ :: rest) F L := JT hd (Ay h) k
theorem Bh {j : Nat} {z : Bool} (t : Nat) (hj : (ops[j]?).bind (·.dst) = some t) (hb : lk t F = some (.bool z)) (h : z = true → PS P n w0 M op T F L v L) (k : GL P n w0 M ops Q rest ((d, cv z v) :: F) L) (hd : Nat.blt d n = true := by rfl) : GL P n w0 M ops Q (⟨some d, op, T, pos, Cf, some (j, true)⟩ :: rest) F L := XW hj hb hd h k
theorem BU {j : Nat} {z : Bool} (t : Nat) (hj : (ops[j]?).bind (·.dst) = some t) (hb : lk t F = some (.bool z)) (h : z = false → PS P n w0 M op T F L v L) (k : GL P n w0 M ops Q rest ((d, cv (!z) v) :: F) L) (hd : Nat.blt d n = true := by rfl) : GL P n w0 M ops Q (⟨some d, op, T, pos, Cf, some (j, false)⟩ :: rest) F L := Xp hj hb hd h k
theorem Gc {c : Operand} {b : Bool} (ht : b = true → G P n w0 M x Q F L) (hf : b = false → G P n w0 M y Q F L) (hc : ev F c = some (.bool b) := by rfl) : G P n w0 M (.cond c x y) Q F L := Nn hc ht hf
end
section
variable {P : Program} {n : Nat} {w0 : World} {M : List Nat} {Q : Exit → Go.Act → World → Prop} {l : List Oper} {Rs : List Nat} {F : List (Nat × Value)}
variable {k i j d : Nat} {V A : List Nat} {D : List (Nat × (Nat × Value))} {L : List Ad} {op : Op} {T : TypeId} {pos : String} {Cf : Array Edge} {v v' : Value}
theorem Pf (i : Nat) (ho : l[i]? = some ⟨some d, op, T, pos, Cf, none⟩) (h : PS P n w0 M op T (ER D Cf.toList ++ F) L v L) (k' : II P n w0 M Q l Rs F k (i :: V) (i :: A) ((i, (d, v)) :: D) L) (hc : Ul l V i Cf.toList = true := by kernel_rfl) (hlk : RT F d v := by first | exact .inl rfl | exact .inr rfl) : II P n w0 M Q l Rs F (k + 1) V A D L :=
 BV i ho rfl hc (KQ (H3 h)) k' hlk
theorem G1 {j : Nat} {y : Bool} (i t : Nat) (ho : l[i]? = some ⟨some d, op, T, pos, Cf, some (j, false)⟩) (hj : (l.toArray[j]?).bind (·.dst) = some t) (hb : lk t (ER D Cf.toList ++ F) = some (.bool y)) (h : y = false → PS P n w0 M op T (ER D Cf.toList ++ F) L v L) (k' : II P n w0 M Q l Rs F k (i :: V) (i :: A) ((i, (d, cv (!y) v)) :: D) L) (hc : Ul l V i Cf.toList = true := by kernel_rfl) (hlk : RT F d (cv (!y) v) := by first | exact .inl rfl | exact .inr rfl) : II P n w0 M Q l Rs F (k + 1) V A D L :=
 BV i ho rfl hc (GN (t := t) hj hb (fun q => H3 (h q))) k' hlk
theorem LR {j : Nat} {y : Bool} (i t : Nat) (ho : l[i]? = some ⟨some d, op, T, pos, Cf, some (j, true)⟩) (hj : (l.toArray[j]?).bind (·.dst) = some t) (hb : lk t (ER D Cf.toList ++ F) = some (.bool y)) (h : y = true → PS P n w0 M op T (ER D Cf.toList ++ F) L v L) (k' : II P n w0 M Q l Rs F k (i :: V) (i :: A) ((i, (d, cv y v)) :: D) L) (hc : Ul l V i Cf.toList = true := by kernel_rfl) (hlk : RT F d (cv y v) := by first | exact .inl rfl | exact .inr rfl) : II P n w0 M Q l Rs F (k + 1) V A D L :=
 BV i ho rfl hc (QD (t := t) hj hb (fun q => H3 (h q))) k' hlk
theorem Pk (h : Ih P n w0 M Q l Rs F i D L A) (hr : reaches Rs i j = true := by kernel_rfl) : Ih P n w0 M Q l Rs F i D L (j :: A) := Tp hr h
theorem Po (ho : l[j]? = some ⟨some d, op, T, pos, Cf, none⟩) (h : PS P n w0 M op T (ER D Cf.toList ++ F) L v' L) (hl : L9 j D = some (d, v)) (e : v' = v) (k' : Ih P n w0 M Q l Rs F i D L A) : Ih P n w0 M Q l Rs F i D L (j :: A) := Uj ho (KQ (H3 h)) hl e k'
end
section
variable {P : Program} {n : Nat} {w0 : World} {M : List Nat} {F : List (Nat × Value)} {L : List Ad}
theorem cF {x : Operand} {c : Bool} {v : Value} (h : ev F x = some (cv (!c) v)) (q : c = false) : ev F x = some v := Bc h (by rw [q]; rfl)
theorem Ai {T U f off b o : Nat} {x : Operand} (hf : FA P T f off) (hx : ev F x = some (.pointer (some ⟨b, o, none⟩))) : PS P n w0 M (.fieldAddr T x f) U F L (.pointer (some ⟨b, o + off, none⟩)) L := P5 hf hx
theorem BR {T : TypeId} {x : Operand} {p : Addr} (hx : ev F x = some (.pointer (some p))) : PS P n w0 M (.nilCheck x) T F L (.pointer (some p)) L := Qh hx
end
theorem AS.ar {α : Type} {n : Nat} [Inhabited α] {e : α → List Value} {sz : Nat} (fe : Flat e sz) {i : Int} (h : 0 ≤ i ∧ i < (n : Int)) : AS (B8 (n := n) e) e (i.toNat * sz) sz (fun v => v.at i) (fun v y => v.put i y) := AS.arr fe h.1 h.2
class Nz (a : Prop) (b : outParam Prop) : Prop where
 h : a → b
theorem kz {a b : Prop} [i : Nz a b] (h : a) : b := i.h h
section
variable {p : Prop} [Decidable p] {a b : Bool} {x y : Prop} {m n : Int}
instance (priority := low) : Nz p p := ⟨id⟩
instance : Nz (decide p = true) p := ⟨of_decide_eq_true⟩
instance (priority := low) : Nz (decide p = false) (¬ p) := ⟨of_decide_eq_false⟩
instance : Nz (decide (m < n) = false) (n ≤ m) := ⟨fun h => Int.not_lt.1 (of_decide_eq_false h)⟩
instance : Nz (decide (m ≤ n) = false) (n < m) := ⟨fun h => Int.not_le.1 (of_decide_eq_false h)⟩
instance [i : Nz (a = false) x] : Nz ((!a) = true) x := ⟨fun h => i.h (by simpa using h)⟩
instance [i : Nz (a = true) x] : Nz ((!a) = false) x := ⟨fun h => i.h (by simpa using h)⟩
instance [i : Nz (a = true) x] [j : Nz (b = true) y] : Nz ((a && b) = true) (x ∧ y) := ⟨fun h => ⟨i.h (bY ▸ h).1, j.h (bY ▸ h).2⟩⟩
instance [i : Nz (a = false) x] [j : Nz (b = false) y] : Nz ((a || b) = false) (x ∧ y) := ⟨fun h => ⟨i.h (bR ▸ h).1, j.h (bR ▸ h).2⟩⟩
instance [i : Nz (a = true) x] [j : Nz (b = true) y] : Nz ((a || b) = true) (x ∨ y) := ⟨fun h => (bn ▸ h : a = true ∨ b = true).imp i.h j.h⟩
instance [i : Nz (a = false) x] [j : Nz (b = false) y] : Nz ((a && b) = false) (x ∨ y) := ⟨fun h => (bp ▸ h : a = false ∨ b = false).imp i.h j.h⟩
end
section
variable {F : List (Nat × Value)} {P : Program} {L L' K rs : List Ad} {r r' s : Ad} {x : Operand} {v : Value} {xs : List Operand} {vs : List Value}
theorem Jz.h : Jz (r :: L) r r' (r' :: L) := .head
theorem Jz.t (h : Jz L r r' L') : Jz (s :: L) r r' (s :: L') := .tail h
theorem KY.h : KY (r :: L) r L := .head
theorem KY.t (h : KY L r L') : KY (s :: L) r (s :: L') := .tail h
theorem Av.n : Av L [] L := .nil
theorem Av.c (h : KY L r L') (hs : Av L' rs K) : Av L (r :: rs) K := .cons h hs
theorem Nu.n : Nu F [] [] := .nil
theorem Nu.c (h : ev F x = some v) (hs : Nu F xs vs) : Nu F (x :: xs) (v :: vs) := .cons h hs
theorem Rs.n : Rs P F L [] [] := .nil
end
section
variable {α : Type} {a b c d e f g h i j : α} {l : List α}
theorem _root_.List.Mem.m0 : List.Mem a (a :: l) := .head _
theorem _root_.List.Mem.m1 : List.Mem a (b :: a :: l) := .tail _ .m0
theorem _root_.List.Mem.m2 : List.Mem a (b :: c :: a :: l) := .tail _ .m1
theorem _root_.List.Mem.m3 : List.Mem a (b :: c :: d :: a :: l) := .tail _ .m2
theorem _root_.List.Mem.m4 : List.Mem a (b :: c :: d :: e :: a :: l) := .tail _ .m3
theorem _root_.List.Mem.m5 : List.Mem a (b :: c :: d :: e :: f :: a :: l) := .tail _ .m4
theorem _root_.List.Mem.m6 : List.Mem a (b :: c :: d :: e :: f :: g :: a :: l) := .tail _ .m5
theorem _root_.List.Mem.m7 : List.Mem a (b :: c :: d :: e :: f :: g :: h :: a :: l) := .tail _ .m6
end
end Go.Ing
/- A house's data, in Lean, and their parts. -/
namespace Go.Ing
open Go
structure A0 where
 state : Int
 A8 : Int
 EA : AN
 ED : BJ
 out : Aw
 told : Hd
instance : Inhabited A0 := ⟨⟨0, 0, default, ⟨[], false, false, ⟨none, 0, 0⟩⟩, ⟨⟨none, 0, 0⟩, 0, false, [], false⟩, ⟨none, 0, 0⟩⟩⟩
def A0.enc (x : A0) : List Value := Au x.state ++ Au x.A8 ++ AN.enc x.EA ++ BJ.enc x.ED ++ Aw.enc x.out ++ EH x.told
theorem A0.fl : Flat A0.enc 22 := ⟨fun x => by simp [A0.enc, BJ.fl.len, Aw.fl.len, AN.fl.len, Nt.len, Bw.len], fun x v hv => by
 simp only [A0.enc, List.mem_append] at hv
 rcases hv with ((((h | h) | h) | h) | h) | h
 ·exact Bw.one _ v h
 ·exact Bw.one _ v h
 ·exact AN.fl.one _ v h
 ·exact BJ.fl.one _ v h
 ·exact Aw.fl.one _ v h
 ·exact Nt.one _ v h⟩
theorem A0.l0 : AS A0.enc (Au) 0 1 (fun x => x.state) (fun x y => { x with state := y }) :=
 AS.EI Bw (fun _ => []) (fun x => Au x.A8 ++ AN.enc x.EA ++ BJ.enc x.ED ++ Aw.enc x.out ++ EH x.told) (fun _ => rfl) (fun x => by simp [A0.enc]) (fun x y => by simp [A0.enc])
theorem A0.l1 : AS A0.enc (Au) 1 1 (fun x => x.A8) (fun x y => { x with A8 := y }) :=
 AS.EI Bw (fun x => Au x.state) (fun x => AN.enc x.EA ++ BJ.enc x.ED ++ Aw.enc x.out ++ EH x.told) (fun x => by simp [Bw.len]) (fun x => by simp [A0.enc]) (fun x y => by simp [A0.enc])
theorem A0.l2 : AS A0.enc (AN.enc) 2 10 (fun x => x.EA) (fun x y => { x with EA := y }) :=
 AS.EI AN.fl (fun x => Au x.state ++ Au x.A8) (fun x => BJ.enc x.ED ++ Aw.enc x.out ++ EH x.told) (fun x => by simp [Bw.len]) (fun x => by simp [A0.enc]) (fun x y => by simp [A0.enc])
theorem A0.l3 : AS A0.enc (BJ.enc) 12 4 (fun x => x.ED) (fun x y => { x with ED := y }) :=
 AS.EI BJ.fl (fun x => Au x.state ++ Au x.A8 ++ AN.enc x.EA) (fun x => Aw.enc x.out ++ EH x.told) (fun x => by simp [AN.fl.len, Bw.len]) (fun x => by simp [A0.enc]) (fun x y => by simp [A0.enc])
theorem A0.l4 : AS A0.enc (Aw.enc) 16 5 (fun x => x.out) (fun x y => { x with out := y }) :=
 AS.EI Aw.fl (fun x => Au x.state ++ Au x.A8 ++ AN.enc x.EA ++ BJ.enc x.ED) (fun x => EH x.told) (fun x => by simp [BJ.fl.len, AN.fl.len, Bw.len]) (fun x => by simp [A0.enc]) (fun x y => by simp [A0.enc])
theorem A0.l5 : AS A0.enc (EH) 21 1 (fun x => x.told) (fun x y => { x with told := y }) :=
 AS.EI Nt (fun x => Au x.state ++ Au x.A8 ++ AN.enc x.EA ++ BJ.enc x.ED ++ Aw.enc x.out) (fun _ => []) (fun x => by simp [BJ.fl.len, Aw.fl.len, AN.fl.len, Bw.len]) (fun x => by simp [A0.enc]) (fun x y => by simp [A0.enc])
structure AM where
 w : AH
 Ax : RB A0 4
 Cs : Int
 last : Hd
def AM.enc (x : AM) : List Value := AH.enc x.w ++ B8 A0.enc x.Ax ++ Au x.Cs ++ EH x.last
theorem AM.fl : Flat AM.enc 255 := ⟨fun x => by simp [AM.enc, (I4 A0.fl).len, AH.fl.len, Nt.len, Bw.len], fun x v hv => by
 simp only [AM.enc, List.mem_append] at hv
 rcases hv with ((h | h) | h) | h
 ·exact AH.fl.one _ v h
 ·exact (I4 A0.fl).one _ v h
 ·exact Bw.one _ v h
 ·exact Nt.one _ v h⟩
theorem AM.l0 : AS AM.enc (AH.enc) 0 165 (fun x => x.w) (fun x y => { x with w := y }) :=
 AS.EI AH.fl (fun _ => []) (fun x => B8 A0.enc x.Ax ++ Au x.Cs ++ EH x.last) (fun _ => rfl) (fun x => by simp [AM.enc]) (fun x y => by simp [AM.enc])
theorem AM.l1 : AS AM.enc (B8 A0.enc) 165 88 (fun x => x.Ax) (fun x y => { x with Ax := y }) :=
 AS.EI (I4 A0.fl) (fun x => AH.enc x.w) (fun x => Au x.Cs ++ EH x.last) (fun x => by simp [AH.fl.len]) (fun x => by simp [AM.enc]) (fun x y => by simp [AM.enc])
theorem AM.l2 : AS AM.enc (Au) 253 1 (fun x => x.Cs) (fun x y => { x with Cs := y }) :=
 AS.EI Bw (fun x => AH.enc x.w ++ B8 A0.enc x.Ax) (fun x => EH x.last) (fun x => by simp [(I4 A0.fl).len, AH.fl.len]) (fun x => by simp [AM.enc]) (fun x y => by simp [AM.enc])
theorem AM.l3 : AS AM.enc (EH) 254 1 (fun x => x.last) (fun x y => { x with last := y }) :=
 AS.EI Nt (fun x => AH.enc x.w ++ B8 A0.enc x.Ax ++ Au x.Cs) (fun _ => []) (fun x => by simp [(I4 A0.fl).len, AH.fl.len, Bw.len]) (fun x => by simp [AM.enc]) (fun x y => by simp [AM.enc])
end Go.Ing
/- What a house does: plain functions. -/
namespace Go.Ing
open Go
structure BB where
 state : Int
 A8 : Int
 EA : AN
 now : Aq
 Cj : Bool
 ret : Bool
 queue : List Aq
 pg : Page.Pg
 wait : List Aq
 told : List Aq
instance : Inhabited BB := ⟨⟨0, 0, default, [], false, false, [], ⟨0, false, [], false⟩, [], []⟩⟩
structure AL where
 w : AH
 Ax : Vector BB 4
 Cs : Int
 last : List Event
namespace BB
def MW (s : BB) : Bool := decide ((s.wait.length : Int) ≤ 60) && decide ((s.pg.ring.length : Int) ≤ 700) && decide (0 ≤ s.pg.shown) && decide (s.pg.shown ≤ 200)
def line (s : BB) (u : Aq) : BB :=
 if (!s.MW) = true then s else if s.pg.cut = true then s
 else if decide (60 ≤ (s.wait.length : Int)) = true then { s with pg := { s.pg with cut := true } } else { s with wait := s.wait ++ [u] }
def note (s : BB) (u : Aq) : BB := if (!s.pg.cut) = true then { s with told := s.told ++ [u] } else s
def tell (s : BB) (u : Aq) : BB := (s.line u).note u
def send (s : BB) (u : Aq) : BB := if (!s.MW) = true then s else if s.pg.cut = true then s else { s with pg := Page.put s.pg u }
def Bz (s : BB) : BB :=
 if (!s.MW || decide (s.EA.CV < 0) || decide (200 < s.EA.CV)) = true then s
 else { s with pg := (Page.Bz s.EA.CV s.wait s.pg).1, wait := (Page.Bz s.EA.CV s.wait s.pg).2 }
def FB (s : BB) : BB := { s with pg := { s.pg with shown := 0, CA := false } }
def Z8 (s : BB) (n : Int) : Nat := (max 0 (min n (s.pg.ring.length : Int))).toNat
def LV (s : BB) (n : Int) : BB := { s with pg := { s.pg with ring := s.pg.ring.drop (s.Z8 n) } }
def out (s : BB) (n : Int) : Aq := s.pg.ring.take (s.Z8 n)
def KL (s : BB) : Bool :=
 !(decide (60 < (s.now.length : Int)) || decide (6 < (s.queue.length : Int)) || (s.Cj && decide (60 < (s.now.length : Int))) || (s.ret && (!decide (s.now = []) || s.Cj))) && (s.queue ++ [s.now]).all Bb.FR
def typed (s : BB) (u : Aq) : BB × Int :=
 if (!s.KL) = true then (s, 0)
 else
  let x := Bb.feed ⟨s.now, s.Cj, s.ret, s.queue, 0⟩ u
  ({ s with now := x.now, Cj := x.Cj, ret := x.ret, queue := x.queue }, x.lost)
def bytes (s : BB) (u : Aq) : BB × Aq := ({ s with EA := (s.EA.DK u).1 }.send (s.EA.DK u).2.2.1, (s.EA.DK u).2.1)
def offer (s : BB) (opt : Int) : BB :=
 if decide ((s.EA.C2 opt).2.1 = []) = true then { s with EA := ((s.EA.C2 opt).1.Ask opt).1 }.send ([] ++ ((s.EA.C2 opt).1.Ask opt).2.1)
 else { s with EA := (s.EA.C2 opt).1 }.send ((s.EA.C2 opt).2.1 ++ [])
end BB
namespace AL
def at_ (H : AL) (k : Int) : BB := H.Ax.at k
def set (H : AL) (k : Int) (s : BB) : AL := { H with Ax := H.Ax.put k s }
def tell (H : AL) (k : Int) (u : Aq) : AL := H.set k ((H.at_ k).tell u)
def Ce (e : Event) (H : AL) : Nat → AL
 | 0 => H
 | k + 1 => if (!decide (((Ce e H k).at_ k).state = 2)) = true then Ce e H k else if (AH.tell e ((Ce e H k).at_ k).A8).2 = true then (Ce e H k).tell k (AH.tell e ((Ce e H k).at_ k).A8).1 else Ce e H k
def IV (H : AL) (l : List Event) : AL := l.foldl (fun X e => Ce e X 4) H
def G6 (H : AL) (l : List Event) : AL := { H with last := H.last ++ l }.IV l
def FM : Order := { (default : Order) with verb := 20 }
def SF (H : AL) (k : Int) : AL := { H with w := (AF.FY H.w (H.at_ k).A8 FM).1 }
def leave (H : AL) (k : Int) : AL :=
 (if (decide ((H.at_ k).state = 2) && (H.w.AV.at (H.at_ k).A8).here) = true then ((H.SF k).set k default).G6 (AF.FY H.w (H.at_ k).A8 FM).2.1 else H).set k default
def DM (H : AL) : Nat → AL × Bool
 | 0 => (H, false)
 | k + 1 =>
  if decide (((DM H k).1.at_ k).state = 0) = true then DM H k
  else if (((DM H k).1.at_ k).Bz).pg.cut = true then (((DM H k).1.set k (((DM H k).1.at_ k).Bz)).leave k, true)
  else ((DM H k).1.set k (((DM H k).1.at_ k).Bz), (DM H k).2)
def IZ (H : AL) : Nat → AL
 | 0 => H
 | n + 1 => if (!(H.DM 4).2) = true then (H.DM 4).1 else (H.DM 4).1.IZ n
def Bz (H : AL) : AL := H.IZ 5
def HQ : Aq := [87, 104, 111, 32, 97, 114, 101, 32, 121, 111, 117, 63]
def Qd : Aq := [78, 111, 116, 32, 115, 111, 32, 102, 97, 115, 116, 46]
def YE : Aq := [87, 104, 97, 116, 63]
def Pt : Aq := [84, 104, 97, 116, 32, 105, 115, 32, 110, 111, 32, 110, 97, 109, 101, 46]
def noRoom : Aq := [84, 104, 101, 114, 101, 32, 105, 115, 32, 110, 111, 32, 114, 111, 111, 109, 46]
def QR (H : AL) (k : Int) : AL := ((H.set k ((({ (default : BB) with state := 1, A8 := -1 }).offer 3).offer 31)).tell k HQ).Bz
def named (H : AL) (k : Int) (u : Aq) : AL :=
 if decide ((AF.Bf H.w u).2.2.2 = 0) = true then ({ H with w := (AF.Bf H.w u).1 }.set k { H.at_ k with state := 2, A8 := (AF.Bf H.w u).2.1 }).G6 (AF.Bf H.w u).2.2.1
 else if decide ((AF.Bf H.w u).2.2.2 = 4) = true then H.tell k noRoom
 else H.tell k Pt
def order (H : AL) (k : Int) (u : Aq) : AL :=
 if (!decide ((Words.parse u).2 = 0)) = true then H.tell k YE
 else if decide ((Words.parse u).1.verb = 20) = true then H.leave k
 else { H with w := (AF.FY H.w (H.at_ k).A8 (Words.parse u).1).1 }.G6 (AF.FY H.w (H.at_ k).A8 (Words.parse u).1).2.1
def EO (H : AL) (k : Int) : AL :=
 if decide ((H.at_ k).state = 0) = true then H
 else match (H.at_ k).queue with
  | [] => H
  | q :: r =>
   let H1 := H.set k { H.at_ k with queue := r }.FB
   if (H.at_ k).pg.CA = true then H1
   else if decide ((H.at_ k).state = 1) = true then H1.named k (Words.Ol 32 (Words.QW 32 q))
   else H1.order k q
def turns (H : AL) : Nat → AL
 | 0 => H
 | k + 1 => (turns H k).EO k
def OS (H : AL) (d : Int) : AL :=
 let X := H.turns 4
 ({ X with w := (AF.CY X.w d).1 }.G6 (AF.CY X.w d).2.1).Bz
def EF (H : AL) : Nat → AL
 | 0 => H
 | k + 1 => (EF H k).set k { (EF H k).at_ k with told := [] }
def begun (H : AL) : AL := { H with Cs := H.Cs + 1, last := [] }.EF 4
def ok : Ba := ⟨0, []⟩
def byte (H : AL) (k : Int) (u : Aq) : AL :=
 let s1 := (H.at_ k).bytes u
 let s2 := s1.1.typed s1.2
 ((if decide (0 < s2.2) = true then (H.set k s2.1).tell k Qd else H.set k s2.1)).Bz
def ES (X : AL) (a : Br) : AL × Ba :=
 if decide (a.kind = 5) = true then (X.OS a.n, ok)
 else if (decide (a.kind < 1) || decide (5 < a.kind)) = true then (X, ⟨5, []⟩)
 else if (decide (a.BM < 0) || decide (4 ≤ a.BM)) = true then (X, ⟨2, []⟩)
 else if (decide ((X.at_ a.BM).state = 0) != decide (a.kind = 1)) = true then (X, ⟨3, []⟩)
 else if decide (a.kind = 1) = true then (X.QR a.BM, ok)
 else if decide (a.kind = 2) = true then (X.byte a.BM a.bytes, ok)
 else if decide (a.kind = 3) = true then ((X.set a.BM ((X.at_ a.BM).LV a.n)).Bz, ⟨0, (X.at_ a.BM).out a.n⟩)
 else ((X.leave a.BM).Bz, ok)
def act (H : AL) (a : Br) : AL × Ba := if decide (400 ≤ H.Cs) = true then (H, ⟨4, []⟩) else H.begun.ES a
def new : AL := ⟨AH.new, Vector.replicate 4 default, 0, []⟩
def run : AL → List Br → AL × List Ba
 | H, [] => (H, [])
 | H, a :: l => ((run (H.act a).1 l).1, (H.act a).2 :: (run (H.act a).1 l).2)
end AL
end Go.Ing
/- Engine: several slices together; a seat of a house. -/
namespace Go.Ing
open Go
def Ad.Ds (l : List Ad) : Ad where
 CH := l.flatMap Ad.CH
 ok w := (∀ r ∈ l, r.ok w) ∧ l.Pairwise fun r s => ∀ b : Nat, b ∈ r.CH → b ∉ s.CH
 loc w w' h hw := ⟨fun r hr => r.loc w w' (fun b hb => h b (List.mem_flatMap.2 ⟨r, hr, hb⟩)) (hw.1 r hr), hw.2⟩
section
variable {w0 w : World} {M : List Nat} {l L : List Ad}
theorem St.Xc (h : St w0 M w (Ad.Ds l :: L)) : St w0 M w (l ++ L) := by
 have hm : ∀ r ∈ l, ∀ b ∈ r.CH, b ∈ (Ad.Ds l).CH := fun r hr b hb => List.mem_flatMap.2 ⟨r, hr, hb⟩
 have hf := h.ok (Ad.Ds l) (List.mem_cons_self ..)
 refine ⟨h.os, h.tape, h.output, h.size, h.Hb, fun r hr => ?_, fun r hr => ?_, List.pairwise_append.2 ⟨hf.2, (List.pairwise_cons.1 h.IJ).2, fun r hr s hs b hb => (List.pairwise_cons.1 h.IJ).1 s hs b (hm r hr b hb)⟩⟩
 ·rcases List.mem_append.1 hr with hr | hr
  ·exact hf.1 r hr
  ·exact h.ok r (List.mem_cons_of_mem _ hr)
 ·rcases List.mem_append.1 hr with hr | hr
  ·exact fun b hb => h.CH _ (List.mem_cons_self ..) b (hm r hr b hb)
  ·exact h.CH r (List.mem_cons_of_mem _ hr)
theorem St.Xd (h : St w0 M w (l ++ L)) : St w0 M w (Ad.Ds l :: L) := by
 have hd := List.pairwise_append.1 h.IJ
 refine ⟨h.os, h.tape, h.output, h.size, h.Hb, fun r hr => ?_, fun r hr => ?_, List.pairwise_cons.2 ⟨fun s hs b hb => ?_, hd.2.1⟩⟩
 ·rcases List.mem_cons.1 hr with rfl | hr
  ·exact ⟨fun r hr => h.ok r (List.mem_append_left _ hr), hd.1⟩
  ·exact h.ok r (List.mem_append_right _ hr)
 ·rcases List.mem_cons.1 hr with rfl | hr
  ·intro b hb
   obtain ⟨r, hr, hb'⟩ := List.mem_flatMap.1 hb
   exact h.CH r (List.mem_append_left _ hr) b hb'
  ·exact h.CH r (List.mem_append_right _ hr)
 ·obtain ⟨r, hr, hb'⟩ := List.mem_flatMap.1 hb
  exact hd.2.2 r hr s hs b hb'
end
structure BG where
 queue : List Aq
 wait : List Aq
 told : List Aq
 deriving Inhabited
def E7 (T : Nat) (v : A0) (l : BG) : List Ad := [Ad.own v.ED.queue T 1 (l.queue.flatMap A4), Ad.own v.out.wait T 1 (l.wait.flatMap A4), Ad.own v.told T 1 (l.told.flatMap A4)]
def CI (T : Nat) (vs : Vector A0 4) (ls : Vector BG 4) : List Ad := E7 T (vs.at 0) (ls.at 0) ++ (E7 T (vs.at 1) (ls.at 1) ++ (E7 T (vs.at 2) (ls.at 2) ++ E7 T (vs.at 3) (ls.at 3)))
def Fw (T : Nat) (k : Int) (vs : Vector A0 4) (ls : Vector BG 4) : List Ad :=
 if k = 0 then E7 T (vs.at 1) (ls.at 1) ++ (E7 T (vs.at 2) (ls.at 2) ++ E7 T (vs.at 3) (ls.at 3))
 else if k = 1 then E7 T (vs.at 0) (ls.at 0) ++ (E7 T (vs.at 2) (ls.at 2) ++ E7 T (vs.at 3) (ls.at 3))
 else if k = 2 then E7 T (vs.at 0) (ls.at 0) ++ (E7 T (vs.at 1) (ls.at 1) ++ E7 T (vs.at 3) (ls.at 3))
 else E7 T (vs.at 0) (ls.at 0) ++ (E7 T (vs.at 1) (ls.at 1) ++ E7 T (vs.at 2) (ls.at 2))
theorem H7 {α : Type} (a b c : List α) : (a ++ (b ++ c)).Perm (b ++ (a ++ c)) := by
 rw [← List.append_assoc, ← List.append_assoc]
 exact List.perm_append_comm.append_right c
theorem four {k : Int} (h0 : 0 ≤ k) (h1 : k < 4) : k = 0 ∨ k = 1 ∨ k = 2 ∨ k = 3 := by omega
theorem OH (T : Nat) {k : Int} (h0 : 0 ≤ k) (h1 : k < 4) (vs : Vector A0 4) (ls : Vector BG 4) : (CI T vs ls).Perm (E7 T (vs.at k) (ls.at k) ++ Fw T k vs ls) := by
 unfold CI Fw
 rcases four h0 h1 with e | e | e | e <;> subst e
 ·exact .refl _
 ·exact H7 _ _ _
 ·exact ((H7 _ _ _).append_left _).trans (H7 _ _ _)
 ·exact (((List.perm_append_comm).append_left _).append_left _).trans (((H7 _ _ _).append_left _).trans (H7 _ _ _))
theorem Tn (T : Nat) {k : Int} (h0 : 0 ≤ k) (h1 : k < 4) (vs : Vector A0 4) (ls : Vector BG 4) (v : A0) (l : BG) : Fw T k (vs.put k v) (ls.put k l) = Fw T k vs ls := by
 have hv : ∀ i : Int, 0 ≤ i → i ≠ k → (vs.put k v).at i = vs.at i := fun i hi hn => Vector.Ev h0 h1 hi hn
 have hl : ∀ i : Int, 0 ≤ i → i ≠ k → (ls.put k l).at i = ls.at i := fun i hi hn => Vector.Ev h0 h1 hi hn
 unfold Fw
 rcases four h0 h1 with e | e | e | e <;> subst e
 ·rw [if_pos rfl, if_pos rfl, hv 1 (by decide) (by decide), hv 2 (by decide) (by decide), hv 3 (by decide) (by decide), hl 1 (by decide) (by decide), hl 2 (by decide) (by decide), hl 3 (by decide) (by decide)]
 ·rw [if_neg (by decide), if_pos rfl, if_neg (by decide), if_pos rfl, hv 0 (by decide) (by decide), hv 2 (by decide) (by decide), hv 3 (by decide) (by decide), hl 0 (by decide) (by decide), hl 2 (by decide) (by decide), hl 3 (by decide) (by decide)]
 ·rw [if_neg (by decide), if_neg (by decide), if_pos rfl, if_neg (by decide), if_neg (by decide), if_pos rfl, hv 0 (by decide) (by decide), hv 1 (by decide) (by decide), hv 3 (by decide) (by decide), hl 0 (by decide) (by decide), hl 1 (by decide) (by decide), hl 3 (by decide) (by decide)]
 ·rw [if_neg (by decide), if_neg (by decide), if_neg (by decide), if_neg (by decide), if_neg (by decide), if_neg (by decide), hv 0 (by decide) (by decide), hv 1 (by decide) (by decide), hv 2 (by decide) (by decide), hl 0 (by decide) (by decide), hl 1 (by decide) (by decide), hl 2 (by decide) (by decide)]
def AM.BM (V : AM) (k : Int) (s : A0) : AM := { V with Ax := V.Ax.put k s }
def Iz (V : AM) (k : Int) (s : A0) : List Value := (V.BM k s).enc
theorem AS.BM (V : AM) {k : Int} (h0 : 0 ≤ k) (h1 : k < 4) : AS (Iz V k) A0.enc (165 + k.toNat * 22) 22 (fun s => s) (fun _ y => y) := by
 have hl := AM.l1.comp (AS.arr (n := 4) A0.fl h0 h1)
 refine ⟨fun x => ?_, hl.len, fun x => hl.Ud _, fun x y => ?_, hl.one⟩
 ·have := hl.get (V.BM k x)
  rw [show ((V.BM k x).Ax.at k) = x from Vector.CG h0 h1] at this
  exact this
 ·have := hl.set (V.BM k x) y
  rw [show ({ V.BM k x with Ax := (V.BM k x).Ax.put k y } : AM) = V.BM k y from by unfold AM.BM; rw [Vector.EK]] at this
  exact this
theorem Vector.Pb {α : Type} [Inhabited α] {n : Nat} (v : Vector α n) {k : Int} (h0 : 0 ≤ k) (h1 : k < n) : v.put k (v.at k) = v := by
 apply SY
 intro i i0 i1
 by_cases e : i = k
 ·subst e; rw [Vector.CG h0 h1]
 ·rw [Vector.Ev h0 h1 i0 e]
theorem AM.OT (V : AM) {k : Int} (h0 : 0 ≤ k) (h1 : k < 4) : V.BM k (V.Ax.at k) = V := by
 unfold AM.BM; rw [Vector.Pb _ h0 h1]
def Cb (v : A0) (l : BG) : BB := ⟨v.state, v.A8, v.EA, v.ED.now, v.ED.Cj, v.ED.ret, l.queue, Page.of v.out, l.wait, l.told⟩
def A3 (V : AM) (ls : Vector BG 4) (ev : List Event) : AL := ⟨V.w, Vector.ofFn fun i => Cb (V.Ax.at ((i : Nat) : Int)) (ls.at ((i : Nat) : Int)), V.Cs, ev⟩
theorem Cc (V : AM) (ls : Vector BG 4) (ev : List Event) {k : Int} (h0 : 0 ≤ k) (h1 : k < 4) : (A3 V ls ev).at_ k = Cb (V.Ax.at k) (ls.at k) := by
 rcases four h0 h1 with e | e | e | e <;> subst e <;> rfl
theorem Hn (V : AM) (ls : Vector BG 4) (ev : List Event) {k : Int} (h0 : 0 ≤ k) (h1 : k < 4) (v : A0) (l : BG) : A3 (V.BM k v) (ls.put k l) ev = (A3 V ls ev).set k (Cb v l) := by
 unfold A3 AL.set AM.BM
 congr 1
 apply SY
 intro i i0 i1
 have hof : ∀ (f : Fin 4 → BB), (Vector.ofFn f).at i = f ⟨i.toNat, by omega⟩ := fun f => by
  rcases four i0 i1 with e | e | e | e <;> subst e <;> rfl
 rw [hof]
 have hi : ((i.toNat : Nat) : Int) = i := by omega
 by_cases e : i = k
 ·subst e
  rw [Vector.CG h0 h1]
  show Cb ((V.Ax.put i v).at ((i.toNat : Nat) : Int)) ((ls.put i l).at ((i.toNat : Nat) : Int)) = _
  rw [hi, Vector.CG h0 h1, Vector.CG h0 h1]
 ·rw [Vector.Ev h0 h1 i0 e, hof]
  show Cb ((V.Ax.put k v).at ((i.toNat : Nat) : Int)) ((ls.put k l).at ((i.toNat : Nat) : Int)) = Cb (V.Ax.at ((i.toNat : Nat) : Int)) (ls.at ((i.toNat : Nat) : Int))
  rw [hi, Vector.Ev h0 h1 i0 e, Vector.Ev h0 h1 i0 e]
section
variable {P : Program} {n : Nat} {w0 w : World} {M : List Nat} {Q : Exit → Go.Act → World → Prop} {F : List (Nat × Value)} {L K : List Ad} {cd : Code} {b T TS : Nat} {V : AM} {ls : Vector BG 4} {k : Int}
theorem St.Zo (h0 : 0 ≤ k) (h1 : k < 4) (h : St w0 M w (Ad.box b T V.enc :: Ad.Ds (CI TS V.Ax ls) :: K)) :
  St w0 M w (Ad.own (V.Ax.at k).ED.queue TS 1 ((ls.at k).queue.flatMap A4) :: Ad.own (V.Ax.at k).out.wait TS 1 ((ls.at k).wait.flatMap A4) :: Ad.own (V.Ax.at k).told TS 1 ((ls.at k).told.flatMap A4) :: Ad.box b T (Iz V k (V.Ax.at k)) :: Ad.Ds (Fw TS k V.Ax ls) :: K) := by
 have h2 : St w0 M w (CI TS V.Ax ls ++ (Ad.box b T V.enc :: K)) := (h.perm (List.Perm.swap ..)).Xc
 have h3 := h2.perm ((OH TS h0 h1 V.Ax ls).append_right _)
 have h4 : St w0 M w (Fw TS k V.Ax ls ++ (E7 TS (V.Ax.at k) (ls.at k) ++ (Ad.box b T V.enc :: K))) := by
  refine h3.perm ?_
  rw [List.append_assoc]
  exact H7 _ _ _
 have h5 := h4.Xd
 unfold Iz
 rw [V.OT h0 h1]
 refine h5.perm ?_
 exact (H7 [Ad.Ds (Fw TS k V.Ax ls)] (E7 TS (V.Ax.at k) (ls.at k) ++ [Ad.box b T V.enc]) K).trans (.of_eq (by simp [E7]))
theorem St.close' (h0 : 0 ≤ k) (h1 : k < 4) {s : A0} {qs ws ts : List Aq} {q w' t : Hd} (hq : s.ED.queue = q) (hw : s.out.wait = w') (ht : s.told = t)
  (h : St w0 M w (Ad.own q TS 1 (qs.flatMap A4) :: Ad.own w' TS 1 (ws.flatMap A4) :: Ad.own t TS 1 (ts.flatMap A4) :: Ad.box b T (Iz V k s) :: Ad.Ds (Fw TS k V.Ax ls) :: K)) :
  St w0 M w (Ad.box b T (V.BM k s).enc :: Ad.Ds (CI TS (V.BM k s).Ax (ls.put k ⟨qs, ws, ts⟩)) :: K) := by
 subst hq hw ht
 have e1 : (V.BM k s).Ax.at k = s := Vector.CG h0 h1
 have e2 : (ls.put k ⟨qs, ws, ts⟩).at k = ⟨qs, ws, ts⟩ := Vector.CG h0 h1
 have hp := OH TS h0 h1 (V.BM k s).Ax (ls.put k ⟨qs, ws, ts⟩)
 rw [e1, e2, show Fw TS k (V.BM k s).Ax (ls.put k ⟨qs, ws, ts⟩) = Fw TS k V.Ax ls from Tn TS h0 h1 _ _ _ _] at hp
 have h2 : St w0 M w (Ad.Ds (Fw TS k V.Ax ls) :: (E7 TS s ⟨qs, ws, ts⟩ ++ (Ad.box b T (V.BM k s).enc :: K))) :=
  h.perm ((H7 [Ad.Ds (Fw TS k V.Ax ls)] (E7 TS s ⟨qs, ws, ts⟩ ++ [Ad.box b T (V.BM k s).enc]) K).symm.trans (.of_eq (by simp [E7]))|>.symm.symm)
 have h3 := h2.Xc
 have h4 : St w0 M w ((E7 TS s ⟨qs, ws, ts⟩ ++ Fw TS k V.Ax ls) ++ (Ad.box b T (V.BM k s).enc :: K)) := h3.perm (by rw [List.append_assoc]; exact H7 _ _ _)
 have h5 := (h4.perm (hp.symm.append_right _)).Xd
 exact h5.perm (List.Perm.swap ..)
theorem FK (h0 : 0 ≤ k) (h1 : k < 4) (h : ∀ s l, V.Ax.at k = s → ls.at k = l → (s.ED.queue.len = l.queue.length ∧ s.out.wait.len = l.wait.length ∧ s.told.len = l.told.length) → G P n w0 M cd Q F (Ad.own s.ED.queue TS 1 (l.queue.flatMap A4) :: Ad.own s.out.wait TS 1 (l.wait.flatMap A4) :: Ad.own s.told TS 1 (l.told.flatMap A4) :: Ad.box b T (Iz V k s) :: Ad.Ds (Fw TS k V.Ax ls) :: K)) :
  G P n w0 M cd Q F (Ad.box b T V.enc :: Ad.Ds (CI TS V.Ax ls) :: K) := fun a w hF hS =>
 have hO := hS.Zo h0 h1
 h _ _ rfl rfl ⟨(Kn.own (.head _) w hO).K1 DB (by decide), (Kn.own (.tail _ (.head _)) w hO).K1 DB (by decide), (Kn.own (.tail _ (.tail _ (.head _))) w hO).K1 DB (by decide)⟩ a w hF hO
theorem GP (h0 : 0 ≤ k) (h1 : k < 4) {s : A0} {qs ws ts : List Aq} {q w' t : Hd} (hq : s.ED.queue = q) (hw : s.out.wait = w') (ht : s.told = t) (h : G P n w0 M cd Q F (Ad.box b T (V.BM k s).enc :: Ad.Ds (CI TS (V.BM k s).Ax (ls.put k ⟨qs, ws, ts⟩)) :: K)) :
  G P n w0 M cd Q F (Ad.own q TS 1 (qs.flatMap A4) :: Ad.own w' TS 1 (ws.flatMap A4) :: Ad.own t TS 1 (ts.flatMap A4) :: Ad.box b T (Iz V k s) :: Ad.Ds (Fw TS k V.Ax ls) :: K) := fun a w hF hS => h a w hF (hS.close' h0 h1 hq hw ht)
theorem QQ {x : Exit} (h0 : 0 ≤ k) (h1 : k < 4) {s : A0} {qs ws ts : List Aq} {q w' t : Hd} (hq : s.ED.queue = q) (hw : s.out.wait = w') (ht : s.told = t) (h : GQ n w0 M Q x F (Ad.box b T (V.BM k s).enc :: Ad.Ds (CI TS (V.BM k s).Ax (ls.put k ⟨qs, ws, ts⟩)) :: K)) :
  GQ n w0 M Q x F (Ad.own q TS 1 (qs.flatMap A4) :: Ad.own w' TS 1 (ws.flatMap A4) :: Ad.own t TS 1 (ts.flatMap A4) :: Ad.box b T (Iz V k s) :: Ad.Ds (Fw TS k V.Ax ls) :: K) := fun a w hF hS => h a w hF (hS.close' h0 h1 hq hw ht)
end
theorem EN {V : AM} {ls : Vector BG 4} {ev : List Event} {k : Int} (h0 : 0 ≤ k) (h1 : k < 4) {s v : A0} {l l' : BG} (hs : V.Ax.at k = s) (hl : ls.at k = l) {f : BB → BB} (e : Cb v l' = f (Cb s l)) : A3 (V.BM k v) (ls.put k l') ev = (A3 V ls ev).set k (f ((A3 V ls ev).at_ k)) := by
 rw [Hn V ls ev h0 h1, Cc V ls ev h0 h1, hs, hl, e]
theorem IU {v : A0} {l : BG} (h : v.out.wait.len = l.wait.length) : (Cb v l).MW = Page.Bq v.out := by
 unfold BB.MW Page.Bq
 rw [h]; rfl
end Go.Ing
/- A house: plain laws for the walks. -/
namespace Go.Ing
open Go
theorem WC {v : A0} {l : BG} {u : Aq} (hw : v.out.wait.len = l.wait.length) (h : Page.Bq v.out = false) : (Cb v l).line u = Cb v l := if_pos (by rw [IU hw, h]; rfl)
theorem VG {v : A0} {l : BG} {u : Aq} (hw : v.out.wait.len = l.wait.length) (h : Page.Bq v.out = true) (c : v.out.cut = true) : (Cb v l).line u = Cb v l := (if_neg (by rw [IU hw, h]; decide)).trans (if_pos c)
theorem Tc {v : A0} {l : BG} {u : Aq} (hw : v.out.wait.len = l.wait.length) (h : Page.Bq v.out = true) (c : v.out.cut = false) (n : 60 ≤ l.wait.length) : (Cb v l).line u = Cb { v with out := ⟨v.out.wait, v.out.shown, v.out.CA, v.out.ring, true⟩ } l :=
 (if_neg (by rw [IU hw, h]; decide)).trans ((if_neg (by show ¬ v.out.cut = true; rw [c]; decide)).trans (if_pos (decide_eq_true (show (60 : Int) ≤ (l.wait.length : Int) by omega))))
theorem Tm {v : A0} {l : BG} {u : Aq} (hw : v.out.wait.len = l.wait.length) (h : Page.Bq v.out = true) (c : v.out.cut = false) (n : l.wait.length < 60) (w : Hd) : (Cb v l).line u = Cb { v with out := ⟨w, v.out.shown, v.out.CA, v.out.ring, v.out.cut⟩ } ⟨l.queue, l.wait ++ [u], l.told⟩ :=
 (if_neg (by rw [IU hw, h]; decide)).trans ((if_neg (by show ¬ v.out.cut = true; rw [c]; decide)).trans (if_neg (by rw [decide_eq_true_eq]; show ¬ (60 : Int) ≤ (l.wait.length : Int); omega)))
theorem YX {v : A0} {l : BG} {u : Aq} (h : (!v.out.cut) = true) (t : Hd) : (Cb v l).note u = Cb { v with told := t } ⟨l.queue, l.wait, l.told ++ [u]⟩ := if_pos h
theorem YO {v : A0} {l : BG} {u : Aq} (h : (!v.out.cut) = false) : (Cb v l).note u = Cb v l := if_neg (by show ¬ (!v.out.cut) = true; rw [h]; decide)
theorem AL.ID (H : AL) {k j : Int} (h0 : 0 ≤ k) (h1 : k < 4) (j0 : 0 ≤ j) (s : BB) : (H.set k s).at_ j = if j = k then s else H.at_ j := by
 unfold AL.set AL.at_
 by_cases e : j = k
 ·subst e; rw [if_pos rfl]; exact Vector.CG h0 h1
 ·rw [if_neg e]; exact Vector.Ev h0 h1 j0 e
theorem B6 (s : BB) (u : Aq) : (s.tell u).told.length ≤ s.told.length + 1 := by
 have h : (s.line u).told = s.told := by
  unfold BB.line; split
  ·rfl
  ·split
   ·rfl
   ·split <;> rfl
 unfold BB.tell BB.note
 split
 ·show ((s.line u).told ++ [u]).length ≤ _
  rw [h, List.length_append]; exact Nat.le_refl _
 ·rw [h]; exact Nat.le_succ _
theorem J5 {V V' : AM} {ls ls' : Vector BG 4} {ev ev' : List Event} {k : Int} {u : Aq} (h0 : 0 ≤ k) (h1 : k < 4) (e : A3 V' ls' ev' = (A3 V ls ev).tell k u) {j : Int} (j0 : 0 ≤ j) (j1 : j < 4) :
  (ls'.at j).told.length ≤ (ls.at j).told.length + 1 ∧ (j ≠ k → (ls'.at j).told = (ls.at j).told) := by
 have h := congrArg (fun H => (AL.at_ H j).told) e
 simp only [AL.tell] at h
 rw [Cc _ _ _ j0 j1, AL.ID _ h0 h1 j0] at h
 have h' : (ls'.at j).told = (if j = k then ((A3 V ls ev).at_ k).tell u else (A3 V ls ev).at_ j).told := h
 by_cases c : j = k
 ·subst c
  rw [if_pos rfl, Cc _ _ _ j0 j1] at h'
  exact ⟨by rw [h']; exact B6 _ _, fun hn => absurd rfl hn⟩
 ·rw [if_neg c, Cc _ _ _ j0 j1] at h'
  exact ⟨by rw [h']; exact Nat.le_succ _, fun _ => h'⟩
theorem J2 {V : AM} {ls : Vector BG 4} {ev : List Event} {e : Event} {X : AL} {i : Int} (h0 : 0 ≤ i) (h1 : i < 4) (h : A3 V ls ev = AL.Ce e X i.toNat) : AL.Ce e X (i + 1).toNat = if (!decide ((V.Ax.at i).state = 2)) = true then A3 V ls ev else if (AH.tell e (V.Ax.at i).A8).2 = true then (A3 V ls ev).tell i (AH.tell e (V.Ax.at i).A8).1 else A3 V ls ev := by
 obtain ⟨m, rfl⟩ := Int.eq_ofNat_of_zero_le h0
 have ha := Cc V ls ev h0 h1
 rw [show ((m : Int) + 1).toNat = m + 1 by omega, AL.Ce]
 rw [show ((m : Int)).toNat = m by omega] at h
 rw [← h, ha]
 rfl
theorem R3 {H : AL} {es : List Event} {k : Int} (h0 : 0 ≤ k) (h1 : k < es.length) : H.IV (es.take (k + 1).toNat) = AL.Ce (es.getD k.toNat default) (H.IV (es.take k.toNat)) 4 := by
 obtain ⟨m, rfl⟩ := Int.eq_ofNat_of_zero_le h0
 have hm : m < es.length := by omega
 show H.IV (es.take (m + 1)) = AL.Ce (es.getD m default) (H.IV (es.take m)) 4
 unfold AL.IV
 rw [List.take_add_one, List.getElem?_eq_getElem hm, List.foldl_append, List.getD_eq_getElem?_getD, List.getElem?_eq_getElem hm]
 rfl
def Vd (ls : Vector BG 4) (n : Nat) : Prop := ∀ j : Int, 0 ≤ j → j < 4 → (ls.at j).told.length ≤ n
theorem Vu {H : AL} {ev es : List Event} (h : H.last = ev) : AL.G6 H es = ({ H with last := ev ++ es } : AL).IV es := by subst h; rfl
end Go.Ing
/- What is said in a land of short names is short: plain laws. -/
namespace Go.Ing
open Go
namespace AH
structure Lc (w : AH) : Prop where
 th : ∀ i, (w.AX.at i).name.length ≤ 100
 be : ∀ i, (w.AV.at i).name.length ≤ 100
 ro : ∀ i, (w.Bv.at i).name.length ≤ 100
theorem Lc.Lr {w : AH} (h : w.Lc) : w.Dw := ⟨fun i => Nat.le_trans (h.th i) (by decide), fun i => Nat.le_trans (h.be i) (by decide), fun i => Nat.le_trans (h.ro i) (by decide)⟩
theorem Ui {X : AH} (h : X.Lc) {i : Int} {t : Ak} (ht : t.name.length ≤ 100) : (X.Jt i t).Lc := ⟨fun j => by
 rcases Vector.RK X.AX i j t with e | e
 ·show ((X.AX.put i t).at j).name.length ≤ _; rw [e]; exact ht
 ·show ((X.AX.put i t).at j).name.length ≤ _; rw [e]; exact h.th j, h.be, h.ro⟩
theorem Hr {X : AH} (h : X.Lc) {i : Int} {t : Al} (ht : t.name.length ≤ 100) : (X.Cv i t).Lc := ⟨h.th, fun j => by
 rcases Vector.RK X.AV i j t with e | e
 ·show ((X.AV.put i t).at j).name.length ≤ _; rw [e]; exact ht
 ·show ((X.AV.put i t).at j).name.length ≤ _; rw [e]; exact h.be j, h.ro⟩
theorem Uq {X : AH} (h : X.Lc) {r d : Int} {v : Bool} : (X.YY r d v).Lc := ⟨h.th, h.be, fun j => by
 rcases Vector.RK X.Bv r j { X.Bv.at r with shut := (X.Bv.at r).shut.put d v } with e | e
 ·show ((X.Bv.put r _).at j).name.length ≤ _; rw [e]; exact h.ro r
 ·show ((X.Bv.put r _).at j).name.length ≤ _; rw [e]; exact h.ro j⟩
end AH
namespace AF
structure Cl (T : AF) : Prop where
 Gz : T.w.Lc
 out : ∀ e ∈ T.out, AH.Small e
theorem LA {w : AH} (hw : w.Lc) : ∀ (l : List Int) (s : Aq), (HI w s l).length ≤ s.length + l.length * 102
 | [], s => by simp [HI]
 | i :: r, s => by
  have hn := hw.th i
  unfold HI
  split
  ·have := LA hw r (s ++ [32] ++ (w.AX.at i).name ++ [42])
   simp only [List.length_append, List.length_cons, List.length_nil] at this ⊢
   omega
  ·have := LA hw r (s ++ [32] ++ (w.AX.at i).name)
   simp only [List.length_append, List.length_cons, List.length_nil] at this ⊢
   omega
theorem Ll : (default : Al).name.length ≤ 100 := by decide
section
variable {T : AF}
theorem Cl.Bj (h : Cl T) {e : Event} (h1 : e.By.length ≤ 1000000) (h2 : e.text.length ≤ 1000000) (h3 : e.D3.length ≤ 1000000) (h4 : -9223372036854775808 ≤ e.n) (h5 : e.n ≤ 9223372036854775807) : Cl (T.Bj e) := by
 refine ⟨h.Gz, fun x hx => ?_⟩
 rcases List.mem_append.1 (show x ∈ T.out ++ [T.w.G7 (T.Dz e) 6] from hx) with hx | hx
 ·exact h.out x hx
 ·have hx' : x = T.w.G7 (T.Dz e) 6 := by simpa using hx
  subst hx'
  obtain ⟨a1, a2, a3, a4, a5, a6, a7, a8, a9⟩ := AH.K5 T.w (T.Dz e) 6
  have e2 : (T.Dz e).n = e.n ∧ (T.Dz e).HQ = T.me.name ∧ (T.Dz e).D3.length ≤ 1000000 ∧ (T.Dz e).By = e.By ∧ (T.Dz e).text = e.text := by
   unfold Dz
   split
   ·exact ⟨rfl, rfl, Nat.le_trans (h.Gz.be _) (by decide), rfl, rfl⟩
   ·exact ⟨rfl, rfl, h3, rfl, rfl⟩
  obtain ⟨b4, b5, b6, b7, b8⟩ := e2
  refine ⟨?_, ?_, ?_, ?_, ?_, ?_⟩
  ·rw [a6, b5]; exact Nat.le_trans (h.Gz.be T.b) (by decide)
  ·rw [a7]; exact Nat.le_trans b6 (by decide)
  ·rw [a8, b7]; exact Nat.le_trans h1 (by decide)
  ·rw [a9, b8]; exact Nat.le_trans h2 (by decide)
  ·rw [a5, b4]; exact h4
  ·rw [a5, b4]; exact h5
theorem Cl.tell (h : Cl T) {s : Aq} (hs : s.length ≤ 1000000) : Cl (T.tell s) := h.Bj (Nat.zero_le _) hs (Nat.zero_le _) (show (-9223372036854775808 : Int) ≤ 0 by decide) (show (0 : Int) ≤ 9223372036854775807 by decide)
theorem Cl.kind (h : Cl T) (k : Int) : Cl (T.kind k) := h.Bj (Nat.zero_le _) (Nat.zero_le _) (Nat.zero_le _) (show (-9223372036854775808 : Int) ≤ 0 by decide) (show (0 : Int) ≤ 9223372036854775807 by decide)
theorem Cl.By (h : Cl T) (k i : Int) : Cl (T.By k i) := h.Bj (Nat.le_trans (h.Gz.th i) (by decide)) (Nat.zero_le _) (Nat.zero_le _) (show (-9223372036854775808 : Int) ≤ 0 by decide) (show (0 : Int) ≤ 9223372036854775807 by decide)
theorem Cl.land (h : Cl T) {w' : AH} (ht : w'.Lc) : Cl { T with w := w' } := ⟨ht, h.out⟩
theorem Cl.D5 (h : Cl T) {i : Int} {t : Ak} (ht : t.name = (T.w.AX.at i).name) : Cl (T.D5 i t) := h.land (w' := T.w.Jt i t) (AH.Ui h.Gz (by rw [ht]; exact h.Gz.th i))
theorem Cl.place (h : Cl T) (i Ck at_ : Int) : Cl (T.place i Ck at_) := h.D5 rfl
theorem Cl.DO (h : Cl T) (k f : Int) : Cl (T.DO k f) := h.land (w' := T.w.Cv k { T.w.AV.at k with B1 := f }) (AH.Hr h.Gz (h.Gz.be k))
theorem Cl.C6 (h : Cl T) (k : Int) {x : Al} (hx : x.name.length ≤ 100) : Cl (T.C6 k x) := h.land (w' := T.w.Cv k x) (AH.Hr h.Gz hx)
theorem Cl.Fj (h : Cl T) (r d : Int) (v : Bool) : Cl (T.Fj r d v) := h.land (w' := T.w.YY r d v) (AH.Uq h.Gz)
theorem Cl.Im (h : Cl T) (r : Int) : Cl (T.Im r) := h.land (w' := T.w.Cv T.b { T.me with room := r, B1 := 0 }) (AH.Hr h.Gz (h.Gz.be T.b))
theorem Cl.list (h : Cl T) {s : Aq} (hs : s.length ≤ 100) {l : List Int} (hl : l.length ≤ 9) : Cl (T.list s l) := by
 refine h.tell ?_
 have := LA h.Gz l s
 unfold Ql
 split <;> simp only [List.length_append, List.length_cons, List.length_nil] <;> omega
theorem Cl.look (h : Cl T) : Cl T.look := by
 have hk : ∀ {T' : AF}, Cl T' → ∀ k : Nat, Cl (T'.FP k) := fun {T'} h' k => by
  induction k with
  | zero => exact h'
  | succ k ih =>
   unfold FP
   split
   ·exact ih.tell (by
     have := ih.Gz.be k
     have e : (T'.FP k).w = T'.w := (KV T' k).1
     rw [e] at this
     simp only [List.length_append, List.length_cons, List.length_nil]; omega)
   ·exact ih
 unfold AF.look
 split
 ·exact h.tell (by show ([73, 116, 32, 105, 115, 32, 100, 97, 114, 107, 46] : Aq).length ≤ _; decide)
 ·refine hk ?_ 6
  have ha : Cl T.Jm := (h.tell (by
   have := h.Gz.ro T.me.room
   simp only [List.length_append, List.length_cons, List.length_nil]; omega)).tell (by
   have := K4 (T.w.Bv.at T.me.room) 6
   omega)
  unfold Dt
  split
  ·exact ha.list (by decide) (AH.Ha ..)
  ·exact ha
theorem Cl.walk (h : Cl T) (d : Int) : Cl (T.walk d) := by
 unfold AF.walk
 split
 ·exact h.tell (by decide)
 ·split
  ·exact h.tell (by decide)
  ·have i1 : Cl (T.Bj { GA 1 with dir := d }) := h.Bj (Nat.zero_le _) (Nat.zero_le _) (Nat.zero_le _) (show (-9223372036854775808 : Int) ≤ 0 by decide) (show (0 : Int) ≤ 9223372036854775807 by decide)
   exact ((i1.Im _).Bj (e := { GA 2 with dir := AH.opposite d }) (Nat.zero_le _) (Nat.zero_le _) (Nat.zero_le _) (show (-9223372036854775808 : Int) ≤ 0 by decide) (show (0 : Int) ≤ 9223372036854775807 by decide)).look
theorem Cl.box (h : Cl T) (u : Aq) : Cl (T.box u).1 := by
 unfold AF.box
 split
 ·exact h.tell (by decide)
 ·split
  ·exact h.tell (by decide)
  ·exact h
theorem Cl.BN (h : Cl T) (u : Aq) : Cl (T.BN u).1 := by
 unfold AF.BN
 split
 ·split
  ·exact h
  ·exact h.tell (by decide)
 ·exact h.tell (by decide)
theorem Cl.DZ (l : List Int) : ∀ {T' : AF}, Cl T' → Cl (T'.DZ l) := by
 induction l with
 | nil => exact fun h => h
 | cons i r ih => exact fun {T'} h => ih ((h.place i 1 T'.b).By 3 i)
theorem Cl.Oz (h : Cl T) (l : List Int) (o : Order) : Cl (T.Oz l o) := by
 unfold AF.Oz
 refine Cl.DZ _ ?_
 split
 ·exact h.tell (by decide)
 ·exact h
theorem Cl.get (h : Cl T) (o : Order) : Cl (T.get o) := by
 unfold AF.get
 split
 ·split
  ·exact h.box _
  ·exact (h.box _).Oz _ _
 ·exact h.Oz _ _
theorem Cl.DN (h : Cl T) (v to i : Int) : Cl (T.DN v to i) := by
 unfold AF.DN
 split
 ·exact h.tell (by decide)
 ·split
  ·exact (h.place _ _ _).By _ _
  ·split
   ·exact (h.place i 1 to).Bj (e := { GA 6 with other := to, By := (T.w.AX.at i).name }) (Nat.le_trans (h.Gz.th i) (by decide)) (Nat.zero_le _) (Nat.zero_le _) (show (-9223372036854775808 : Int) ≤ 0 by decide) (show (0 : Int) ≤ 9223372036854775807 by decide)
   ·split
    ·exact h.tell (by decide)
    ·exact (h.place i 2 to).Bj (e := { GA 5 with By := (T.w.AX.at i).name, text := (T.w.AX.at to).name }) (Nat.le_trans (h.Gz.th i) (by decide)) (Nat.le_trans (h.Gz.th to) (by decide)) (Nat.zero_le _) (show (-9223372036854775808 : Int) ≤ 0 by decide) (show (0 : Int) ≤ 9223372036854775807 by decide)
theorem Cl.Fa {v to : Int} (l : List Int) : ∀ {T' : AF}, Cl T' → Cl (T'.Fa v to l) := by
 induction l with
 | nil => exact fun h => h
 | cons i r ih => exact fun h => ih (h.DN v to i)
theorem Cl.Gy (h : Cl T) (o : Order) : Cl (T.Gy o) := by
 have ht : Cl (T.C7 o).1 := by
  unfold C7
  split
  ·exact h.box _
  ·split
   ·exact h.BN _
   ·exact h
 unfold AF.Gy
 split
 ·exact ht
 ·unfold WJ
  refine Cl.Fa _ ?_
  split
  ·exact ht.tell (by decide)
  ·exact ht
theorem Cl.GK (h : Cl T) (o : Order) : Cl (T.GK o) := by
 unfold AF.GK
 generalize (if (!decide (o.nth = 1) || o.Bk) = true then [] else o.name) = nm
 have hs := h.BN nm
 split
 ·exact hs
 ·refine Cl.tell ?_ (by decide)
  split
  ·exact (hs.DO _ _).DO _ _
  ·exact hs.DO _ _
theorem Cl.before (h : Cl T) (first : Bool) (i : Int) (v : Bool) (k : Int) : Cl (T.before first i v k) := by
 unfold AF.before
 split
 ·exact (Cl.D5 h (i := i) (t := { T.w.AX.at i with on := v }) rfl).By _ _
 ·exact (h.By k i).D5 rfl
theorem Cl.JJ (h : Cl T) (d : Int) (on : Bool) (k : Int) : Cl (T.JJ d on k) := by
 unfold AF.JJ
 split
 ·exact h.tell (by decide)
 ·split
  ·exact h.tell (by decide)
  ·refine Cl.Bj ?_ (by show ([100, 111, 111, 114] : Aq).length ≤ 1000000; decide) (Nat.zero_le _) (Nat.zero_le _) (show (-9223372036854775808 : Int) ≤ 0 by decide) (show (0 : Int) ≤ 9223372036854775807 by decide)
   split
   ·exact (h.Fj _ _ _).Fj _ _ _
   ·exact h.Fj _ _ _
theorem Cl.set (h : Cl T) (o : Order) : Cl (T.set o) := by
 unfold AF.set
 split
 ·exact h.JJ _ _ _
 ·split
  ·exact h.tell (by decide)
  ·split
   ·exact h.tell (by decide)
   ·split
    ·exact h.before _ _ _ _
    ·exact h.before _ _ _ _
theorem Cl.Ca (l : List Int) : ∀ {T' : AF}, Cl T' → Cl (T'.Ca l) := by
 induction l with
 | nil => exact fun h => h
 | cons i r ih => exact fun {T'} h => ih (Cl.D5 h (i := i) rfl)
theorem Cl.Dr (h : Cl T) : ∀ k : Nat, Cl (T.Dr k)
 | 0 => h
 | k + 1 => by
  unfold AF.Dr
  split
  ·exact (Cl.Dr h k).DO _ _
  ·exact Cl.Dr h k
theorem Cl.Fz (h : Cl T) : Cl T.Fz := by
 rw [MF]
 exact ((Cl.Ca _ h).Dr 6).DO _ _
theorem Cl.Kp (h : Cl T) : Cl T.Kp := by
 have hf := Cl.Fz (h.kind 18)
 unfold AF.Kp
 generalize (T.kind 18).Fz = F at *
 exact hf.C6 T.b (x := default) Ll
theorem Cl.act (h : Cl T) {o : Order} (hx : o.text.length ≤ 1000000) : Cl (T.act o) := by
 unfold AF.act
 split
 ·exact h.walk _
 ·split
  ·exact h.look
  ·split
   ·exact h.list (by decide) (AH.Ha ..)
   ·split
    ·exact h.Bj (e := { GA 7 with text := o.text }) (Nat.zero_le _) hx (Nat.zero_le _) (show (-9223372036854775808 : Int) ≤ 0 by decide) (show (0 : Int) ≤ 9223372036854775807 by decide)
    ·split
     ·exact h.Kp
     ·split
      ·exact h.GK _
      ·split
       ·exact h.get _
       ·split
        ·exact h.Gy _
        ·exact h.set _
end
theorem MH {X : AH} {b : Int} {o : Order} (hw : X.Lc) (hx : o.text.length ≤ 1000000) : (FY X b o).1.Lc ∧ ∀ e ∈ (FY X b o).2.1, AH.Small e := by
 unfold FY
 split
 ·exact ⟨hw, fun e h => by cases h⟩
 ·split
  ·exact ⟨hw, fun e h => by cases h⟩
  ·split
   ·exact ⟨hw, fun e h => by cases h⟩
   ·have := Cl.act (T := ⟨X, b, []⟩) ⟨hw, fun e h => by cases h⟩ hx
    exact ⟨this.Gz, this.out⟩
theorem KE {X : AH} {s : Aq} (hw : X.Lc) : (Bf X s).1.Lc ∧ ∀ e ∈ (Bf X s).2.2.1, AH.Small e := by
 unfold Bf
 split
 ·exact ⟨hw, fun e h => by cases h⟩
 ·split
  ·exact ⟨hw, fun e h => by cases h⟩
  ·rename_i h1
   split
   ·exact ⟨hw, fun e h => by cases h⟩
   ·split
    ·exact ⟨hw, fun e h => by cases h⟩
    ·have hn : s.length ≤ 8 := by
      have h2 : JR s = true := by simpa using h1
      simp only [JR, Bool.and_eq_true, decide_eq_true_eq] at h2
      omega
     have h0 : Cl ⟨X.Cv (DF X 6) (KH s), DF X 6, []⟩ := ⟨AH.Hr hw (by show s.length ≤ 100; omega), fun e h => by cases h⟩
     have := (h0.kind 17).look
     exact ⟨this.Gz, this.out⟩
theorem R2 {w : AH} {b B1 n : Int} (hw : w.Lc) (h0 : 1 ≤ n) (h1 : n ≤ 3) : Cl (CD w b B1 n) := by
 have hs : Cl ⟨w, b, []⟩ := ⟨hw, fun e h => by cases h⟩
 unfold CD
 exact (hs.Bj (e := { GA 14 with other := B1, n := n }) (Nat.zero_le _) (Nat.zero_le _) (Nat.zero_le _) (show -9223372036854775808 ≤ n by omega) (show n ≤ 9223372036854775807 by omega)).C6 _ (hw.be B1)
theorem Cl.aX {T : AF} (h : Cl T) (b : Int) : Cl (T.C6 b { T.w.AV.at b with room := 0, BL := 10 }) := h.C6 b (h.Gz.be b)
theorem VV {w : AH} {b : Int} (hw : w.Lc) : Cl (IC w b) := by
 have h0 : Cl (FN w b) := ⟨AH.Hr hw (hw.be b), fun e h => by cases h⟩
 have h1 : Cl (Fy w b) := by unfold Fy; exact (h0.kind 15).Fz
 unfold IC
 split
 ·generalize Fy w b = F at *
  exact h1.C6 b (x := default) Ll
 ·have h2 : Cl (Ig w b) := by unfold Ig; exact h1.aX b
  exact (h2.kind 17).look
theorem SI {draw b : Int} (hb : 0 ≤ b) {s : AH × List Event} (h : s.1.Lc ∧ ∀ e ∈ s.2, AH.Small e) : (El draw b s).1.Lc ∧ ∀ e ∈ (El draw b s).2, AH.Small e := by
 have hh := MC (draw := draw) hb
 unfold El
 split
 ·exact h
 ·split
  ·exact ⟨AH.Hr h.1 (h.1.be b), h.2⟩
  ·have hk := R2 (b := b) (B1 := (s.1.AV.at b).B1 - 1) h.1 hh.1 hh.2
   split
   ·have hd := VV (b := (s.1.AV.at b).B1 - 1) hk.Gz
    refine ⟨hd.Gz, fun e he => ?_⟩
    rcases List.mem_append.1 he with he | he
    ·rcases List.mem_append.1 he with he | he
     ·exact h.2 e he
     ·exact hk.out e he
    ·exact hd.out e he
   ·refine ⟨hk.Gz, fun e he => ?_⟩
    rcases List.mem_append.1 he with he | he
    ·exact h.2 e he
    ·exact hk.out e he
theorem Mg {X : AH} {draw : Int} (hw : X.Lc) : ∀ k : Nat, (D9 X draw k).1.Lc ∧ ∀ e ∈ (D9 X draw k).2, AH.Small e
 | 0 => ⟨hw, fun e h => by cases h⟩
 | k + 1 => SI (by omega) (Mg hw k)
theorem My {X : AH} {draw : Int} (hw : X.Lc) : (CY X draw).1.Lc ∧ ∀ e ∈ (CY X draw).2.1, AH.Small e := by
 unfold CY
 split
 ·exact ⟨hw, fun e h => by cases h⟩
 ·have h := Mg (draw := draw) hw 6
  generalize D9 X draw 6 = r at *
  exact h
end AF
end Go.Ing
/- What a house keeps: plain laws. -/
namespace Go.Ing
open Go
namespace AL
def YW (q : List Aq) : Prop := q.length ≤ 6 ∧ ∀ s ∈ q, s.length ≤ 60
structure Fit (H : AL) (n m : Nat) : Prop where
 Gz : H.w.Lc
 told : ∀ k : Int, 0 ≤ k → k < 4 → (H.at_ k).told.length ≤ n
 last : H.last.length ≤ m
 A8 : ∀ k : Int, 0 ≤ k → k < 4 → (H.at_ k).state = 2 → 0 ≤ (H.at_ k).A8 ∧ (H.at_ k).A8 < 6
 wait : ∀ k : Int, 0 ≤ k → k < 4 → ∀ s ∈ (H.at_ k).wait, s.length ≤ 70368744000000
 queue : ∀ k : Int, 0 ≤ k → k < 4 → YW (H.at_ k).queue
variable {H : AL} {n m : Nat}
theorem Fit.mono (h : H.Fit n m) {n' m' : Nat} (hn : n ≤ n') (hm : m ≤ m') : H.Fit n' m' := ⟨h.Gz, fun k a b => Nat.le_trans (h.told k a b) hn, Nat.le_trans h.last hm, h.A8, h.wait, h.queue⟩
theorem Fit.set (h : H.Fit n m) {k : Int} (h0 : 0 ≤ k) (h1 : k < 4) {s : BB} (ht : s.told.length ≤ n) (hb : s.state = 2 → 0 ≤ s.A8 ∧ s.A8 < 6) (hw : ∀ u ∈ s.wait, u.length ≤ 70368744000000) (hq : YW s.queue) : (H.set k s).Fit n m := by
 have e : ∀ j : Int, 0 ≤ j → (H.set k s).at_ j = if j = k then s else H.at_ j := fun j j0 => AL.ID H h0 h1 j0 s
 refine ⟨h.Gz, fun j a b => ?_, h.last, fun j a b => ?_, fun j a b => ?_, fun j a b => ?_⟩ <;> rw [e j a] <;> split
 ·exact ht
 ·exact h.told j a b
 ·exact hb
 ·exact h.A8 j a b
 ·exact hw
 ·exact h.wait j a b
 ·exact hq
 ·exact h.queue j a b
theorem Fit.land (h : H.Fit n m) {w : AH} (hw : w.Lc) : ({ H with w := w } : AL).Fit n m := ⟨hw, h.told, h.last, h.A8, h.wait, h.queue⟩
theorem OC (s : BB) (u : Aq) : (s.line u).wait = s.wait ∨ (s.line u).wait = s.wait ++ [u] := by
 unfold BB.line
 split
 ·exact .inl rfl
 ·split
  ·exact .inl rfl
  ·split
   ·exact .inl rfl
   ·exact .inr rfl
theorem UJ (s : BB) (u : Aq) : (s.line u).state = s.state ∧ (s.line u).A8 = s.A8 ∧ (s.line u).queue = s.queue ∧ (s.line u).told = s.told := by
 unfold BB.line
 split
 ·exact ⟨rfl, rfl, rfl, rfl⟩
 ·split
  ·exact ⟨rfl, rfl, rfl, rfl⟩
  ·split <;> exact ⟨rfl, rfl, rfl, rfl⟩
theorem JZ (s : BB) (u : Aq) : (s.tell u).state = s.state ∧ (s.tell u).A8 = s.A8 ∧ (s.tell u).queue = s.queue ∧ (s.tell u).wait = (s.line u).wait := by
 obtain ⟨a, b, c, _⟩ := UJ s u
 unfold BB.tell BB.note
 split
 ·exact ⟨a, b, c, rfl⟩
 ·exact ⟨a, b, c, rfl⟩
theorem Fit.tell (h : H.Fit n m) {k : Int} (h0 : 0 ≤ k) (h1 : k < 4) {u : Aq} (hu : u.length ≤ 70368744000000) : (H.tell k u).Fit (n + 1) m := by
 obtain ⟨a, b, c, d⟩ := JZ (H.at_ k) u
 refine (h.mono (Nat.le_succ n) (Nat.le_refl m)).set h0 h1 (Nat.le_trans (B6 _ _) (Nat.succ_le_succ (h.told k h0 h1))) (by rw [a, b]; exact h.A8 k h0 h1) (fun s hs => ?_) (by rw [c]; exact h.queue k h0 h1)
 rw [d] at hs
 rcases OC (H.at_ k) u with e | e <;> rw [e] at hs
 ·exact h.wait k h0 h1 s hs
 ·rcases List.mem_append.1 hs with hs | hs
  ·exact h.wait k h0 h1 s hs
  ·rw [List.mem_singleton.1 hs]; exact hu
theorem WT {e : Event} (he : AH.Small e) (b : Int) : (AH.tell e b).1.length ≤ 70368744000000 := by
 unfold AH.tell
 split
 ·exact Nat.zero_le _
 ·split
  ·exact Nat.zero_le _
  ·refine Nat.le_trans (AH.Nr he (AH.OX he b) (AH.Ma he b) _ _) ?_
   have := AH.M1 e b
   omega
theorem S8 {k j : Int} (h0 : 0 ≤ k) (h1 : k < 4) (j0 : 0 ≤ j) (hn : j ≠ k) (u : Aq) : (H.tell k u).at_ j = H.at_ j := by
 unfold AL.tell
 rw [AL.ID H h0 h1 j0, if_neg hn]
theorem Jx (e : Event) (H : AL) : ∀ k : Nat, k ≤ 4 → ∀ j : Int, (k : Int) ≤ j → j < 4 → (Ce e H k).at_ j = H.at_ j
 | 0, _, _, _, _ => rfl
 | k + 1, hk, j, h0, h1 => by
  have ih := Jx e H k (by omega) j (by omega) h1
  unfold Ce
  split
  ·exact ih
  ·split
   ·rw [S8 (by omega) (by omega) (by omega) (by omega)]; exact ih
   ·exact ih
theorem Mr {e : Event} (he : AH.Small e) (h : H.Fit n m) : ∀ k : Nat, k ≤ 4 → (Ce e H k).Fit (n + 1) m
 | 0, _ => h.mono (Nat.le_succ n) (Nat.le_refl m)
 | k + 1, hk => by
  have ih := Mr he h k (by omega)
  unfold Ce
  split
  ·exact ih
  ·split
   ·have hr := Jx e H k (by omega) k (Int.le_refl _) (by omega)
    obtain ⟨a, b, c, d⟩ := JZ ((Ce e H k).at_ k) (AH.tell e ((Ce e H k).at_ k).A8).1
    unfold AL.tell
    refine ih.set (by omega) (by omega) ?_ (by rw [a, b]; exact ih.A8 k (by omega) (by omega)) (fun s hs => ?_) (by rw [c]; exact ih.queue k (by omega) (by omega))
    ·refine Nat.le_trans (B6 _ _) ?_
     rw [hr]; exact Nat.succ_le_succ (h.told k (by omega) (by omega))
    ·rw [d] at hs
     rcases OC ((Ce e H k).at_ k) (AH.tell e ((Ce e H k).at_ k).A8).1 with q | q <;> rw [q] at hs
     ·exact ih.wait k (by omega) (by omega) s hs
     ·rcases List.mem_append.1 hs with hs | hs
      ·exact ih.wait k (by omega) (by omega) s hs
      ·rw [List.mem_singleton.1 hs]; exact WT he _
   ·exact ih
theorem OZ : ∀ (es : List Event) {H : AL} {n : Nat}, (∀ e ∈ es, AH.Small e) → H.Fit n m → (H.IV es).Fit (n + es.length) m
 | [], _, _, _, h => h
 | e :: r, H, n, he, h => by
  have h1 := Mr (he e (List.mem_cons_self ..)) h 4 (Nat.le_refl 4)
  have h2 := OZ r (fun x hx => he x (List.mem_cons_of_mem _ hx)) h1
  rw [List.length_cons, show n + (r.length + 1) = n + 1 + r.length by omega]
  exact h2
theorem Fit.G6 (h : H.Fit n m) {es : List Event} (he : ∀ e ∈ es, AH.Small e) : (H.G6 es).Fit (n + es.length) (m + es.length) := by
 refine OZ (m := m + es.length) es he ?_
 exact ⟨h.Gz, h.told, by show (H.last ++ es).length ≤ _; rw [List.length_append]; exact Nat.add_le_add_right h.last _, h.A8, h.wait, h.queue⟩
theorem Fit.free (h : H.Fit n m) {k : Int} (h0 : 0 ≤ k) (h1 : k < 4) : (H.set k default).Fit n m :=
 h.set h0 h1 (Nat.zero_le _) (fun e => absurd (show (0 : Int) = 2 from e) (by decide)) (fun u hu => by cases hu) ⟨Nat.zero_le _, fun u hu => by cases hu⟩
theorem OY : FM.text.length ≤ 1000000 := Nat.zero_le _
theorem Fit.leave (h : H.Fit n m) {k : Int} (h0 : 0 ≤ k) (h1 : k < 4) : (H.leave k).Fit (n + 11) (m + 11) := by
 unfold AL.leave
 refine Fit.free ?_ h0 h1
 split
 ·have hd := AF.MH (b := (H.at_ k).A8) (o := FM) h.Gz OY
  have hl := AF.MM H.w (H.at_ k).A8 FM
  exact (((h.land hd.1).free h0 h1).G6 hd.2).mono (Nat.add_le_add_left hl n) (Nat.add_le_add_left hl m)
 ·exact h.mono (Nat.le_add_right ..) (Nat.le_add_right ..)
theorem Qa (ht : Int) : ∀ (l : List Aq) (x : Page.Pg), ∀ s ∈ (Page.Bz ht l x).2, s ∈ l
 | [], _, s, h => h
 | q :: r, x, s, h => by
  unfold Page.Bz at h
  split at h
  ·exact h
  ·split at h
   ·exact h
   ·exact List.mem_cons_of_mem _ (Qa ht r _ s h)
theorem TR (s : BB) : s.Bz.told = s.told ∧ s.Bz.state = s.state ∧ s.Bz.A8 = s.A8 ∧ s.Bz.queue = s.queue ∧ ∀ u ∈ s.Bz.wait, u ∈ s.wait := by
 unfold BB.Bz
 split
 ·exact ⟨rfl, rfl, rfl, rfl, fun _ h => h⟩
 ·exact ⟨rfl, rfl, rfl, rfl, Qa _ _ _⟩
theorem Fit.Uv (h : H.Fit n m) {k : Int} (h0 : 0 ≤ k) (h1 : k < 4) : (H.set k (H.at_ k).Bz).Fit n m := by
 obtain ⟨a, b, c, d, e⟩ := TR (H.at_ k)
 exact h.set h0 h1 (by rw [a]; exact h.told k h0 h1) (by rw [b, c]; exact h.A8 k h0 h1) (fun u hu => h.wait k h0 h1 u (e u hu)) (by rw [d]; exact h.queue k h0 h1)
theorem LZ (h : H.Fit n m) : ∀ k : Nat, k ≤ 4 → (H.DM k).1.Fit (n + 11 * k) (m + 11 * k)
 | 0, _ => h
 | k + 1, hk => by
  have ih := LZ h k (by omega)
  unfold DM
  split
  ·exact ih.mono (by omega) (by omega)
  ·split
   ·exact ((ih.Uv (by omega) (by omega)).leave (by omega) (by omega)).mono (by omega) (by omega)
   ·exact (ih.Uv (by omega) (by omega)).mono (by omega) (by omega)
theorem Om : ∀ (r : Nat) {H : AL} {n m : Nat}, H.Fit n m → (H.IZ r).Fit (n + 44 * r) (m + 44 * r)
 | 0, _, _, _, h => h
 | r + 1, H, n, m, h => by
  have h1 := LZ h 4 (Nat.le_refl 4)
  unfold IZ
  split
  ·exact h1.mono (by omega) (by omega)
  ·exact (Om r h1).mono (by omega) (by omega)
theorem Fit.Bz (h : H.Fit n m) : H.Bz.Fit (n + 220) (m + 220) := Om 5 h
end AL
end Go.Ing
/- A house: plain laws for the walks, on. -/
namespace Go.Ing
open Go
theorem Hj {V : AM} {ls : Vector BG 4} {ev : List Event} {k : Int} (h0 : 0 ≤ k) (h1 : k < 4) : A3 (V.BM k default) (ls.put k ⟨[], [], []⟩) ev = (A3 V ls ev).set k default := Hn V ls ev h0 h1 _ _
theorem Np {V : AM} {ls : Vector BG 4} {ev : List Event} {w : AH} : A3 { V with w := w } ls ev = { A3 V ls ev with w := w } := rfl
theorem PV {V V4 : AM} {ls ls4 : Vector BG 4} {ev ev4 : List Event} {k : Int} (h0 : 0 ≤ k) (h1 : k < 4) (c : (decide ((V.Ax.at k).state = 2) && (V.w.AV.at (V.Ax.at k).A8).here) = true)
  (e : A3 V4 ls4 ev4 = (A3 (AM.BM { V with w := (AF.FY V.w (V.Ax.at k).A8 AL.FM).1 } k default) (ls.put k ⟨[], [], []⟩) ev).G6 (AF.FY V.w (V.Ax.at k).A8 AL.FM).2.1) :
  A3 (V4.BM k default) (ls4.put k ⟨[], [], []⟩) ev4 = (A3 V ls ev).leave k := by
 rw [Hj h0 h1, e, Hj h0 h1, Np]
 have ha := Cc V ls ev h0 h1
 unfold AL.leave AL.SF
 rw [ha]
 rw [if_pos (show (decide ((Cb (V.Ax.at k) (ls.at k)).state = 2) && ((A3 V ls ev).w.AV.at (Cb (V.Ax.at k) (ls.at k)).A8).here) = true from c)]
 rfl
theorem TB {V : AM} {ls : Vector BG 4} {ev : List Event} {k : Int} (h0 : 0 ≤ k) (h1 : k < 4) (c : (decide ((V.Ax.at k).state = 2) && (V.w.AV.at (V.Ax.at k).A8).here) = false) :
  A3 (V.BM k default) (ls.put k ⟨[], [], []⟩) ev = (A3 V ls ev).leave k := by
 rw [Hj h0 h1]
 have ha := Cc V ls ev h0 h1
 unfold AL.leave
 rw [ha]
 rw [if_neg (show ¬ (decide ((Cb (V.Ax.at k) (ls.at k)).state = 2) && ((A3 V ls ev).w.AV.at (Cb (V.Ax.at k) (ls.at k)).A8).here) = true by rw [show (decide ((Cb (V.Ax.at k) (ls.at k)).state = 2) && ((A3 V ls ev).w.AV.at (Cb (V.Ax.at k) (ls.at k)).A8).here) = false from c]; decide)]
theorem F6 {V : AM} {ls : Vector BG 4} {ev : List Event} {n m : Nat} (h : (A3 V ls ev).Fit n m) : Vd ls n := fun j j0 j1 => by
 have := h.told j j0 j1
 rw [Cc V ls ev j0 j1] at this
 exact this
theorem Tq {V : AM} {ls : Vector BG 4} {ev : List Event} {n m : Nat} (h : (A3 V ls ev).Fit n m) {k : Int} (h0 : 0 ≤ k) (h1 : k < 4) : (V.Ax.at k).state ≠ 2 ∨ (0 ≤ (V.Ax.at k).A8 ∧ (V.Ax.at k).A8 < 6) := by
 have := h.A8 k h0 h1
 rw [Cc V ls ev h0 h1] at this
 by_cases c : (V.Ax.at k).state = 2
 ·exact .inr (this c)
 ·exact .inl c
theorem St.or {w0 w : World} {M : List Nat} {L : List Ad} {T TS : Nat} {h f g : Hd} {xs qs zs : List Aq} (ho : Ym T h xs TS f qs TS g zs) (hS : St w0 M w (Ad.own g TS 1 (zs.flatMap A4) :: Ad.own f TS 1 (qs.flatMap A4) :: L)) : St w0 M w (Ad.own h TS 1 (xs.flatMap A4) :: L) := by
 rcases ho with ⟨_, rfl, rfl, _, _⟩ | ⟨_, rfl, rfl⟩
 ·exact hS.sub (List.sublist_cons_self ..)
 ·exact hS.sub (List.Sublist.cons_cons _ (List.sublist_cons_self ..))
theorem Zq {n : Nat} {w0 : World} {M : List Nat} {Q : Exit → Go.Act → World → Prop} {F : List (Nat × Value)} {L : List Ad} {x : Exit} {T TS : Nat} {h f g : Hd} {xs qs zs : List Aq} (ho : Ym T h xs TS f qs TS g zs) (k : GQ n w0 M Q x F (Ad.own h TS 1 (xs.flatMap A4) :: L)) : GQ n w0 M Q x F (Ad.own g TS 1 (zs.flatMap A4) :: Ad.own f TS 1 (qs.flatMap A4) :: L) := fun a w hF hS => k a w hF (St.or ho hS)
theorem Qi {v : A0} {l : BG} (hw : v.out.wait.len = l.wait.length) (h : (!Page.Bq v.out || decide (v.EA.CV < 0) || decide (200 < v.EA.CV)) = true) : Cb v l = (Cb v l).Bz :=
 (if_pos (show (!(Cb v l).MW || decide (v.EA.CV < 0) || decide (200 < v.EA.CV)) = true by rw [IU hw]; exact h)).symm
theorem XI {v : A0} {l : BG} (hw : v.out.wait.len = l.wait.length) (h : (!Page.Bq v.out || decide (v.EA.CV < 0) || decide (200 < v.EA.CV)) = false) (w : Hd) :
  Cb { v with out := ⟨w, (Page.Bz v.EA.CV l.wait (Page.of v.out)).1.shown, (Page.Bz v.EA.CV l.wait (Page.of v.out)).1.CA, (Page.Bz v.EA.CV l.wait (Page.of v.out)).1.ring, (Page.Bz v.EA.CV l.wait (Page.of v.out)).1.cut⟩ } ⟨l.queue, (Page.Bz v.EA.CV l.wait (Page.of v.out)).2, l.told⟩ = (Cb v l).Bz :=
 ((if_neg (show ¬ (!(Cb v l).MW || decide (v.EA.CV < 0) || decide (200 < v.EA.CV)) = true by rw [IU hw, h]; decide)).trans rfl).symm
theorem Ju {V : AM} {ls : Vector BG 4} {ev : List Event} {c : Bool} {H : AL} {i : Int} (h0 : 0 ≤ i) (h1 : i < 4) (h : (A3 V ls ev, c) = H.DM i.toNat) :
  H.DM (i + 1).toNat = if decide ((V.Ax.at i).state = 0) = true then (A3 V ls ev, c) else if (((A3 V ls ev).at_ i).Bz).pg.cut = true then (((A3 V ls ev).set i ((A3 V ls ev).at_ i).Bz).leave i, true) else ((A3 V ls ev).set i ((A3 V ls ev).at_ i).Bz, c) := by
 obtain ⟨m, rfl⟩ := Int.eq_ofNat_of_zero_le h0
 have ha := Cc V ls ev h0 h1
 rw [show ((m : Int) + 1).toNat = m + 1 by omega, AL.DM]
 rw [show ((m : Int)).toNat = m by omega] at h
 rw [← h]
 rw [show decide (((A3 V ls ev).at_ (m : Int)).state = 0) = decide ((V.Ax.at (m : Int)).state = 0) by rw [ha]; rfl]
theorem S5 {V V' : AM} {ls ls' : Vector BG 4} {ev ev' : List Event} {i : Int} (h0 : 0 ≤ i) (h1 : i < 4) {s : BB} (e : A3 V' ls' ev' = (A3 V ls ev).set i s) : (V'.Ax.at i).out.cut = s.pg.cut := by
 have h := congrArg (fun H => (AL.at_ H i).pg.cut) e
 rw [Cc V' ls' ev' h0 h1, AL.ID _ h0 h1 h0, if_pos rfl] at h
 exact h
theorem Nd {X : AL} {k : Int} (h0 : 0 ≤ k) (h1 : k < 5) : X.IZ (5 - k).toNat = if (!(X.DM 4).2) = true then (X.DM 4).1 else (X.DM 4).1.IZ (5 - (k + 1)).toNat := by
 rw [show (5 - k).toNat = (5 - (k + 1)).toNat + 1 by omega, AL.IZ]
theorem OI {H : AL} {n m : Nat} (h : H.Fit n m) {V : AM} {ls : Vector BG 4} {ev : List Event} {c : Bool} {i : Int} (h0 : 0 ≤ i) (h1 : i ≤ 4) (e : (A3 V ls ev, c) = H.DM i.toNat) : (A3 V ls ev).Fit (n + 44) (m + 44) := by
 have := AL.LZ h i.toNat (by omega)
 rw [← e] at this
 exact this.mono (by omega) (by omega)
theorem WM {V : AM} {ls : Vector BG 4} {ev : List Event} {n m : Nat} (h : (A3 V ls ev).Fit n m) {k : Int} (h0 : 0 ≤ k) (h1 : k < 4) : ∀ s ∈ (ls.at k).wait, s.length ≤ 70368744000000 := by
 have := h.wait k h0 h1
 rw [Cc V ls ev h0 h1] at this
 exact this
end Go.Ing
/- A house: who comes, and what is typed: plain laws for the walks. -/
namespace Go.Ing
open Go
namespace Words
def M6 (N : Nat) (o : Order) : Prop := o.name.length ≤ N ∧ o.second.length ≤ N ∧ o.text.length ≤ N
theorem E2 (N : Nat) : M6 N default := ⟨Nat.zero_le _, Nat.zero_le _, Nat.zero_le _⟩
theorem WQ (u p : Aq) : (L0 u p).1.length ≤ u.length := by
 unfold L0
 split
 ·exact Nat.le_refl _
 ·show (List.drop _ u).length ≤ _
  rw [List.length_drop]; omega
theorem U0 (u : Aq) : (D1 u).2.1.length ≤ u.length := by
 unfold D1
 split
 ·exact Nat.zero_le _
 ·split
  ·exact WQ u _
  ·split
   ·split
    ·exact Nat.zero_le _
    ·exact Nat.le_refl _
   ·unfold N1
    have := (MB 46 u).2
    split
    ·split
     ·exact Nat.zero_le _
     ·exact this
    ·exact Nat.zero_le _
theorem Uw {N : Nat} {o : Order} {j : Aq × Bool} {W : List Aq} {m : Nat} (h : M6 N o) (hw : (W.getD 0 []).length ≤ N) : M6 N (Py o j W m).1 := by
 unfold Py
 split
 ·exact h
 ·split
  ·exact E2 N
  ·exact ⟨h.1, hw, h.2.2⟩
theorem X2 {N : Nat} {o : Order} {j : Aq × Bool} {W : List Aq} {m : Nat} (h : M6 N o) (hw : ∀ i, (W.getD i []).length ≤ N) : M6 N (SJ o j W m).1 := by
 unfold SJ
 split
 ·split
  ·exact E2 N
  ·refine Uw h ?_
   have := hw 1
   rw [List.getD_eq_getElem?_getD, List.getElem?_drop, ← List.getD_eq_getElem?_getD]
   exact this
 ·exact Uw h (hw 0)
theorem Vt {N : Nat} {v : Int} {W : List Aq} {m : Nat} (hw : ∀ i, (W.getD i []).length ≤ N) : M6 N (Pa v W m).1 := by
 unfold Pa
 split
 ·exact E2 N
 ·refine X2 ⟨Nat.le_trans (U0 _) (hw 0), Nat.zero_le _, Nat.zero_le _⟩ (fun i => ?_)
  rw [List.getD_eq_getElem?_getD, List.getElem?_drop, ← List.getD_eq_getElem?_getD]
  exact hw (1 + i)
theorem Qv (i : Nat) : (AH.F3.getD i []).length ≤ 20 := by
 rw [List.getD_eq_getElem?_getD]
 cases h : AH.F3[i]? with
 | none => exact Nat.zero_le _
 | some w =>
  have hm : w ∈ AH.F3 := List.mem_of_getElem? h
  have : ∀ w ∈ AH.F3, w.length ≤ 20 := by decide
  exact this w hm
theorem Li (s : Aq) : M6 (s.length + 20) (parse s).1 := by
 have hw : ∀ i, (((words s).drop 1).getD i []).length ≤ s.length + 20 := fun i => Nat.le_trans (LG s i 1) (by omega)
 unfold parse
 split
 ·exact E2 _
 ·split
  ·exact E2 _
  ·unfold Ug
   split
   ·split
    ·exact E2 _
    ·refine ⟨Nat.zero_le _, Nat.zero_le _, ?_⟩
     show (said s).length ≤ _
     unfold said
     have h1 := Kq 32 (QW 32 (cut 32 (Ol 32 s)).2.1)
     have h2 := PN 32 (cut 32 (Ol 32 s)).2.1
     have h3 := (MB 32 (Ol 32 s)).2
     have h4 := Kq 32 s
     omega
   ·split
    ·split
     ·exact E2 _
     ·exact ⟨Nat.zero_le _, Nat.zero_le _, Nat.zero_le _⟩
    ·split
     ·exact E2 _
     ·split
      ·split
       ·exact ⟨Nat.le_trans (Qv _) (by omega), Nat.zero_le _, Nat.zero_le _⟩
       ·exact Vt hw
      ·exact Vt hw
end Words
theorem Tz {V : AM} {ls : Vector BG 4} {ev : List Event} {n m : Nat} (h : (A3 V ls ev).Fit n m) {k : Int} (h0 : 0 ≤ k) (h1 : k < 4) : AL.YW (ls.at k).queue := by
 have := h.queue k h0 h1
 rw [Cc V ls ev h0 h1] at this
 exact this
theorem AL.KM (H : AL) {k : Int} (h0 : 0 ≤ k) (h1 : k < 4) : H.set k (H.at_ k) = H := by
 unfold AL.set AL.at_
 rw [Vector.Pb _ h0 h1]
theorem QX {X : AH} {s : Aq} (h : (AF.Bf X s).2.2.2 = 0) : 0 ≤ (AF.Bf X s).2.1 ∧ (AF.Bf X s).2.1 < 6 := by
 have hf := AF.Oc X 6 (Nat.le_refl 6)
 unfold AF.Bf at h ⊢
 split
 ·exact ⟨Int.le_refl 0, show (0 : Int) < 6 by decide⟩
 ·split
  ·exact ⟨Int.le_refl 0, show (0 : Int) < 6 by decide⟩
  ·split
   ·exact ⟨Int.le_refl 0, show (0 : Int) < 6 by decide⟩
   ·split
    ·rename_i h1 h2 h3 h4
     rw [if_neg h1, if_neg h2, if_neg h3, if_pos h4] at h
     exact absurd h (show ¬ (4 : Int) = 0 by decide)
    ·rename_i h4
     show 0 ≤ AF.DF X 6 ∧ AF.DF X 6 < 6
     rw [decide_eq_true_eq] at h4
     omega
namespace AL
variable {H : AL} {n m : Nat}
theorem Fit.enters (h : H.Fit n m) {k : Int} (h0 : 0 ≤ k) (h1 : k < 4) {u : Aq} (c : (AF.Bf H.w u).2.2.2 = 0) : (({ H with w := (AF.Bf H.w u).1 } : AL).set k { H.at_ k with state := 2, A8 := (AF.Bf H.w u).2.1 }).Fit n m := by
 have hs := AF.KE (s := u) h.Gz
 exact (h.land hs.1).set h0 h1 (h.told k h0 h1) (fun _ => QX c) (h.wait k h0 h1) (h.queue k h0 h1)
theorem Fit.named (h : H.Fit n m) {k : Int} (h0 : 0 ≤ k) (h1 : k < 4) (u : Aq) : (H.named k u).Fit (n + 11) (m + 11) := by
 unfold AL.named
 split
 ·rename_i c
  have hs := AF.KE (s := u) h.Gz
  have hl := AF.OV H.w u
  exact ((h.enters h0 h1 (of_decide_eq_true c)).G6 hs.2).mono (by omega) (by omega)
 ·split
  ·exact (h.tell h0 h1 (show noRoom.length ≤ _ by decide)).mono (by omega) (by omega)
  ·exact (h.tell h0 h1 (show Pt.length ≤ _ by decide)).mono (by omega) (by omega)
theorem Fit.order (h : H.Fit n m) {k : Int} (h0 : 0 ≤ k) (h1 : k < 4) {u : Aq} (hu : u.length ≤ 1000) : (H.order k u).Fit (n + 11) (m + 11) := by
 unfold AL.order
 split
 ·exact (h.tell h0 h1 (show YE.length ≤ _ by decide)).mono (by omega) (by omega)
 ·split
  ·exact h.leave h0 h1
  ·have hp := Words.Li u
   have hd := AF.MH (b := (H.at_ k).A8) (o := (Words.parse u).1) h.Gz (by have := hp.2.2; omega)
   have hl := AF.MM H.w (H.at_ k).A8 (Words.parse u).1
   exact ((h.land hd.1).G6 hd.2).mono (by omega) (by omega)
theorem Fit.FB (h : H.Fit n m) {k : Int} (h0 : 0 ≤ k) (h1 : k < 4) {q : Aq} {r : List Aq} (e : (H.at_ k).queue = q :: r) : (H.set k { H.at_ k with queue := r }.FB).Fit n m :=
 h.set h0 h1 (h.told k h0 h1) (h.A8 k h0 h1) (h.wait k h0 h1) (by
  have hq := h.queue k h0 h1
  rw [e] at hq
  exact ⟨Nat.le_of_succ_le hq.1, fun u hu => hq.2 u (List.mem_cons_of_mem _ hu)⟩)
theorem Fit.EO (h : H.Fit n m) {k : Int} (h0 : 0 ≤ k) (h1 : k < 4) : (H.EO k).Fit (n + 11) (m + 11) := by
 unfold AL.EO
 split
 ·exact h.mono (by omega) (by omega)
 ·split
  ·exact h.mono (by omega) (by omega)
  ·rename_i q r e
   have ht := h.FB h0 h1 e
   have hq := (h.queue k h0 h1).2 q (by rw [e]; exact List.mem_cons_self ..)
   simp only []
   split
   ·exact ht.mono (by omega) (by omega)
   ·split
    ·exact ht.named h0 h1 _
    ·exact ht.order h0 h1 (by omega)
theorem Ja (h : H.Fit n m) : ∀ k : Nat, k ≤ 4 → (H.turns k).Fit (n + 11 * k) (m + 11 * k)
 | 0, _ => h
 | k + 1, hk => by
  have ih := Ja h k (by omega)
  unfold AL.turns
  exact (ih.EO (by omega) (by omega)).mono (by omega) (by omega)
end AL
theorem W5 {V V3 V4 : AM} {ls ls3 ls4 : Vector BG 4} {ev ev4 : List Event} {k : Int} {u : Aq} (c : decide ((AF.Bf V.w u).2.2.2 = 0) = true)
  (e3 : A3 V3 ls3 ev = ({ A3 V ls ev with w := (AF.Bf V.w u).1 } : AL).set k { (A3 V ls ev).at_ k with state := 2, A8 := (AF.Bf V.w u).2.1 })
  (e : A3 V4 ls4 ev4 = (A3 V3 ls3 ev).G6 (AF.Bf V.w u).2.2.1) : A3 V4 ls4 ev4 = (A3 V ls ev).named k u := by
 rw [e, e3]
 exact (if_pos c).symm
theorem Wo {V V4 : AM} {ls ls4 : Vector BG 4} {ev ev4 : List Event} {k : Int} {u : Aq} (c : decide ((AF.Bf V.w u).2.2.2 = 0) = false) (c2 : decide ((AF.Bf V.w u).2.2.2 = 4) = true)
  (e : A3 V4 ls4 ev4 = (A3 V ls ev).tell k AL.noRoom) : A3 V4 ls4 ev4 = (A3 V ls ev).named k u := e.trans ((if_neg (by show ¬ decide ((AF.Bf V.w u).2.2.2 = 0) = true; rw [c]; decide)).trans (if_pos c2)).symm
theorem Wn {V V4 : AM} {ls ls4 : Vector BG 4} {ev ev4 : List Event} {k : Int} {u : Aq} (c : decide ((AF.Bf V.w u).2.2.2 = 0) = false) (c2 : decide ((AF.Bf V.w u).2.2.2 = 4) = false)
  (e : A3 V4 ls4 ev4 = (A3 V ls ev).tell k AL.Pt) : A3 V4 ls4 ev4 = (A3 V ls ev).named k u := e.trans ((if_neg (by show ¬ decide ((AF.Bf V.w u).2.2.2 = 0) = true; rw [c]; decide)).trans (if_neg (by show ¬ decide ((AF.Bf V.w u).2.2.2 = 4) = true; rw [c2]; decide))).symm
theorem Sr {V V4 : AM} {ls ls4 : Vector BG 4} {ev ev4 : List Event} {k : Int} {u : Aq} (h0 : 0 ≤ k) (h1 : k < 4) (c : (!decide ((Words.parse u).2 = 0)) = false) (c2 : decide ((Words.parse u).1.verb = 20) = false)
  (e : A3 V4 ls4 ev4 = (A3 { V with w := (AF.FY V.w (V.Ax.at k).A8 (Words.parse u).1).1 } ls ev).G6 (AF.FY V.w (V.Ax.at k).A8 (Words.parse u).1).2.1) : A3 V4 ls4 ev4 = (A3 V ls ev).order k u := by
 rw [e, Np]
 have ha := Cc V ls ev h0 h1
 unfold AL.order
 rw [if_neg (by rw [c]; decide), if_neg (by rw [c2]; decide), ha]
 rfl
theorem TL {V : AM} {ls : Vector BG 4} {ev : List Event} {k : Int} (h0 : 0 ≤ k) (h1 : k < 4) (c : decide ((V.Ax.at k).state = 0) = true) : A3 V ls ev = (A3 V ls ev).EO k := by
 have ha := Cc V ls ev h0 h1
 exact (if_pos (show decide (((A3 V ls ev).at_ k).state = 0) = true by rw [ha]; exact c)).symm
theorem UB {V : AM} {ls : Vector BG 4} {ev : List Event} {k : Int} (h0 : 0 ≤ k) (h1 : k < 4) {sv : A0} {sl : BG} (hs : V.Ax.at k = sv) (hl : ls.at k = sl) (hq : sl.queue = []) (c : decide ((V.Ax.at k).state = 0) = false) :
  A3 (V.BM k sv) (ls.put k ⟨sl.queue, sl.wait, sl.told⟩) ev = (A3 V ls ev).EO k := by
 have ha := Cc V ls ev h0 h1
 rw [EN h0 h1 hs hl (f := fun x => x) rfl, AL.KM _ h0 h1]
 unfold AL.EO
 rw [if_neg (show ¬ decide (((A3 V ls ev).at_ k).state = 0) = true by rw [ha]; show ¬ decide ((V.Ax.at k).state = 0) = true; rw [c]; decide)]
 have e : ((A3 V ls ev).at_ k).queue = [] := by rw [ha, hl]; exact hq
 split
 ·rfl
 ·rename_i q r e2; rw [e] at e2; cases e2
theorem DJ {V : AM} {ls : Vector BG 4} {ev : List Event} {k : Int} (h0 : 0 ≤ k) (h1 : k < 4) {sv : A0} {sl : BG} (hs : V.Ax.at k = sv) (hl : ls.at k = sl) {q : Aq} {r : List Aq} (hq : sl.queue = q :: r) (c : decide ((V.Ax.at k).state = 0) = false) (h' : Hd) :
  A3 (V.BM k { sv with ED := ⟨sv.ED.now, sv.ED.Cj, sv.ED.ret, h'⟩, out := ⟨sv.out.wait, 0, false, sv.out.ring, sv.out.cut⟩ }) (ls.put k ⟨r, sl.wait, sl.told⟩) ev = (A3 V ls ev).set k { (A3 V ls ev).at_ k with queue := r }.FB ∧ ((A3 V ls ev).at_ k).queue = q :: r ∧
  (A3 V ls ev).EO k = if sv.out.CA = true then (A3 V ls ev).set k { (A3 V ls ev).at_ k with queue := r }.FB else if decide (sv.state = 1) = true then ((A3 V ls ev).set k { (A3 V ls ev).at_ k with queue := r }.FB).named k (Words.Ol 32 (Words.QW 32 q)) else ((A3 V ls ev).set k { (A3 V ls ev).at_ k with queue := r }.FB).order k q := by
 have ha := Cc V ls ev h0 h1
 have e : ((A3 V ls ev).at_ k).queue = q :: r := by rw [ha, hl]; exact hq
 refine ⟨EN h0 h1 hs hl (f := fun x => { x with queue := r }.FB) rfl, e, ?_⟩
 unfold AL.EO
 rw [if_neg (show ¬ decide (((A3 V ls ev).at_ k).state = 0) = true by rw [ha]; show ¬ decide ((V.Ax.at k).state = 0) = true; rw [c]; decide)]
 split
 ·rename_i e2; rw [e] at e2; cases e2
 ·rename_i q' r' e2
  rw [e] at e2
  obtain ⟨rfl, rfl⟩ := List.cons.inj e2
  have e3 : ((A3 V ls ev).at_ k).pg.CA = sv.out.CA := by rw [ha, hs]; rfl
  have e4 : ((A3 V ls ev).at_ k).state = sv.state := by rw [ha, hs]; rfl
  simp only [e3, e4]
theorem Rh {H : AL} {i : Int} (h0 : 0 ≤ i) : H.turns (i + 1).toNat = (H.turns i.toNat).EO i := by
 obtain ⟨m, rfl⟩ := Int.eq_ofNat_of_zero_le h0
 rfl
end Go.Ing
/- A house: who comes, bytes that come: plain laws for the walks. -/
namespace Go.Ing
open Go
def Wj : Hd := ⟨none, 0, 0⟩
def D7 (t : AN) (g : Page.Pg) : A0 := ⟨1, -1, t, ⟨[], false, false, Wj⟩, ⟨Wj, g.shown, g.CA, g.ring, g.cut⟩, Wj⟩
def WS : BG := ⟨[], [], []⟩
theorem QE {v : A0} {l : BG} {u : Aq} (hw : v.out.wait.len = l.wait.length) : (Cb v l).send u = Cb { v with out := ⟨v.out.wait, (Page.send v.out u).1.shown, (Page.send v.out u).1.CA, (Page.send v.out u).1.ring, (Page.send v.out u).1.cut⟩ } l := by
 unfold BB.send Page.send
 rw [IU hw]
 cases h : Page.Bq v.out with
 | false => rfl
 | true =>
  have e : (Cb v l).pg.cut = v.out.cut := rfl
  cases hc : v.out.cut with
  | true => rw [e, hc]; show Cb v l = Cb { v with out := ⟨v.out.wait, v.out.shown, v.out.CA, v.out.ring, v.out.cut⟩ } l; rfl
  | false => rw [e, hc]; rfl
def HZ (t : AN) (opt : Int) : AN := if decide ((t.C2 opt).2.1 = []) = true then ((t.C2 opt).1.Ask opt).1 else (t.C2 opt).1
def LD (t : AN) (opt : Int) : Aq := if decide ((t.C2 opt).2.1 = []) = true then (t.C2 opt).2.1 ++ ((t.C2 opt).1.Ask opt).2.1 else (t.C2 opt).2.1 ++ []
def J3 (t : AN) (g : Page.Pg) (opt : Int) : Page.Pg := (Page.send ⟨Wj, g.shown, g.CA, g.ring, g.cut⟩ (LD t opt)).1
theorem Lu (t : AN) (g : Page.Pg) (opt : Int) : (Cb (D7 t g) WS).offer opt = Cb (D7 (HZ t opt) (J3 t g opt)) WS := by
 have h := QE (v := D7 (HZ t opt) g) (l := WS) (u := LD t opt) rfl
 unfold BB.offer
 have e : (Cb (D7 t g) WS).EA = t := rfl
 rw [e]
 by_cases c : decide ((t.C2 opt).2.1 = []) = true
 ·rw [if_pos c]
  have e1 : HZ t opt = ((t.C2 opt).1.Ask opt).1 := if_pos c
  have e2 : LD t opt = [] ++ ((t.C2 opt).1.Ask opt).2.1 := (if_pos c).trans (by rw [of_decide_eq_true c])
  rw [← e1, ← e2]
  exact h
 ·rw [if_neg c]
  have e1 : HZ t opt = (t.C2 opt).1 := if_neg c
  have e2 : LD t opt = (t.C2 opt).2.1 ++ [] := if_neg c
  rw [← e1, ← e2]
  exact h
def Db (j : Int) : Int := (((Vector.replicate 2 (default : Int)).put 0 3).put 1 31).at j
def Eg : Nat → AN × Page.Pg
 | 0 => (default, ⟨0, false, [], false⟩)
 | j + 1 => (HZ (Eg j).1 (Db j), J3 (Eg j).1 (Eg j).2 (Db j))
theorem GY {j : Int} (h0 : 0 ≤ j) : Eg (j + 1).toNat = (HZ (Eg j.toNat).1 (Db j), J3 (Eg j.toNat).1 (Eg j.toNat).2 (Db j)) := by
 obtain ⟨m, rfl⟩ := Int.eq_ofNat_of_zero_le h0
 rfl
theorem NH : Cb (D7 (Eg 2).1 (Eg 2).2) WS = (({ (default : BB) with state := 1, A8 := -1 }).offer 3).offer 31 := by
 have h0 : ({ (default : BB) with state := 1, A8 := -1 } : BB) = Cb (D7 (Eg 0).1 (Eg 0).2) WS := rfl
 rw [h0, Lu, Lu]
 rfl
theorem E4 (t : AN) (opt : Int) : (t.C2 opt).2.1.length ≤ 3 := by
 unfold AN.C2
 split
 ·exact Nat.zero_le _
 ·split
  ·exact Nat.zero_le _
  ·split
   ·exact Nat.zero_le _
   ·exact Nat.le_refl 3
theorem HN (t : AN) (opt : Int) : (t.Ask opt).2.1.length ≤ 3 := by
 unfold AN.Ask
 split
 ·exact Nat.zero_le _
 ·split
  ·exact Nat.zero_le _
  ·split
   ·exact Nat.zero_le _
   ·exact Nat.le_refl 3
theorem AL.Fit.comes {H : AL} {n m : Nat} (h : H.Fit n m) {k : Int} (h0 : 0 ≤ k) (h1 : k < 4) (t : AN) (g : Page.Pg) : (H.set k (Cb (D7 t g) WS)).Fit n m :=
 h.set h0 h1 (Nat.zero_le _) (fun e => absurd (show (1 : Int) = 2 from e) (by decide)) (fun u hu => by cases hu) ⟨Nat.zero_le _, fun u hu => by cases hu⟩
theorem AL.Fit.QR {H : AL} {n m : Nat} (h : H.Fit n m) {k : Int} (h0 : 0 ≤ k) (h1 : k < 4) : (H.QR k).Fit (n + 221) (m + 220) := by
 unfold AL.QR
 rw [← NH]
 exact ((h.comes h0 h1 _ _).tell h0 h1 (show AL.HQ.length ≤ _ by decide)).Bz.mono (by omega) (by omega)
end Go.Ing
/- A house: an act: plain laws for the walks. -/
namespace Go.Ing
open Go
theorem Oo {v : A0} {l : BG} (h : v.ED.queue.len = l.queue.length) : (Cb v l).KL = Bb.Bq v.ED l.queue := by
 unfold BB.KL Bb.Bq Bb.H9
 rw [h]; rfl
theorem UW {v : A0} {l : BG} {u : Aq} (h : v.ED.queue.len = l.queue.length) (c : Bb.Bq v.ED l.queue = false) : (Cb v l).typed u = (Cb v l, 0) := if_pos (by rw [Oo h, c]; rfl)
theorem Vr {v : A0} {l : BG} {u : Aq} (h : v.ED.queue.len = l.queue.length) (c : Bb.Bq v.ED l.queue = true) (q : Hd) :
  (Cb v l).typed u = (Cb { v with ED := ⟨(Bb.feed (Bb.start v.ED l.queue) u).now, (Bb.feed (Bb.start v.ED l.queue) u).Cj, (Bb.feed (Bb.start v.ED l.queue) u).ret, q⟩ } ⟨(Bb.feed (Bb.start v.ED l.queue) u).queue, l.wait, l.told⟩, (Bb.feed (Bb.start v.ED l.queue) u).lost) :=
 (if_neg (by rw [Oo h, c]; decide)).trans rfl
theorem Q9 (s : BB) (u : Aq) : (s.typed u).1.told = s.told ∧ (s.typed u).1.state = s.state ∧ (s.typed u).1.A8 = s.A8 ∧ (s.typed u).1.wait = s.wait ∧ (AL.YW s.queue → AL.YW (s.typed u).1.queue) := by
 unfold BB.typed
 split
 ·exact ⟨rfl, rfl, rfl, rfl, fun h => h⟩
 ·rename_i c
  refine ⟨rfl, rfl, rfl, rfl, fun _ => ?_⟩
  have hg : Bb.Bq ⟨s.now, s.Cj, s.ret, ⟨none, s.queue.length, 0⟩⟩ s.queue = true := by
   have : s.KL = true := by simpa using c
   exact this
  have ho := Bb.Sj u ((Bb.Gx (l := ⟨s.now, s.Cj, s.ret, ⟨none, s.queue.length, 0⟩⟩) rfl).1 hg)
  exact ⟨ho.len, fun q hq => ((Bb.Gb q).1 (ho.queue q hq)).1⟩
theorem R8 (s : BB) (u : Aq) : (s.send u).told = s.told ∧ (s.send u).state = s.state ∧ (s.send u).A8 = s.A8 ∧ (s.send u).wait = s.wait ∧ (s.send u).queue = s.queue := by
 unfold BB.send
 split
 ·exact ⟨rfl, rfl, rfl, rfl, rfl⟩
 ·split <;> exact ⟨rfl, rfl, rfl, rfl, rfl⟩
def DP (s : BB) (u : Aq) : BB × Int := (s.bytes u).1.typed (s.bytes u).2
theorem P3 (s : BB) (u : Aq) : (DP s u).1.told = s.told ∧ (DP s u).1.state = s.state ∧ (DP s u).1.A8 = s.A8 ∧ (DP s u).1.wait = s.wait ∧ (AL.YW s.queue → AL.YW (DP s u).1.queue) := by
 have h1 := Q9 (s.bytes u).1 (s.bytes u).2
 have h2 := R8 { s with EA := (s.EA.DK u).1 } (s.EA.DK u).2.2.1
 obtain ⟨a, b, c, d, e⟩ := h1
 obtain ⟨a', b', c', d', e'⟩ := h2
 exact ⟨a.trans a', b.trans b', c.trans c', d.trans d', fun hq => e (by rw [show (s.bytes u).1.queue = s.queue from e']; exact hq)⟩
theorem KW (H : AL) (k : Int) (u : Aq) : H.byte k u = (if decide (0 < (DP (H.at_ k) u).2) = true then (H.set k (DP (H.at_ k) u).1).tell k AL.Qd else H.set k (DP (H.at_ k) u).1).Bz := rfl
def heard (v : A0) (u : Aq) : A0 := { v with EA := (v.EA.DK u).1, out := ⟨v.out.wait, (Page.send v.out (v.EA.DK u).2.2.1).1.shown, (Page.send v.out (v.EA.DK u).2.2.1).1.CA, (Page.send v.out (v.EA.DK u).2.2.1).1.ring, (Page.send v.out (v.EA.DK u).2.2.1).1.cut⟩ }
theorem OQ {v : A0} {l : BG} {u : Aq} (hw : v.out.wait.len = l.wait.length) : (Cb v l).bytes u = (Cb (heard v u) l, (v.EA.DK u).2.1) := by
 unfold BB.bytes
 exact congrArg (fun x => (x, _)) (QE (v := { v with EA := (v.EA.DK u).1 }) (l := l) (u := (v.EA.DK u).2.2.1) hw)
theorem Gr {v : A0} {l : BG} {u : Aq} (hw : v.out.wait.len = l.wait.length) (h : v.ED.queue.len = l.queue.length) (c : Bb.Bq v.ED l.queue = false) : DP (Cb v l) u = (Cb (heard v u) l, 0) := by
 unfold DP
 rw [OQ hw]
 exact UW (v := heard v u) h c
theorem Hs {v : A0} {l : BG} {u : Aq} (hw : v.out.wait.len = l.wait.length) (h : v.ED.queue.len = l.queue.length) (c : Bb.Bq v.ED l.queue = true) (q : Hd) :
  DP (Cb v l) u = (Cb { heard v u with ED := ⟨(Bb.feed (Bb.start v.ED l.queue) (v.EA.DK u).2.1).now, (Bb.feed (Bb.start v.ED l.queue) (v.EA.DK u).2.1).Cj, (Bb.feed (Bb.start v.ED l.queue) (v.EA.DK u).2.1).ret, q⟩ } ⟨(Bb.feed (Bb.start v.ED l.queue) (v.EA.DK u).2.1).queue, l.wait, l.told⟩, (Bb.feed (Bb.start v.ED l.queue) (v.EA.DK u).2.1).lost) := by
 unfold DP
 rw [OQ hw]
 exact Vr (v := heard v u) h c q
namespace AL
variable {H : AL} {n m : Nat}
theorem Ou {i : Int} (h0 : 0 ≤ i) : H.EF (i + 1).toNat = (H.EF i.toNat).set i { (H.EF i.toNat).at_ i with told := [] } := by
 obtain ⟨k, rfl⟩ := Int.eq_ofNat_of_zero_le h0
 rfl
theorem IH : ∀ k : Nat, (H.EF k).w = H.w ∧ (H.EF k).last = H.last ∧ (H.EF k).Cs = H.Cs
 | 0 => ⟨rfl, rfl, rfl⟩
 | k + 1 => IH k
theorem Ns : ∀ k : Nat, k ≤ 4 → ∀ j : Int, 0 ≤ j → j < 4 → (H.EF k).at_ j = if j < k then { H.at_ j with told := [] } else H.at_ j
 | 0, _, j, j0, _ => by rw [if_neg (by omega)]; rfl
 | k + 1, hk, j, j0, j1 => by
  have ih := Ns k (by omega)
  show (((H.EF k).set k _).at_ j) = _
  rw [ID _ (by omega) (by omega) j0]
  by_cases c : j = (k : Int)
  ·subst c
   rw [if_pos rfl, if_pos (by omega), ih _ j0 j1, if_neg (by omega)]
  ·rw [if_neg c, ih j j0 j1]
   by_cases c2 : j < (k : Int)
   ·rw [if_pos c2, if_pos (by omega)]
   ·rw [if_neg c2, if_neg (by omega)]
theorem Qm {j : Int} (j0 : 0 ≤ j) (j1 : j < 4) : H.begun.at_ j = { H.at_ j with told := [] } := by
 have := Ns (H := { H with Cs := H.Cs + 1, last := [] }) 4 (Nat.le_refl 4) j j0 j1
 rw [if_pos (by omega)] at this
 exact this
theorem Fit.begun (h : H.Fit n m) : H.begun.Fit 0 0 := by
 have hs := IH (H := { H with Cs := H.Cs + 1, last := [] }) 4
 refine ⟨by show (EF _ 4).w.Lc; rw [hs.1]; exact h.Gz, fun j a b => ?_, by show (EF _ 4).last.length ≤ 0; rw [hs.2.1]; exact Nat.le_refl 0, fun j a b => ?_, fun j a b => ?_, fun j a b => ?_⟩ <;> rw [Qm a b]
 ·exact Nat.le_refl 0
 ·exact h.A8 j a b
 ·exact h.wait j a b
 ·exact h.queue j a b
theorem Fit.typed (h : H.Fit n m) {k : Int} (h0 : 0 ≤ k) (h1 : k < 4) (u : Aq) : (H.set k (DP (H.at_ k) u).1).Fit n m := by
 obtain ⟨a, b, c, d, e⟩ := P3 (H.at_ k) u
 exact h.set h0 h1 (by rw [a]; exact h.told k h0 h1) (by rw [b, c]; exact h.A8 k h0 h1) (by rw [d]; exact h.wait k h0 h1) (e (h.queue k h0 h1))
theorem Fit.LV (h : H.Fit n m) {k : Int} (h0 : 0 ≤ k) (h1 : k < 4) (z : Int) : (H.set k ((H.at_ k).LV z)).Fit n m :=
 h.set h0 h1 (h.told k h0 h1) (h.A8 k h0 h1) (h.wait k h0 h1) (h.queue k h0 h1)
theorem Fit.OS (h : H.Fit n m) (d : Int) : (H.OS d).Fit (n + 400) (m + 400) := by
 have h1 := Ja h 4 (Nat.le_refl 4)
 have hr := AF.My (draw := d) h1.Gz
 have hl := AF.OL h1.Gz.Lr d
 exact (((h1.land hr.1).G6 hr.2).Bz).mono (by omega) (by omega)
theorem Fit.byte (h : H.Fit 0 0) {k : Int} (h0 : 0 ≤ k) (h1 : k < 4) (u : Aq) : (H.byte k u).Fit 1000 1000 := by
 rw [KW]
 refine (Fit.Bz (n := 1) (m := 0) ?_).mono (by omega) (by omega)
 split
 ·exact (h.typed h0 h1 _).tell h0 h1 (show Qd.length ≤ _ by decide)
 ·exact (h.typed h0 h1 _).mono (by omega) (by omega)
theorem KG (P : AL → Prop) (h0 : P H) (hp : ∀ d, P (H.OS d)) (hc : ∀ k, 0 ≤ k → k < 4 → P (H.QR k)) (hb : ∀ k u, 0 ≤ k → k < 4 → P (H.byte k u)) (ht : ∀ k z, 0 ≤ k → k < 4 → P ((H.set k ((H.at_ k).LV z)).Bz)) (hl : ∀ k, 0 ≤ k → k < 4 → P (H.leave k).Bz) (a : Br) : P (H.ES a).1 := by
 unfold AL.ES
 split
 ·dsimp only; exact hp a.n
 ·split
  ·dsimp only; exact h0
  ·split
   ·dsimp only; exact h0
   ·rename_i c
    have hs : 0 ≤ a.BM ∧ a.BM < 4 := by simp only [Bool.or_eq_true, decide_eq_true_eq] at c; omega
    split
    ·dsimp only; exact h0
    ·split
     ·dsimp only; exact hc _ hs.1 hs.2
     ·split
      ·dsimp only; exact hb _ _ hs.1 hs.2
      ·split
       ·dsimp only; exact ht _ _ hs.1 hs.2
       ·dsimp only; exact hl _ hs.1 hs.2
theorem Fit.ES (h : H.Fit 0 0) (a : Br) : (H.ES a).1.Fit 1000 1000 :=
 KG (fun X => X.Fit 1000 1000) (h.mono (by omega) (by omega)) (fun d => (h.OS d).mono (by omega) (by omega)) (fun k h0 h1 => (h.QR h0 h1).mono (by omega) (by omega)) (fun k u h0 h1 => h.byte h0 h1 u)
  (fun k z h0 h1 => ((h.LV h0 h1 z).Bz).mono (by omega) (by omega)) (fun k h0 h1 => ((h.leave h0 h1).Bz).mono (by omega) (by omega)) a
theorem Fit.act (h : H.Fit n m) (a : Br) : (H.act a).1.Fit (n + 1000) (m + 1000) := by
 unfold AL.act
 split
 ·exact h.mono (by omega) (by omega)
 ·exact (h.begun.ES a).mono (by omega) (by omega)
theorem GB {H : AL} (c : decide (400 ≤ H.Cs) = false) (a : Br) : H.act a = H.begun.ES a := if_neg (by rw [c]; decide)
end AL
theorem F0 (V : AM) (ls : Vector BG 4) (ev : List Event) {k : Int} (h0 : 0 ≤ k) (h1 : k < 4) : decide (((A3 V ls ev).at_ k).state = 0) = decide ((V.Ax.at k).state = 0) := by rw [Cc V ls ev h0 h1]; rfl
theorem Em {V : AM} {ls : Vector BG 4} {ev : List Event} {k : Int} (h0 : 0 ≤ k) (h1 : k < 4) {sv v : A0} {sl l : BG} (hs : V.Ax.at k = sv) (hl : ls.at k = sl) {u : Aq} {z : Int} (e : DP (Cb sv sl) u = (Cb v l, z)) :
  A3 (V.BM k v) (ls.put k l) ev = (A3 V ls ev).set k (DP ((A3 V ls ev).at_ k) u).1 ∧ (DP ((A3 V ls ev).at_ k) u).2 = z := by
 have ha : DP ((A3 V ls ev).at_ k) u = (Cb v l, z) := by rw [Cc V ls ev h0 h1, hs, hl]; exact e
 rw [Hn V ls ev h0 h1, ha]
 exact ⟨rfl, rfl⟩
theorem Hi {V V2 : AM} {ls ls2 : Vector BG 4} {ev : List Event} {k : Int} (h0 : 0 ≤ k) (h1 : k < 4) {u : Aq} {z : Int} (e : A3 V2 ls2 ev = (A3 V ls ev).set k (DP ((A3 V ls ev).at_ k) u).1 ∧ (DP ((A3 V ls ev).at_ k) u).2 = z) (hF : (A3 V ls ev).Fit 0 0) : (A3 V2 ls2 ev).Fit 0 0 := by
 rw [e.1]; exact hF.typed h0 h1 u
theorem Kl {V V2 V3 V4 : AM} {ls ls2 ls3 ls4 : Vector BG 4} {ev ev3 ev4 : List Event} {k : Int} (_ : 0 ≤ k) (_ : k < 4) {u : Aq} {z : Int} (e : A3 V2 ls2 ev = (A3 V ls ev).set k (DP ((A3 V ls ev).at_ k) u).1 ∧ (DP ((A3 V ls ev).at_ k) u).2 = z)
  (e3 : (decide (0 < z) = true ∧ A3 V3 ls3 ev3 = (A3 V2 ls2 ev).tell k AL.Qd) ∨ (decide (0 < z) = false ∧ A3 V3 ls3 ev3 = A3 V2 ls2 ev)) (e4 : A3 V4 ls4 ev4 = (A3 V3 ls3 ev3).Bz) : A3 V4 ls4 ev4 = (A3 V ls ev).byte k u := by
 rw [e4, KW, e.2]
 rcases e3 with ⟨c, e3⟩ | ⟨c, e3⟩
 ·rw [e3, if_pos c, e.1]
 ·rw [e3, if_neg (by rw [c]; decide), e.1]
theorem Vh (V : AM) (ls : Vector BG 4) (ev : List Event) {k : Int} (h0 : 0 ≤ k) (h1 : k < 4) {sv : A0} (hs : V.Ax.at k = sv) (n : Int) : sv.out.ring.take (max 0 (min n (sv.out.ring.length : Int))).toNat = ((A3 V ls ev).at_ k).out n := by
 rw [Cc V ls ev h0 h1, hs]; rfl
theorem TG (t : AN) (u : Aq) : (t.DK u).2.1.length ≤ u.length := by
 unfold AN.DK
 split
 ·exact Nat.zero_le _
 ·exact (AN.WA u t).1
end Go.Ing
/- A house, from outside: plain laws for the walks. -/
namespace Go.Ing
open Go
namespace AL
def IP (H : AL) (i : Int) : Int × Int := if decide ((H.at_ i).state = 2) = true then (2, (H.at_ i).A8) else ((H.at_ i).state, -1)
theorem QI : ∀ (l : List Br) (H : AL) (a : Br), run H (l ++ [a]) = (((run H l).1.act a).1, (run H l).2 ++ [((run H l).1.act a).2])
 | [], _, _ => rfl
 | b :: r, H, a => by
  have ih := QI r (H.act b).1 a
  show ((run (H.act b).1 (r ++ [a])).1, (H.act b).2 :: (run (H.act b).1 (r ++ [a])).2) = _
  rw [ih]; rfl
theorem PA : ∀ (l : List Br) (H : AL), (run H l).2.length = l.length
 | [], _ => rfl
 | b :: r, H => congrArg Nat.succ (PA r (H.act b).1)
theorem Q1 {H : AL} {xs : List Br} {k : Int} (h0 : 0 ≤ k) (h1 : k < xs.length) : run H (xs.take (k + 1).toNat) = (((run H (xs.take k.toNat)).1.act (xs.getD k.toNat default)).1, (run H (xs.take k.toNat)).2 ++ [((run H (xs.take k.toNat)).1.act (xs.getD k.toNat default)).2]) := by
 obtain ⟨m, rfl⟩ := Int.eq_ofNat_of_zero_le h0
 have hm : m < xs.length := by omega
 show run H (xs.take (m + 1)) = (((run H (xs.take m)).1.act (xs.getD m default)).1, (run H (xs.take m)).2 ++ [((run H (xs.take m)).1.act (xs.getD m default)).2])
 rw [List.take_add_one, List.getElem?_eq_getElem hm, List.getD_eq_getElem?_getD, List.getElem?_eq_getElem hm]
 exact QI _ _ _
theorem Q0 : ∀ (k : Nat) (l : List Br) (H : AL), (run H (l.take k)).2 = (run H l).2.take k
 | 0, _, _ => rfl
 | k + 1, [], _ => rfl
 | k + 1, a :: r, H => congrArg (List.cons (H.act a).2) (Q0 k r (H.act a).1)
def Fits (H : AL) : Prop := ∃ n m, H.Fit n m
theorem Fits.act {H : AL} (h : H.Fits) (a : Br) : (H.act a).1.Fits := by
 obtain ⟨n, m, h⟩ := h
 exact ⟨_, _, h.act a⟩
theorem Fits.run : ∀ (l : List Br) {H : AL}, H.Fits → (run H l).1.Fits
 | [], _, h => h
 | a :: r, _, h => Fits.run r (h.act a)
theorem Wu : AH.new.Lc := by
 refine ⟨fun i => ?_, fun i => ?_, fun i => ?_⟩
 ·rcases Vector.Nc AH.new.AX i with e | ⟨j, j0, j1, e⟩
  ·rw [e]; exact Nat.zero_le _
  ·rw [e]
   have : j = 0 ∨ j = 1 ∨ j = 2 ∨ j = 3 ∨ j = 4 ∨ j = 5 ∨ j = 6 ∨ j = 7 ∨ j = 8 := by omega
   rcases this with h | h | h | h | h | h | h | h | h <;> subst h <;> decide
 ·rcases Vector.Nc AH.new.AV i with e | ⟨j, j0, j1, e⟩
  ·rw [e]; exact Nat.zero_le _
  ·rw [e]
   have : j = 0 ∨ j = 1 ∨ j = 2 ∨ j = 3 ∨ j = 4 ∨ j = 5 := by omega
   rcases this with h | h | h | h | h | h <;> subst h <;> decide
 ·rcases Vector.Nc AH.new.Bv i with e | ⟨j, j0, j1, e⟩
  ·rw [e]; exact Nat.zero_le _
  ·rw [e]
   have : j = 0 ∨ j = 1 ∨ j = 2 ∨ j = 3 ∨ j = 4 ∨ j = 5 := by omega
   rcases this with h | h | h | h | h | h <;> subst h <;> decide
theorem Uu {k : Int} (h0 : 0 ≤ k) (h1 : k < 4) : AL.new.at_ k = default := by
 rcases four h0 h1 with e | e | e | e <;> subst e <;> rfl
theorem Wr : AL.new.Fit 0 0 := by
 refine ⟨Wu, fun k a b => ?_, Nat.le_refl 0, fun k a b => ?_, fun k a b => ?_, fun k a b => ?_⟩ <;> rw [Uu a b]
 ·exact Nat.le_refl 0
 ·exact fun e => absurd (show (0 : Int) = 2 from e) (by decide)
 ·exact fun u hu => by cases hu
 ·exact ⟨Nat.zero_le _, fun u hu => by cases hu⟩
end AL
theorem St.WZ {w0 w : World} {M : List Nat} {L l : List Ad} (h : St w0 M w L) (hl : ∀ r ∈ l, r.CH = [] ∧ r.ok w) : St w0 M w (Ad.Ds l :: L) := by
 have hf : (Ad.Ds l).CH = [] := by
  show l.flatMap Ad.CH = []
  rw [List.flatMap_eq_nil_iff]
  exact fun r hr => (hl r hr).1
 refine ⟨h.os, h.tape, h.output, h.size, h.Hb, fun r hr => ?_, fun r hr => ?_, List.pairwise_cons.2 ⟨fun s hs b hb => ?_, h.IJ⟩⟩
 ·rcases List.mem_cons.1 hr with rfl | hr
  ·refine ⟨fun r hr => (hl r hr).2, ?_⟩
   refine List.Pairwise.imp_of_mem (R := fun _ _ => True) (fun {a b} ha hb _ x hx => ?_) (List.pairwise_of_forall (fun _ _ => trivial))
   rw [(hl a ha).1] at hx; cases hx
  ·exact h.ok r hr
 ·rcases List.mem_cons.1 hr with rfl | hr
  ·rw [hf]; exact fun b hb => by cases hb
  ·exact h.CH r hr
 ·rw [hf] at hb; cases hb
def ME : Vector A0 4 := Vector.replicate 4 default
def MA : Vector BG 4 := Vector.replicate 4 ⟨[], [], []⟩
theorem U7 (T : Nat) (w : World) : ∀ r ∈ CI T ME MA, r.CH = [] ∧ r.ok w := by
 have hs : ∀ r ∈ E7 T default ⟨[], [], []⟩, r.CH = [] ∧ r.ok w := fun r hr => by
  unfold E7 at hr
  simp only [List.mem_cons, List.mem_nil_iff, or_false] at hr
  rcases hr with rfl | rfl | rfl <;> exact ⟨rfl, .inl ⟨rfl, rfl⟩⟩
 intro r hr
 have e : CI T ME MA = E7 T default ⟨[], [], []⟩ ++ (E7 T default ⟨[], [], []⟩ ++ (E7 T default ⟨[], [], []⟩ ++ E7 T default ⟨[], [], []⟩)) := rfl
 rw [e] at hr
 simp only [List.mem_append] at hr
 rcases hr with h | h | h | h <;> exact hs r h
def Hv (v : A0) : Int × Int := if decide (v.state = 2) = true then (2, v.A8) else (v.state, -1)
theorem PR (V : AM) (ls : Vector BG 4) (ev : List Event) {i : Int} (h0 : 0 ≤ i) (h1 : i < 4) : Hv (V.Ax.at i) = (A3 V ls ev).IP i := by
 unfold AL.IP
 rw [Cc V ls ev h0 h1]
 rfl
end Go.Ing
/- Engine: calls of closures that read what they are handed; slices that are only read, beside boxes. -/
namespace Go.Ing
open Go
section
variable {P : Program} {n : Nat} {w0 : World} {M : List Nat} {Q : Exit → Go.Act → World → Prop} {F : List (Nat × Value)} {L : List Ad} {ops : Array Oper} {rest : List Oper}
def bq (w : World) (M : List Nat) (h : Hd) (T sz : Nat) (cs : List Value) : Prop := Rd w h T sz cs ∧ (cs ≠ [] → ∀ b o, h.a = some ⟨b, o, none⟩ → b ∉ M)
theorem Vp {T U E sz : TypeId} {x z : Operand} {h : Hd} {k : IntKind} {b : Int} (hu : P.underlying T = some (.slice E)) (hs : Sz P E sz) (hx : ev F x = some h.val) (hz : ev F z = some (.int k b)) (h1 : 0 ≤ b) (h2 : b ≤ (h.cap : Int)) : PS P n w0 M (.slice T x none (some z) none) U F L (h.cut 0 b.toNat sz).val L := B9 fun e w hF => by
 have hs' := hs w
 simp only [execOp, hF.ev hx, Option.map_some, Option.map_none, hF.ev hz, Hd.val, Instr.sliceAt, Instr.slice, underlying]
 simp [hu, Instr.sliceBounds, Instr.sliceBound, asIntOf, h1, h2, hs', Hd.cut]
end
theorem Rd.pull {w0 w : World} {L A K : List Ad} {h : Hd} {T sz : Nat} {cs : List Value} (hr : Rd w0 h T sz cs) (hS : St w0 [] w L) (hp : Av L A K) : bq w (CW A) h T sz cs :=
 ⟨hS.rd hr, fun hne b o e => by
  obtain ⟨b', o', C, fz, h1, h2, _⟩ := hr.2 hne
  rw [e] at h1
  injection h1 with h1
  injection h1 with h1
  subst h1
  exact NU h2 (by simp) hS hp⟩
instance : Inhabited AM := ⟨⟨default, Vector.replicate 4 default, 0, ⟨none, 0, 0⟩⟩⟩
end Go.Ing
/- Engine: the texts in a slice of acts that came in, and how much they can take. -/
namespace Go.Ing
open Go Go.RowKit Go.ChangeShapes Go.WideShapes Go.ChangeAt
section
variable {H : Type} {enc : TypeId × Value → H} {P : Program} {w : World}
theorem Lk {e : TypeId} {d : DataW H} : ∀ {l : List (DataW H)}, d ∈ l → ∀ n ∈ d.weights P e, n ∈ DataW.weightsAll P e l
 | [], h, _, _ => by cases h
 | x :: r, h, n, hn => by
  simp only [DataW.weightsAll]
  rcases List.mem_cons.1 h with rfl | h
  ·exact List.mem_append_left _ hn
  ·exact List.mem_append_right _ (Lk h n hn)
theorem R4 {t E TS : TypeId} {fs : Array Field} {h : Hd} {d : DataW H} {p : List MemPlace} {T0 : Nat} {xs : List Br} (hT : P.underlying t = some (.slice E)) (hE : P.underlying E = some (.struct fs)) (hf : (fs[3]?).map (fun f => (f.type, f.offset)) = some (TS, 3)) (hS : P.underlying TS = some .string) (zE : P.cellsOf E = 4) (zS : P.cellsOf TS = 1)
  (hd : DataW.Trod enc P w 0 (fun _ => true) true t h.val d p) (hr : Rd w h T0 4 (xs.flatMap Br.enc)) (hw : ∀ n ∈ d.weights P t, n ≤ reachBytes) : ∀ a ∈ xs, a.bytes.length ≤ 140737488351232 := by
 have hlen : h.len = xs.length := hr.K1 Br.fl (by decide)
 intro a ha
 obtain ⟨i, hi, rfl⟩ := List.getElem_of_mem ha
 have hb : ∃ b o, h.a = some ⟨b, o, none⟩ := by
  have hne : xs.flatMap Br.enc ≠ [] := fun e => by
   have := congrArg List.length e
   rw [Cm Br.fl.len] at this
   simp only [List.length_nil] at this
   omega
  obtain ⟨b, o, _, _, e, _⟩ := hr.2 hne
  exact ⟨b, o, e⟩
 obtain ⟨b, o, hb⟩ := hb
 obtain ⟨fuel, hfu⟩ := hd
 have hv : h.val = .slice (some ⟨b, o, none⟩) h.len h.cap := by rw [← hb]; rfl
 have hcs : h.val.cells.toList = [.slice (some ⟨b, o, none⟩) h.len h.cap] := by rw [hv]; rfl
 rw [hcs] at hfu
 rcases DataW.trod_slice hT hfu with ⟨h3, _⟩ | ⟨a', len, cap, elems, rest, m, _, h3, h4, _, hlc, _, h5, hel, _⟩
 ·simp at h3
 ·simp at h3
  obtain ⟨rfl, rfl, rfl⟩ := h3
  have hd' : d = .slice (elems.map (·.1)) (rest.map (·.1)) := congrArg Prod.fst h4
  have h6 := hel i (by omega)
  have hi' : i < elems.length := by omega
  rw [List.getElem?_eq_getElem hi', Option.bind_eq_some_iff] at h6
  obtain ⟨c, h7, h9⟩ := h6
  obtain ⟨ys, q, _, hx, hl, hlen', hfl⟩ := DataW.trod_struct hE h9
  cases hf3 : fs[3]? with
  | none => rw [hf3] at hf; cases hf
  | some f =>
   rw [hf3] at hf
   simp at hf
   obtain ⟨rfl, hoff⟩ := hf
   have h1 := hfl 3 f hf3
   have h3s : 3 < fs.size := by
    rcases Nat.lt_or_ge 3 fs.size with h' | h'
    ·exact h'
    ·rw [Array.getElem?_eq_none h'] at hf3; cases hf3
   have h2 : ys[3]? = some (ys[3]'(by omega)) := List.getElem?_eq_getElem (by omega)
   rw [h2, zS, hoff] at h1
   obtain ⟨s, e1, e2, _⟩ := DataW.trod_string hS h1
   have hc := World.cells?_some h7
   rw [zE] at hc
   have h10 := hc.2.2 3 (by omega)
   have h11 : c[3]? = some (.string s) := by
    have := congrArg (fun l => l[0]?) e1
    simp only [List.getElem?_take, List.getElem?_drop] at this
    simpa using this
   obtain ⟨b', o', C, fz, k1, k2, k3, k4⟩ := MV Br.fl Br.l3 hr hi (by decide)
   have k1' : (some ⟨b, o, none⟩ : Option Addr) = some ⟨b', o', none⟩ := hb.symm.trans k1
   injection k1' with k1'
   injection k1' with kb ko
   subst kb; subst ko
   rw [EB, EB] at h10
   unfold World.cell? at h10
   simp only [k2] at h10
   have k5 : C[o + i * 4 + 3]? = some (BQ xs[i].bytes) := by
    have := congrArg (fun l => l[0]?) k4
    simp only [List.getElem?_take, List.getElem?_drop] at this
    simpa [A4] using this
   have k6 : BQ xs[i].bytes = .string s := by
    rw [h11] at h10
    have : C[o + i * 4 + 3]? = some (Value.string s) := by simpa using h10
    rw [k5] at this
    injection this
   have k7 : s.data.toList = xs[i].bytes := by
    simp [BQ] at k6
    rw [← k6]
   have hmem : xs[i].bytes.length ∈ d.weights P t := by
    rw [hd']
    simp only [DataW.weights, hT]
    refine List.mem_cons_of_mem _ (List.mem_append_left _ (Lk (d := elems[i].1) (List.mem_map.2 ⟨elems[i], List.getElem_mem _, rfl⟩) _ ?_))
    have hx' : elems[i].1 = .agg (ys.map (·.1)) := congrArg Prod.fst hx
    rw [hx']
    simp only [DataW.weights, hE]
    refine DataW.weights_mem_each (j := 3) (t := f.type) (d := (ys[3]'(by omega)).1) ?_ ?_ _ ?_
    ·rw [List.getElem?_map]; simp [hf3]
    ·rw [List.getElem?_map, h2]; rfl
    ·rw [e2, k7]; simp [DataW.weights]
   exact hw _ hmem
end
end Go.Ing
/- What every turn keeps: a principle. -/
namespace Go.Ing
open Go
namespace AF
inductive TP (w : AH) : Aq → Prop
 | word {s : Aq} : s ∈ [LQ, VU, Rx, Ko, Ox, Md, Zh, Xh, YJ, Pv] → TP w s
 | room (r : Int) : TP w ([84, 104, 101, 32] ++ (w.Bv.at r).name ++ [46])
 | ways (r : Room) : TP w (Hz r 6)
 | list {s : Aq} (l : List Int) : s ∈ [[72, 101, 114, 101, 32, 105, 115], [89, 111, 117, 32, 104, 97, 118, 101]] → TP w (Ql w s l ++ [46])
 | seen (k : Int) : TP w ((w.AV.at k).name ++ [32, 105, 115, 32, 104, 101, 114, 101, 46])
inductive Shape (x : Aq) (w : AH) : Event → Prop
 | bf {s : Aq} : TP w s → Shape x w { GA 16 with text := s }
 | said : Shape x w { GA 7 with text := x }
 | kind {k : Int} : k = 15 ∨ k = 17 → Shape x w (GA k)
 | dir {k d : Int} : k = 1 ∨ k = 2 → Shape x w { GA k with dir := d }
 | By {k i : Int} : k = 3 ∨ k = 4 ∨ (8 ≤ k ∧ k ≤ 13) → Shape x w { GA k with By := (w.AX.at i).name }
 | JJ {k : Int} : k = 8 ∨ k = 9 → Shape x w { GA k with By := OP }
 | bo {i to : Int} : Shape x w { GA 6 with other := to, By := (w.AX.at i).name }
 | bL {i to : Int} : Shape x w { GA 5 with By := (w.AX.at i).name, text := (w.AX.at to).name }
 | CD {B1 n : Int} : 1 ≤ n → n ≤ 3 → Shape x w { GA 14 with other := B1, n := n }
def ev (w : AH) (b : Int) (e : Event) : Event := w.G7 (Dz ⟨w, b, []⟩ e) 6
structure Rel (x : Aq) (q : Prop) (b : Int) (R : AH → List Event → AH → Prop) : Prop where
 refl : ∀ w, R w [] w
 trans : ∀ {X l Y m Z}, R X l Y → R Y m Z → R X (l ++ m) Z
 hap : ∀ {w e}, Shape x w e → R w [ev w b e] w
 By : ∀ {w : AH} {i : Int} {t : Ak}, t.name = (w.AX.at i).name → t.kind = (w.AX.at i).kind → R w [] (w.Jt i t)
 B1 : ∀ {w : AH} {k f : Int}, R w [] (w.Cv k { w.AV.at k with B1 := f })
 shut : ∀ {w : AH} {r d : Int} {v : Bool}, R w [] (w.YY r d v)
 Im : ∀ {w : AH} {d r : Int}, R w [ev w b { GA 1 with dir := d }] (w.Cv b { w.AV.at b with room := r, B1 := 0 })
 Kp : q → ∀ {w}, R w [ev w b (GA 18)] w
 gone : ∀ {X l w}, R X l w → (∃ e ∈ l, (e.kind = 18 ∨ (e.kind = 15 ∧ b < 2)) ∧ e.Dm = b) → R X l (w.Cv b default)
section
variable {x : Aq} {q : Prop} {b : Int} {R : AH → List Event → AH → Prop} (K : Rel x q b R) {X : AH} {T : AF}
include K
end
end AF
end Go.Ing
/- What every round of fights keeps, and every coming in: a principle. -/
namespace Go.Ing
open Go
namespace AF
structure bH (R : AH → List Event → AH → Prop) : Prop where
 all : ∀ b, 0 ≤ b → b < 6 → Rel [] False b R
 bb : ∀ {w : AH} {k h : Int}, R w [] (w.Cv k { w.AV.at k with BL := h })
 bm : ∀ {X l w} {b : Int}, 2 ≤ b → R X l w → (∃ e ∈ l, e.kind = 15 ∧ e.Dm = b) → R X l (w.Cv b { w.AV.at b with room := 0, BL := 10 })
section
variable {R : AH → List Event → AH → Prop} (K : bH R)
include K
omit K in
end
end AF
end Go.Ing
/- What happens within an act of a house, in small steps. -/
namespace Go.Ing
open Go
namespace BB
def Ce (s : BB) (e : Event) : BB := if (AH.tell e s.A8).2 = true then s.tell (AH.tell e s.A8).1 else s
def JG (s : BB) (es : List Event) : BB := if s.state = 2 then es.foldl Ce s else s
end BB
theorem lt_next {j : Int} {k : Nat} (c : ¬ j = (k : Int)) : (j < ((k + 1 : Nat) : Int)) = (j < (k : Int)) := propext ⟨fun _ => by omega, fun _ => by omega⟩
namespace AL
theorem Jj (e : Event) (H : AL) : ∀ k : Nat, k ≤ 4 → ∀ j : Int, 0 ≤ j → j < 4 → (Ce e H k).at_ j = if j < k ∧ (H.at_ j).state = 2 then (H.at_ j).Ce e else H.at_ j
 | 0, _, j, h0, _ => by rw [if_neg (by omega)]; rfl
 | k + 1, hk, j, h0, h1 => by
  have ih := Jj e H k (by omega) j h0 h1
  have ihk := Jx e H k (by omega) k (Int.le_refl _) (by omega)
  by_cases c : j = (k : Int)
  ·subst c
   unfold Ce
   rw [ihk]
   split
   ·rename_i c1
    rw [if_neg (by simp at c1; exact fun h => c1 h.2)]; exact ihk
   ·rename_i c1
    have hr : (if (k : Int) < ((k + 1 : Nat) : Int) ∧ (H.at_ k).state = 2 then (H.at_ k).Ce e else H.at_ k) = if (AH.tell e (H.at_ k).A8).2 = true then (H.at_ k).tell (AH.tell e (H.at_ k).A8).1 else H.at_ k := if_pos ⟨by omega, by simpa using c1⟩
    rw [hr]
    by_cases c2 : (AH.tell e (H.at_ k).A8).2 = true
    ·rw [if_pos c2, if_pos c2]
     unfold AL.tell
     rw [AL.ID _ (by omega) (by omega) h0, if_pos rfl, ihk]
    ·rw [if_neg c2, if_neg c2]; exact ihk
  ·have e2 : (Ce e H (k + 1)).at_ j = (Ce e H k).at_ j := by
    rw [Ce.eq_2]
    split
    ·rfl
    ·split
     ·exact S8 (by omega) (by omega) h0 c _
     ·rfl
   rw [e2, ih]; simp only [lt_next c]
theorem WY (s : BB) (e : Event) : (s.Ce e).state = s.state ∧ (s.Ce e).A8 = s.A8 := by
 unfold BB.Ce
 split
 ·exact ⟨(JZ _ _).1, (JZ _ _).2.1⟩
 ·exact ⟨rfl, rfl⟩
theorem QO {j : Int} (j0 : 0 ≤ j) (j1 : j < 4) : ∀ (es : List Event) (H : AL), (H.IV es).at_ j = (H.at_ j).JG es
 | [], H => by show H.at_ j = _; unfold BB.JG; split <;> rfl
 | e :: r, H => by
  have ih := QO j0 j1 r (Ce e H 4)
  show ((Ce e H 4).IV r).at_ j = _
  have h1 := Jj e H 4 (Nat.le_refl 4) j j0 j1
  rw [ih, h1]
  by_cases c : (H.at_ j).state = 2
  ·rw [if_pos ⟨by omega, c⟩]
   unfold BB.JG
   rw [if_pos c, if_pos (by rw [(WY _ e).1]; exact c)]
   rfl
  ·rw [if_neg (fun h => c h.2)]
   unfold BB.JG
   rw [if_neg c, if_neg c]
theorem W4 (H : AL) (es : List Event) {j : Int} (j0 : 0 ≤ j) (j1 : j < 4) : (H.G6 es).at_ j = (H.at_ j).JG es := QO j0 j1 es _
def Wa : List Aq := [HQ, Qd, YE, Pt, noRoom]
inductive GZ (U : Aq → Prop) (H : AL) : Int → AH → BB → List Event → Prop
 | left {k : Int} : (H.at_ k).state = 2 → (H.w.AV.at (H.at_ k).A8).here = true → GZ U H k (AF.FY H.w (H.at_ k).A8 FM).1 default (AF.FY H.w (H.at_ k).A8 FM).2.1
 | Wk {k : Int} {u : Aq} : (H.at_ k).state = 1 → (AF.Bf H.w u).2.2.2 = 0 → GZ U H k (AF.Bf H.w u).1 { H.at_ k with state := 2, A8 := (AF.Bf H.w u).2.1 } (AF.Bf H.w u).2.2.1
 | bW {k : Int} {q : Aq} : U q → (H.at_ k).state ≠ 0 → (H.at_ k).state ≠ 1 → (Words.parse q).1.verb ≠ 20 → GZ U H k (AF.FY H.w (H.at_ k).A8 (Words.parse q).1).1 (H.at_ k) (AF.FY H.w (H.at_ k).A8 (Words.parse q).1).2.1
 | round {d : Int} : GZ U H 0 (AF.CY H.w d).1 (H.at_ 0) (AF.CY H.w d).2.1
def PH (H : AL) (k : Int) (w : AH) (s : BB) (es : List Event) : AL := ({ H with w := w }.set k s).G6 es
inductive Step (U : Aq → Prop) (H : AL) : AL → Prop
 | told {k : Int} {u : Aq} : 0 ≤ k → k < 4 → (H.at_ k).state ≠ 0 → u ∈ Wa → Step U H (H.tell k u)
 | Bz {k : Int} : 0 ≤ k → k < 4 → (H.at_ k).state ≠ 0 → Step U H (H.set k (H.at_ k).Bz)
 | goes {k : Int} {w : AH} {s : BB} {es : List Event} : 0 ≤ k → k < 4 → GZ U H k w s es → Step U H (H.PH k w s es)
 | free {k : Int} : 0 ≤ k → k < 4 → ¬ ((H.at_ k).state = 2 ∧ (H.w.AV.at (H.at_ k).A8).here = true) → Step U H (H.set k default)
inductive Steps (U : Aq → Prop) (H : AL) : AL → Prop
 | refl : Steps U H H
 | tail {X Y : AL} : Steps U H X → Step U X Y → Steps U H Y
section
variable {U : Aq → Prop} {H X Y : AL}
theorem Step.one (h : Step U H X) : Steps U H X := .tail .refl h
theorem Steps.trans (h : Steps U H X) (k : Steps U X Y) : Steps U H Y := by
 induction k with
 | refl => exact h
 | tail _ s ih => exact ih.tail s
theorem Steps.KK {P : AL → Prop} (hs : ∀ {H X : AL}, P H → Step U H X → P X) (h : P H) (k : Steps U H X) : P X := by
 induction k with
 | refl => exact h
 | tail _ s ih => exact hs ih s
theorem SZ (H : AL) {k : Int} (h0 : 0 ≤ k) (h1 : k < 4) (w : AH) (s : BB) (es : List Event) {j : Int} (j0 : 0 ≤ j) (j1 : j < 4) : (H.PH k w s es).at_ j = (if j = k then s else H.at_ j).JG es := by
 unfold PH
 rw [W4 _ _ j0 j1, ID _ h0 h1 j0]
 rfl
theorem Rl (es : List Event) : (default : BB).JG es = default := if_neg (show ¬ (0 : Int) = 2 by decide)
theorem I1 (H : AL) {k : Int} (h0 : 0 ≤ k) (h1 : k < 4) : Steps U H (H.leave k) := by
 unfold AL.leave
 split
 ·rename_i c
  rw [Bool.and_eq_true, decide_eq_true_eq] at c
  have s : Step U H (H.PH k (AF.FY H.w (H.at_ k).A8 FM).1 default (AF.FY H.w (H.at_ k).A8 FM).2.1) := .goes h0 h1 (.left c.1 c.2)
  have e : (((H.SF k).set k default).G6 (AF.FY H.w (H.at_ k).A8 FM).2.1).set k default = H.PH k (AF.FY H.w (H.at_ k).A8 FM).1 default (AF.FY H.w (H.at_ k).A8 FM).2.1 := by
   show (H.PH k _ default _).set k default = _
   have := SZ H h0 h1 (AF.FY H.w (H.at_ k).A8 FM).1 default (AF.FY H.w (H.at_ k).A8 FM).2.1 h0 h1
   rw [if_pos rfl, Rl] at this
   have h2 := KM (H.PH k (AF.FY H.w (H.at_ k).A8 FM).1 default (AF.FY H.w (H.at_ k).A8 FM).2.1) h0 h1
   rw [this] at h2
   exact h2
  rw [e]
  exact s.one
 ·rename_i c
  exact (Step.free h0 h1 (fun h => c (by rw [Bool.and_eq_true, decide_eq_true_eq]; exact h))).one
theorem I2 (H : AL) : ∀ k : Nat, k ≤ 4 → Steps U H (H.DM k).1
 | 0, _ => .refl
 | k + 1, hk => by
  have ih := I2 H k (by omega)
  unfold DM
  split
  ·exact ih
  ·rename_i c
   have s : Step U (H.DM k).1 ((H.DM k).1.set k (((H.DM k).1.at_ k).Bz)) := .Bz (by omega) (by omega) (by simpa using c)
   split
   ·exact (ih.tail s).trans (I1 _ (by omega) (by omega))
   ·exact ih.tail s
theorem Lj : ∀ (n : Nat) (H : AL), Steps U H (H.IZ n)
 | 0, _ => .refl
 | n + 1, H => by
  unfold IZ
  split
  ·exact I2 H 4 (Nat.le_refl 4)
  ·exact (I2 H 4 (Nat.le_refl 4)).trans (Lj n _)
theorem R6 (H : AL) : Steps U H H.Bz := Lj 5 H
theorem QF (H : AL) {k : Int} (h0 : 0 ≤ k) (h1 : k < 4) (hs : (H.at_ k).state = 1) (u : Aq) : Steps U H (H.named k u) := by
 unfold AL.named
 split
 ·rename_i c
  exact (Step.goes h0 h1 (.Wk hs (of_decide_eq_true c))).one
 ·have hn : (H.at_ k).state ≠ 0 := by omega
  split
  ·exact (Step.told h0 h1 hn (by simp [Wa])).one
  ·exact (Step.told h0 h1 hn (by simp [Wa])).one
theorem Qp (H : AL) {k : Int} (h0 : 0 ≤ k) (h1 : k < 4) (hs : (H.at_ k).state ≠ 0) (h2 : (H.at_ k).state ≠ 1) {u : Aq} (hu : U u) : Steps U H (H.order k u) := by
 unfold AL.order
 split
 ·exact (Step.told h0 h1 hs (by simp [Wa])).one
 ·split
  ·exact I1 H h0 h1
  ·rename_i c
   have := (Step.goes (H := H) h0 h1 (.bW hu hs h2 (fun e => c (decide_eq_true e)))).one
   unfold PH at this
   rw [show ({ H with w := (AF.FY H.w (H.at_ k).A8 (Words.parse u).1).1 } : AL).set k (H.at_ k) = { H with w := (AF.FY H.w (H.at_ k).A8 (Words.parse u).1).1 } from KM { H with w := (AF.FY H.w (H.at_ k).A8 (Words.parse u).1).1 } h0 h1] at this
   exact this
theorem Qo (H : AL) (d : Int) : Steps U H ({ H with w := (AF.CY H.w d).1 }.G6 (AF.CY H.w d).2.1) := by
 have := (Step.goes (U := U) (H := H) (Int.le_refl 0) (by decide) (.round (d := d))).one
 unfold PH at this
 rw [show ({ H with w := (AF.CY H.w d).1 } : AL).set 0 (H.at_ 0) = { H with w := (AF.CY H.w d).1 } from KM { H with w := (AF.CY H.w d).1 } (Int.le_refl 0) (by decide)] at this
 exact this
def next (H : AL) (k : Int) (r : List Aq) : AL := H.set k { H.at_ k with queue := r }.FB
theorem SE (H : AL) {k : Int} (h0 : 0 ≤ k) (h1 : k < 4) (hU : ∀ q ∈ (H.at_ k).queue, U q) : (((H.at_ k).state = 0 ∨ (H.at_ k).queue = []) ∧ H.EO k = H) ∨ ∃ q r, (H.at_ k).state ≠ 0 ∧ (H.at_ k).queue = q :: r ∧ Steps U (H.next k r) (H.EO k) := by
 unfold AL.EO
 split
 ·rename_i c; exact .inl ⟨.inl (of_decide_eq_true c), rfl⟩
 ·rename_i c
  have c' : (H.at_ k).state ≠ 0 := fun e => c (decide_eq_true e)
  split
  ·rename_i e; exact .inl ⟨.inr e, rfl⟩
  ·rename_i q r e
   refine .inr ⟨q, r, c', e, ?_⟩
   have ha : (H.next k r).at_ k = { H.at_ k with queue := r }.FB := by unfold next; rw [ID _ h0 h1 h0, if_pos rfl]
   have hst : ((H.next k r).at_ k).state = (H.at_ k).state := by rw [ha]; rfl
   show Steps U (H.next k r) (if (H.at_ k).pg.CA = true then H.next k r else if decide ((H.at_ k).state = 1) = true then (H.next k r).named k (Words.Ol 32 (Words.QW 32 q)) else (H.next k r).order k q)
   split
   ·exact .refl
   ·split
    ·rename_i c2
     exact QF _ h0 h1 (by rw [hst]; exact of_decide_eq_true c2) _
    ·rename_i c2
     exact Qp _ h0 h1 (by rw [hst]; exact c') (by rw [hst]; exact fun e => c2 (decide_eq_true e)) (hU q (by rw [e]; exact List.mem_cons_self ..))
end
end AL
end Go.Ing
/- What a seat is behind every act: plain laws. -/
namespace Go.Ing
open Go
namespace Page
theorem Nh (ht : Int) : ∀ (l : List Aq) (x : Pg), x.ring.length ≤ 700 → 0 ≤ x.shown → x.shown ≤ 200 → (Bz ht l x).1.ring.length ≤ 700 ∧ 0 ≤ (Bz ht l x).1.shown ∧ (Bz ht l x).1.shown ≤ 200
 | [], x, h1, h2, h3 => ⟨h1, h2, h3⟩
 | s :: r, x, h1, h2, h3 => by
  unfold Bz
  split
  ·exact ⟨h1, h2, h3⟩
  ·split
   ·refine ⟨KR h1, ?_, ?_⟩ <;> rw [Ge]
    ·exact h2
    ·exact h3
   ·refine Nh ht r _ (KR h1) ?_ ?_ <;> rw [Ge]
    ·show 0 ≤ min (x.shown + 1) 200; omega
    ·show min (x.shown + 1) 200 ≤ 200; omega
end Page
namespace BB
structure Ok (s : BB) : Prop where
 st : 0 ≤ s.state ∧ s.state ≤ 2
 n : s.wait.length ≤ 60
 ring : s.pg.ring.length ≤ 700
 s0 : 0 ≤ s.pg.shown
 s1 : s.pg.shown ≤ 200
 ln : Bb.Ok ⟨s.now, s.Cj, s.ret, s.queue, 0⟩
theorem YS (s : BB) : s.MW = true ↔ s.wait.length ≤ 60 ∧ s.pg.ring.length ≤ 700 ∧ 0 ≤ s.pg.shown ∧ s.pg.shown ≤ 200 := by
 simp only [MW, Bool.and_eq_true, decide_eq_true_eq]; omega
theorem X6 (s : BB) : s.KL = true ↔ Bb.Ok ⟨s.now, s.Cj, s.ret, s.queue, 0⟩ :=
 Bb.Gx (l := ⟨s.now, s.Cj, s.ret, ⟨none, s.queue.length, 0⟩⟩) (qs := s.queue) rfl
variable {s : BB}
theorem Ok.MW (h : s.Ok) : s.MW = true := (YS s).2 ⟨h.n, h.ring, h.s0, h.s1⟩
theorem Ok.KL (h : s.Ok) : s.KL = true := (X6 s).2 h.ln
theorem HC : (default : BB).Ok := ⟨⟨Int.le_refl 0, by decide⟩, Nat.zero_le _, Nat.zero_le _, Int.le_refl 0, by decide, (⟨Bb.LU, (fun s hs => by cases hs), Nat.zero_le _, (fun h => by cases h)⟩ : Bb.Ok ⟨[], false, false, [], 0⟩)⟩
theorem Ok.line (h : s.Ok) (u : Aq) : (s.line u).Ok := by
 unfold BB.line
 split
 ·exact h
 ·split
  ·exact h
  ·split
   ·exact ⟨h.st, h.n, h.ring, h.s0, h.s1, h.ln⟩
   ·rename_i c
    refine ⟨h.st, ?_, h.ring, h.s0, h.s1, h.ln⟩
    have hn := h.n
    have c' : ¬ (60 : Int) ≤ s.wait.length := fun e => c (decide_eq_true e)
    show (s.wait ++ [u]).length ≤ 60
    rw [List.length_append, List.length_singleton]; omega
theorem Ok.tell (h : s.Ok) (u : Aq) : (s.tell u).Ok := by
 have := h.line u
 unfold BB.tell BB.note
 split
 ·exact ⟨this.st, this.n, this.ring, this.s0, this.s1, this.ln⟩
 ·exact this
theorem Ok.Bz (h : s.Ok) : s.Bz.Ok := by
 unfold BB.Bz
 split
 ·exact h
 ·have hk := Page.Nh s.EA.CV s.wait s.pg h.ring h.s0 h.s1
  exact ⟨h.st, Nat.le_trans (Page.Wt _ _ _) h.n, hk.1, hk.2.1, hk.2.2, h.ln⟩
theorem Ok.send (h : s.Ok) (u : Aq) : (s.send u).Ok := by
 unfold BB.send
 split
 ·exact h
 ·split
  ·exact h
  ·exact ⟨h.st, h.n, Page.KR h.ring, by show 0 ≤ (Page.put s.pg u).shown; rw [Page.Ge]; exact h.s0, by show (Page.put s.pg u).shown ≤ 200; rw [Page.Ge]; exact h.s1, h.ln⟩
theorem Ok.EA (h : s.Ok) (t : AN) : ({ s with EA := t } : BB).Ok := ⟨h.st, h.n, h.ring, h.s0, h.s1, h.ln⟩
theorem Ok.offer (h : s.Ok) (opt : Int) : (s.offer opt).Ok := by
 unfold BB.offer
 split
 ·exact (h.EA _).send _
 ·exact (h.EA _).send _
theorem Ok.LV (h : s.Ok) (n : Int) : (s.LV n).Ok := ⟨h.st, h.n, by show (s.pg.ring.drop _).length ≤ 700; rw [List.length_drop]; have := h.ring; omega, h.s0, h.s1, h.ln⟩
theorem Ok.next (h : s.Ok) {q : Aq} {r : List Aq} (e : s.queue = q :: r) : ({ s with queue := r } : BB).FB.Ok :=
 ⟨h.st, h.n, h.ring, Int.le_refl 0, show (0 : Int) ≤ 200 by decide, ⟨h.ln.now, fun x hx => h.ln.queue x (by show x ∈ s.queue; rw [e]; exact List.mem_cons_of_mem _ hx), by
  have := h.ln.len
  have h2 : s.queue.length ≤ 6 := this
  rw [e, List.length_cons] at h2
  show r.length ≤ 6; omega, h.ln.ret⟩⟩
theorem Ok.typed (h : s.Ok) (u : Aq) : (DP s u).1.Ok := by
 have h1 : (s.bytes u).1.Ok := (h.EA _).send _
 unfold DP BB.typed
 split
 ·exact h1
 ·have ho := Bb.Sj (s.bytes u).2 h1.ln
  exact ⟨h1.st, h1.n, h1.ring, h1.s0, h1.s1, ⟨ho.now, ho.queue, ho.len, ho.ret⟩⟩
theorem Ok.Wk (h : s.Ok) (b : Int) : ({ s with state := 2, A8 := b } : BB).Ok := ⟨⟨show (0 : Int) ≤ 2 by decide, show (2 : Int) ≤ 2 by decide⟩, h.n, h.ring, h.s0, h.s1, h.ln⟩
theorem Ok.Ce (h : s.Ok) (e : Event) : (s.Ce e).Ok := by
 unfold BB.Ce; split
 ·exact h.tell _
 ·exact h
theorem Se : ∀ (es : List Event) {s : BB}, s.Ok → (es.foldl BB.Ce s).Ok
 | [], _, h => h
 | e :: r, _, h => Se r (h.Ce e)
theorem Ok.JG (h : s.Ok) (es : List Event) : (s.JG es).Ok := by
 unfold BB.JG
 split
 ·exact Se es h
 ·exact h
theorem Ok.heard (h : s.Ok) : ({ s with told := [] } : BB).Ok := ⟨h.st, h.n, h.ring, h.s0, h.s1, h.ln⟩
theorem Qi (s : BB) (c : (decide (s.EA.CV < 0) || decide (200 < s.EA.CV)) = true) : s.Bz = s := by
 unfold BB.Bz
 rw [if_pos]
 rw [Bool.or_assoc, c, Bool.or_true]
end BB
namespace AL
def Ie (H : AL) : Prop := ∀ k, 0 ≤ k → k < 4 → (H.at_ k).Ok
section
variable {U : Aq → Prop} {H X : AL}
theorem Ie.set (h : H.Ie) {k : Int} (h0 : 0 ≤ k) (h1 : k < 4) {s : BB} (hs : s.Ok) : (H.set k s).Ie := fun j j0 j1 => by
 rw [ID _ h0 h1 j0]; split
 ·exact hs
 ·exact h j j0 j1
theorem Ie.step (h : H.Ie) (s : Step U H X) : X.Ie := by
 cases s with
 | told h0 h1 _ _ => exact h.set h0 h1 ((h _ h0 h1).tell _)
 | Bz h0 h1 _ => exact h.set h0 h1 (h _ h0 h1).Bz
 | free h0 h1 _ => exact h.set h0 h1 BB.HC
 | goes h0 h1 g =>
  intro j j0 j1
  rw [SZ H h0 h1 _ _ _ j0 j1]
  refine BB.Ok.JG ?_ _
  split
  ·cases g with
   | left _ _ => exact BB.HC
   | Wk _ _ => exact (h _ h0 h1).Wk _
   | bW _ _ _ _ => exact h _ h0 h1
   | round => exact h _ (Int.le_refl 0) (by decide)
  ·exact h j j0 j1
theorem Ie.steps (h : H.Ie) (s : Steps U H X) : X.Ie := Steps.KK (P := Ie) (fun h s => h.step s) h s
/-! #### nobody is cut off behind all that flows -/
end
end AL
end Go.Ing
/- Acts that are played: plain laws. -/
namespace Go.Ing
open Go
namespace AN
def F9 (t : AN) : Nat := if t.at_ = 2 then 2 else if t.at_ = 1 then 1 else 0
theorem UA (t : AN) (b : UInt8) : (t.step b).2.2.length + (t.step b).1.F9 ≤ 1 + t.F9 := by
 unfold step; dsimp only
 split
 ·rename_i c; have c' := of_decide_eq_true c
  have hp : t.F9 = 0 := by unfold F9; rw [if_neg (by omega), if_neg (by omega)]
  split
  ·exact Nat.le_add_right 1 _
  ·show 0 + t.F9 ≤ 1 + t.F9; omega
 ·split
  ·rename_i c; have c' := of_decide_eq_true c
   have hp : t.F9 = 1 := by unfold F9; rw [if_neg (by omega), if_pos c']
   rw [hp]
   split
   ·exact Nat.zero_le _
   ·split
    ·exact Nat.zero_le _
    ·split
     ·exact Nat.le_refl 2
     ·exact Nat.zero_le _
  ·split
   ·rename_i c; have c' := of_decide_eq_true c
    have hp : t.F9 = 2 := by unfold F9; rw [if_pos c']
    rw [hp]
    exact HW _ _ _
   ·split
    ·rename_i c; have c' := of_decide_eq_true c
     split
     ·exact Nat.zero_le _
     ·show 0 + (t.collect b).F9 ≤ _
      have : (t.collect b).at_ = t.at_ := by unfold collect; split <;> rfl
      unfold F9; rw [this]; rw [if_neg (by omega), if_neg (by omega)]; omega
    ·split
     ·rename_i c; have c' := of_decide_eq_true c
      split
      ·show 0 + (collect { t with at_ := 3 } b).F9 ≤ _
       have : (collect { t with at_ := 3 } b).at_ = 3 := by unfold collect; split <;> rfl
       unfold F9; rw [this]; rw [if_neg (by decide), if_neg (by decide)]; omega
      ·split
       ·show 0 + F9 { t.measure with at_ := 0, sub := [] } ≤ _; exact Nat.zero_le _
       ·exact Nat.zero_le _
     ·show 0 + t.F9 ≤ _; omega
theorem LX : ∀ (s : Aq) (t : AN), (t.feed s).2.2.length ≤ s.length + t.F9
 | [], t => Nat.zero_le _
 | b :: s, t => by
  have h1 := UA t b
  have h2 := LX s (t.step b).1
  show ((t.step b).2.2 ++ ((t.step b).1.feed s).2.2).length ≤ s.length + 1 + t.F9
  rw [List.length_append]; omega
theorem S1 (t : AN) : t.F9 ≤ 2 := by unfold F9; split; exact Nat.le_refl 2; split <;> decide
theorem Ip.yb {X t : AN} {u x y : Aq} {k : Int} (h : Ip X u k t x y) : y.length ≤ u.length + 2 := by
 have h1 := LX u X
 have h2 := S1 X
 rw [h.e3, List.length_append] at h1
 omega
theorem UM (t : AN) (u : Aq) : (t.DK u).2.2.1.length ≤ u.length + 2 := by
 unfold DK
 split
 ·exact Nat.zero_le _
 ·have h1 := LX u t
  have h2 := S1 t
  show (t.feed u).2.2.length ≤ _
  omega
end AN
namespace AL
section
variable {H : AL}
theorem Ie.tell (h : H.Ie) {k : Int} (h0 : 0 ≤ k) (h1 : k < 4) (u : Aq) : (H.tell k u).Ie := h.set h0 h1 ((h k h0 h1).tell u)
theorem Ie.Bz (h : H.Ie) : H.Bz.Ie := h.steps (U := fun _ => True) (R6 H)
theorem Ie.EO (h : H.Ie) {k : Int} (h0 : 0 ≤ k) (h1 : k < 4) : (H.EO k).Ie := by
 rcases SE (U := fun _ => True) H h0 h1 (fun _ _ => trivial) with ⟨_, e⟩ | ⟨q, r, _, e, s⟩
 ·rw [e]; exact h
 ·exact Ie.steps (h.set h0 h1 ((h k h0 h1).next e)) s
theorem Ie.turns (h : H.Ie) : ∀ k : Nat, k ≤ 4 → (H.turns k).Ie
 | 0, _ => h
 | k + 1, hk => (Ie.turns h k (by omega)).EO (by omega) (by omega)
theorem Ie.begun (h : H.Ie) : H.begun.Ie := fun k h0 h1 => by rw [Qm h0 h1]; exact (h k h0 h1).heard
theorem Ie.ES (h : H.Ie) (a : Br) : (H.ES a).1.Ie :=
 KG (fun X => X.Ie) h (fun d => ((h.turns 4 (Nat.le_refl 4)).steps (U := fun _ => True) (Qo _ d)).Bz)
  (fun k h0 h1 => ((h.set h0 h1 (((show ({ (default : BB) with state := 1, A8 := -1 } : BB).Ok from ⟨⟨show (0 : Int) ≤ 1 by decide, show (1 : Int) ≤ 2 by decide⟩, BB.HC.n, BB.HC.ring, BB.HC.s0, BB.HC.s1, BB.HC.ln⟩).offer 3).offer 31)).tell h0 h1 HQ).Bz)
  (fun k u h0 h1 => by
   rw [KW]
   refine Ie.Bz ?_
   have hs := h.set h0 h1 ((h k h0 h1).typed u)
   split
   ·exact hs.tell h0 h1 Qd
   ·exact hs)
  (fun k z h0 h1 => (h.set h0 h1 ((h k h0 h1).LV z)).Bz) (fun k h0 h1 => (h.steps (U := fun _ => True) (I1 H h0 h1)).Bz) a
theorem Ie.act (h : H.Ie) (a : Br) : (H.act a).1.Ie := by
 unfold AL.act
 split
 ·exact h
 ·exact h.begun.ES a
end
structure Live (H : AL) : Prop where
 fit : H.Fit 1000 1000
 Cs : 0 ≤ H.Cs
 aG : H.Ie
theorem Live.fits {H : AL} (h : H.Live) : H.Fits := ⟨_, _, h.fit⟩
theorem W6 : AL.new.Ie := fun k h0 h1 => by rw [Uu h0 h1]; exact BB.HC
theorem Q4 : AL.new.Live := ⟨Wr.mono (by decide) (by decide), Int.le_refl 0, W6⟩
section
variable {H X : AL}
theorem Mq (e : Event) (H : AL) : ∀ k : Nat, (Ce e H k).Cs = H.Cs
 | 0 => rfl
 | k + 1 => by
  have ih := Mq e H k
  rw [Ce.eq_2]
  split
  ·exact ih
  ·split <;> exact ih
theorem MS : ∀ (es : List Event) (H : AL), (H.IV es).Cs = H.Cs
 | [], _ => rfl
 | e :: r, H => (MS r _).trans (Mq e H 4)
theorem JO (H : AL) (es : List Event) : (H.G6 es).Cs = H.Cs := MS es _
theorem J0 (H : AL) (k : Int) : (H.leave k).Cs = H.Cs := by
 unfold AL.leave
 split
 ·exact JO _ _
 ·rfl
theorem KC (H : AL) : ∀ k : Nat, (H.DM k).1.Cs = H.Cs
 | 0 => rfl
 | k + 1 => by
  have ih := KC H k
  unfold DM
  split
  ·exact ih
  ·split
   ·exact (J0 _ _).trans ih
   ·exact ih
theorem NA : ∀ (n : Nat) (H : AL), (H.IZ n).Cs = H.Cs
 | 0, _ => rfl
 | n + 1, H => by
  unfold IZ
  split
  ·exact KC H 4
  ·exact (NA n _).trans (KC H 4)
theorem Hh (H : AL) : H.Bz.Cs = H.Cs := NA 5 H
theorem RQ (H : AL) (k : Int) : (H.EO k).Cs = H.Cs := by
 unfold AL.EO
 split
 ·rfl
 ·split
  ·rfl
  ·dsimp only
   split
   ·rfl
   ·split
    ·unfold AL.named
     split
     ·exact JO _ _
     ·split <;> rfl
    ·unfold AL.order
     split
     ·rfl
     ·split
      ·exact J0 _ _
      ·exact JO _ _
theorem NK (H : AL) : ∀ k : Nat, (H.turns k).Cs = H.Cs
 | 0 => rfl
 | k + 1 => (RQ _ _).trans (NK H k)
theorem TM (X : AL) (a : Br) : (X.ES a).1.Cs = X.Cs :=
 KG (fun Y => Y.Cs = X.Cs) rfl (fun d => (Hh _).trans ((JO _ _).trans (NK X 4))) (fun k _ _ => Hh _) (fun k u _ _ => by rw [KW, Hh]; split <;> rfl) (fun k z _ _ => Hh _) (fun k _ _ => (Hh _).trans (J0 _ _)) a
theorem RZ (H : AL) : H.begun.Cs = H.Cs + 1 := (IH (H := { H with Cs := H.Cs + 1, last := [] }) 4).2.2
theorem Vz (H : AL) (a : Br) : (H.act a).1.Cs = if 400 ≤ H.Cs then H.Cs else H.Cs + 1 := by
 unfold AL.act
 by_cases c : 400 ≤ H.Cs
 ·rw [if_pos (decide_eq_true c), if_pos c]
 ·rw [if_neg (fun e => c (of_decide_eq_true e)), if_neg c]
  exact (TM _ _).trans (RZ H)
theorem Live.act (h : H.Live) (a : Br) : (H.act a).1.Live := ⟨by
 unfold AL.act
 split
 ·exact h.fit
 ·exact (h.fit.begun).ES a, by rw [Vz]; have := h.Cs; split <;> omega, h.aG.act a⟩
theorem Live.run : ∀ (l : List Br) {H : AL}, H.Live → (H.run l).1.Live
 | [], _, h => h
 | a :: r, _, h => Live.run r (h.act a)
end
theorem WG {xs : List Br} {k : Int} (h0 : 0 ≤ k) (h1 : k < xs.length) (H : AL) : (H.run (xs.take (k + 1).toNat)).1 = ((H.run (xs.take k.toNat)).1.act (xs.getD k.toNat default)).1 := by rw [Q1 h0 h1]
/-! #### does a house answer at all? -/
def Oq : Br := ⟨1, 2, 0, []⟩
def type2 : Br := ⟨2, 2, 0, [97, 110, 110, 13, 10]⟩
def SO : Br := ⟨5, 0, 0, []⟩
theorem ba : AL.new.Live := Q4
theorem bT : (AL.new.act Oq).1.Live := ba.act _
theorem bU : ((AL.new.act Oq).1.act type2).1.Live := bT.act _
def Z9 : AL := (((AL.new.act Oq).1.act type2).1.act SO).1
theorem U3 : Z9.Live := bU.act _
theorem bB : (AL.new.act Oq).2.code = 0 := by kernel_rfl
theorem aW : (((AL.new.act Oq).1.act type2).1.act SO).2.code = 0 := by kernel_rfl
theorem ab : Z9.IP 2 = (2, 2) := by kernel_rfl
theorem aS : decide (2 < ((Z9.at_ 2).told.length : Int)) = true := by kernel_rfl
theorem Live.told {V : AM} {ls : Vector BG 4} {ev : List Event} (h : (A3 V ls ev).Live) {k : Int} (h0 : 0 ≤ k) (h1 : k < 4) : (ls.at k).told.length ≤ 1000000 := by
 have := h.fit.told k h0 h1
 rw [Cc _ _ _ h0 h1] at this
 exact Nat.le_trans this (by decide)
theorem Live.wait {V : AM} {ls : Vector BG 4} {ev : List Event} (h : (A3 V ls ev).Live) {k : Int} (h0 : 0 ≤ k) (h1 : k < 4) : (ls.at k).wait.length ≤ 1000000 := by
 have := (h.aG k h0 h1).n
 rw [Cc _ _ _ h0 h1] at this
 exact Nat.le_trans this (by decide)
theorem Live.queue {V : AM} {ls : Vector BG 4} {ev : List Event} (h : (A3 V ls ev).Live) {k : Int} (h0 : 0 ≤ k) (h1 : k < 4) : (ls.at k).queue.length ≤ 1000000 := by
 have := (h.aG k h0 h1).ln.len
 rw [Cc _ _ _ h0 h1] at this
 exact Nat.le_trans this (by decide)
theorem Live.last {V : AM} {ls : Vector BG 4} {ev : List Event} (h : (A3 V ls ev).Live) : ev.length ≤ 1000000 := Nat.le_trans h.fit.last (by decide)
/-! #### do two houses stand alike? -/
def Xw (s t : BB) : Bool := decide (s.wait = t.wait) && decide (s.pg.shown = t.pg.shown) && (s.pg.CA == t.pg.CA) && decide (s.pg.ring = t.pg.ring) && (s.pg.cut == t.pg.cut)
def Yc (s t : BB) : Bool := decide (s.now = t.now) && (s.Cj == t.Cj) && (s.ret == t.ret) && decide (s.queue = t.queue)
def sameAt (H K : AL) (k : Int) : Bool := !(!decide ((H.IP k).1 = (K.IP k).1) || !decide ((H.IP k).2 = (K.IP k).2) || !Xw (H.at_ k) (K.at_ k) || !Yc (H.at_ k) (K.at_ k))
def same (H K : AL) : Bool := B5 4 (sameAt H K) 4 && decide (H.w = K.w)
end AL
end Go.Ing
/- An act that is refused, and acts behind the last: plain laws. -/
namespace Go.Ing
open Go
theorem XF {α : Type} (a b c : α) : [a, b, c].Perm [c, b, a] := List.reverse_perm [c, b, a]
namespace AL
def zero : Br := ⟨0, 0, 0, []⟩
end AL
end Go.Ing
/- The replies to acts: plain laws. -/
namespace Go.Ing
open Go
namespace AL
theorem Tj {xs : List Br} {k : Int} (h0 : 0 ≤ k) (h1 : k < xs.length) (H : AL) : (H.run (xs.take (k + 1).toNat)).2 = (H.run (xs.take k.toNat)).2 ++ [((H.run (xs.take k.toNat)).1.act (xs.getD k.toNat default)).2] := by rw [Q1 h0 h1]
theorem UF {xs : List Br} {K i : Int} (h0 : 0 ≤ i) (h1 : i < K) (h2 : K ≤ xs.length) (H : AL) : (H.run ((xs.take K.toNat).drop 0)).2.getD i.toNat default = (H.run xs).2.getD i.toNat default := by
 rw [List.drop_zero, Q0]
 rw [List.getD_eq_getElem?_getD, List.getD_eq_getElem?_getD, List.getElem?_take, if_pos (by omega)]
theorem U1 {xs : List Br} {K : Nat} {a : Br} (h : a ∈ (xs.take K).drop 0) : a ∈ xs := List.mem_of_mem_take (List.mem_of_mem_drop h)
theorem QJ {xs : List Br} {K : Int} (h0 : 0 ≤ K) (h2 : K ≤ xs.length) : ((xs.take K.toNat).drop 0).length = K.toNat := by
 rw [List.drop_zero, List.length_take]; omega
theorem Wz (k : Int) {n : Nat} : 0 ≤ (k.tmod ((n : Int) + 1) + (n : Int) + 1).tmod ((n : Int) + 1) ∧ (k.tmod ((n : Int) + 1) + (n : Int) + 1).tmod ((n : Int) + 1) ≤ (n : Int) ∧ -((n : Int)) ≤ k.tmod ((n : Int) + 1) ∧ k.tmod ((n : Int) + 1) ≤ (n : Int) := by
 have hn : (0 : Int) < (n : Int) + 1 := by omega
 have h1 := Int.tmod_lt_of_pos k hn
 have h2 := Int.tmod_lt_of_pos (-k) hn
 rw [Int.neg_tmod] at h2
 have h3 : 0 ≤ k.tmod ((n : Int) + 1) + (n : Int) + 1 := by omega
 have h4 := Int.tmod_nonneg (a := k.tmod ((n : Int) + 1) + (n : Int) + 1) ((n : Int) + 1) h3
 have h5 := Int.tmod_lt_of_pos (k.tmod ((n : Int) + 1) + (n : Int) + 1) hn
 exact ⟨h4, by omega, by omega, by omega⟩
end AL
end Go.Ing
