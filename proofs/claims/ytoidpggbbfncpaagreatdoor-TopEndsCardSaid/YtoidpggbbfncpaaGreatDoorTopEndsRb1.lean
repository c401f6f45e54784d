/- What the functions that the law of this seat reaches compute, and the plain laws of it. No condition. -/
import Derived.Test.YtoidpggbbfncpaaGreatDoorTopEndsEc3
import Derived.Test.YtoidpggbbfncpaaGreatDoorTopEndsRa1
set_option linter.unusedSimpArgs false
set_option linter.unusedVariables false
/- What people type: plain functions, and what is known of pieces. -/
namespace Go.Ing
open Go
namespace Words
theorem Ke (c : UInt8) : ∀ s : As, (Lib.indexByte s c = -1 ∧ c ∉ s) ∨ ∃ i : Nat, Lib.indexByte s c = i ∧ i < s.length ∧ c ∉ s.take i ∧ s.drop i = c :: s.drop (i + 1)
 | [] => .inl ⟨rfl, by simp⟩
 | b :: r => by
  by_cases h : b = c
  ·subst h
   exact .inr ⟨0, by simp [Lib.indexByte], by simp, by simp, by simp⟩
  ·have hb : (b == c) = false := by simpa using h
   rcases Ke c r with ⟨h1, h2⟩ | ⟨i, h1, h2, h3, h4⟩
   ·exact .inl ⟨by simp [Lib.indexByte, hb, h1], by simp [Ne.symm h, h2]⟩
   ·refine .inr ⟨i + 1, ?_, by simp; omega, ?_, by simpa using h4⟩
    ·have : ((i : Int) == -1) = false := by simp
     simp [Lib.indexByte, hb, h1, this]
    ·simp [Ne.symm h, h3]
def pieces (c : UInt8) : As → List As
 | [] => [[]]
 | x :: r => if x = c then [] :: pieces c r else (x :: (pieces c r).headD []) :: (pieces c r).tail
theorem PE (c : UInt8) (s : As) : pieces c s ≠ [] := by
 cases s with
 | nil => simp [pieces]
 | cons x r => unfold pieces; split <;> simp
theorem Jz {c : UInt8} : ∀ {s : As}, c ∉ s → pieces c s = [s]
 | [], _ => rfl
 | x :: r, h => by
  simp only [List.mem_cons, not_or] at h
  rw [pieces, if_neg (Ne.symm h.1), Jz h.2]; rfl
theorem LF {c : UInt8} (r : As) : ∀ {a : As}, c ∉ a → pieces c (a ++ c :: r) = a :: pieces c r
 | [], _ => by simp [pieces]
 | x :: a, h => by
  simp only [List.mem_cons, not_or] at h
  rw [List.cons_append, pieces, if_neg (Ne.symm h.1), LF r h.2]; rfl
theorem E7 (c : UInt8) : ∀ s : As, (pieces c s).length = s.count c + 1
 | [] => rfl
 | x :: r => by
  unfold pieces
  have ih := E7 c r
  have hne := PE c r
  split
  ·rename_i h; simp [h, ih]
  ·rename_i h
   have : (x == c) = false := by simpa using h
   rw [List.count_cons, this]
   obtain ⟨p, q, hp⟩ := List.exists_cons_of_ne_nil hne
   rw [hp] at ih ⊢
   simpa using ih
theorem R2 {c : UInt8} {s : As} {i : Nat} (h3 : c ∉ s.take i) (h4 : s.drop i = c :: s.drop (i + 1)) : pieces c s = s.take i :: pieces c (s.drop (i + 1)) := by
 conv => lhs; rw [← List.take_append_drop i s, h4]
 exact LF _ h3
/-! #### small letters -/
def Tv (c : UInt8) : UInt8 := if (decide (65 ≤ (c.toNat : Int)) && decide ((c.toNat : Int) ≤ 90)) = true then u8 ((c.toNat : Int) + 97 - 65) else c
def low (w : As) : As := w.map Tv
def words (s : As) : List As := ((pieces 32 s).filter fun w => !decide (w = [])).map low
theorem XD {c : UInt8} (h : (decide (65 ≤ (c.toNat : Int)) && decide ((c.toNat : Int) ≤ 90)) = true) : u8 ((c.toNat : Int) + 97 - 65) = Tv c := (if_pos h).symm
theorem XX {c : UInt8} (h : (decide (65 ≤ (c.toNat : Int)) && decide ((c.toNat : Int) ≤ 90)) = false) : Tv c = c := if_neg (by rw [h]; decide)
def HE (w : As) (k : Nat) : As := (w.take k).map Tv ++ w.drop k
theorem NX (w : As) (k : Nat) : (HE w k).length = w.length := by simp [HE]; omega
theorem TW {w : As} {k : Int} (h0 : 0 ≤ k) (h1 : k < w.length) : (HE w k.toNat).getD k.toNat 0 = w.getD k.toNat 0 := by
 have hk : k.toNat < w.length := by omega
 unfold HE
 rw [List.getD_eq_getElem?_getD, List.getElem?_append_right (by simp; omega)]
 simp [List.getD_eq_getElem?_getD, Nat.min_eq_left (Nat.le_of_lt hk)]
theorem Vr (w : As) : HE w w.length = low w := by simp [HE, low]
theorem RC {w : As} {k : Int} (h0 : 0 ≤ k) (h1 : k < w.length) : (HE w k.toNat).set k.toNat (Tv (w.getD k.toNat 0)) = HE w (k + 1).toNat := by
 obtain ⟨n, rfl⟩ := Int.eq_ofNat_of_zero_le h0
 have hn : n < w.length := by omega
 rw [show ((n : Int)).toNat = n by omega, show ((n : Int) + 1).toNat = n + 1 by omega]
 unfold HE
 rw [List.drop_eq_getElem_cons hn, List.set_append_right _ _ (by simp; omega)]
 simp only [List.length_map, List.length_take, Nat.min_eq_left (Nat.le_of_lt hn), Nat.sub_self, List.set_cons_zero]
 rw [List.take_add_one, List.map_append, List.append_assoc]
 simp [List.getD_eq_getElem?_getD, hn]
theorem Uv {w : As} {k : Int} (h0 : 0 ≤ k) (h1 : k < w.length) (h : Tv (w.getD k.toNat 0) = w.getD k.toNat 0) : HE w k.toNat = HE w (k + 1).toNat := by
 rw [← RC h0 h1, h]
 have hk : k.toNat < (HE w k.toNat).length := by rw [NX]; omega
 have e := TW h0 h1
 rw [← e, List.getD_eq_getElem?_getD, List.getElem?_eq_getElem hk]
 simp
structure OG (c : UInt8) (s : As) (i : Int) (r : As) (xs : List As) : Prop where
 i0 : 0 ≤ i
 i1 : i ≤ s.count c
 len : xs.length = s.count c + 1
 eq : pieces c s = xs.take i.toNat ++ pieces c r
 rl : r.length ≤ s.length
theorem OG.start (c : UInt8) (s : As) (n : Nat) (hn : n = s.count c + 1) : OG c s 0 s (List.replicate n []) :=
 ⟨Int.le_refl _, by omega, by simp [hn], by simp, Nat.le_refl _⟩
theorem OG.left {c : UInt8} {s : As} {i : Int} {r : As} {xs : List As} (h : OG c s i r xs) : (r.count c : Int) = s.count c - i := by
 have := congrArg List.length h.eq
 rw [List.length_append, E7, E7, List.length_take, h.len] at this
 have h1 := h.i0; have h2 := h.i1
 omega
theorem OG.next {c : UInt8} {s : As} {i : Int} {r : As} {xs : List As} (h : OG c s i r xs) {m : Int} (hm : Lib.indexByte r c = m) (h0 : ¬ m < 0) : 0 ≤ m ∧ m < r.length ∧ OG c s (i + 1) (r.drop (m + 1).toNat) (xs.set i.toNat (r.take m.toNat)) := by
 have hi := h.i0
 rcases Ke c r with ⟨e, _⟩ | ⟨j, e, h1, h2, h3⟩
 ·omega
 ·obtain rfl : m = j := by omega
  have hl := h.left
  have hp := R2 h2 h3
  have hc : (pieces c r).length = (pieces c (r.drop (j + 1))).length + 1 := by rw [hp]; simp
  rw [E7, E7] at hc
  have hx := h.len
  refine ⟨by omega, by omega, by omega, by omega, by simp [hx], ?_, by simp; have := h.rl; omega⟩
  rw [h.eq, hp, show (i + 1).toNat = i.toNat + 1 by omega, show ((j : Int) + 1).toNat = j + 1 by omega, show ((j : Int)).toNat = j by omega, List.take_add_one, List.getElem?_set_self (by omega), List.take_set_of_le (by omega)]
  simp
theorem OG.done {c : UInt8} {s : As} {i : Int} {r : As} {xs : List As} (h : OG c s i r xs) (he : ¬ i < (s.count c : Int) ∨ Lib.indexByte r c < 0) : i = s.count c ∧ (xs.set i.toNat r).take (i + 1).toNat = pieces c s := by
 have hi := h.i0; have hi1 := h.i1; have hl := h.left; have hx := h.len
 have hc : c ∉ r := by
  rcases he with he | he
  ·intro hm; have := List.count_pos_iff.2 hm; omega
  ·rcases Ke c r with ⟨_, h2⟩ | ⟨j, e, _⟩
   ·exact h2
   ·omega
 have h0 : r.count c = 0 := List.count_eq_zero.2 hc
 refine ⟨by omega, ?_⟩
 rw [h.eq, Jz hc, show (i + 1).toNat = i.toNat + 1 by omega, List.take_add_one, List.getElem?_set_self (by omega), List.take_set_of_le (by omega)]
 rfl
theorem Hn {c : UInt8} : ∀ {s : As} {p : As}, p ∈ pieces c s → p.length ≤ s.length
 | [], p, h => by simp [pieces] at h; simp [h]
 | x :: r, p, h => by
  unfold pieces at h
  obtain ⟨q, t, hq⟩ := List.exists_cons_of_ne_nil (PE c r)
  have ih := @Hn c r
  rw [hq] at h ih
  split at h
  ·rcases List.mem_cons.1 h with h | h
   ·simp [h]
   ·have := ih h; simp; omega
  ·simp only [List.headD_cons, List.tail_cons] at h
   rcases List.mem_cons.1 h with h | h
   ·have := ih (p := q) (by simp); rw [h]; simp; omega
   ·have := ih (p := p) (by simp [h]); simp; omega
theorem Tn {c : UInt8} {s : As} (i : Nat) : ((pieces c s).getD i []).length ≤ s.length := by
 rw [List.getD_eq_getElem?_getD]
 cases h : (pieces c s)[i]? with
 | none => simp
 | some p => exact Hn (List.mem_of_getElem? h)
def Ic (s : As) (k : Nat) : List As := (((pieces 32 s).take k).filter fun w => !decide (w = [])).map low
theorem Nb (s : As) : words s = Ic s ((pieces 32 s).length : Int).toNat := by
 rw [Ic, show ((pieces 32 s).length : Int).toNat = (pieces 32 s).length by omega, List.take_length]; rfl
theorem O2 {α : Type} {xs : List α} {d : α} {k : Int} (h0 : 0 ≤ k) (h1 : k < xs.length) : xs.take (k + 1).toNat = xs.take k.toNat ++ [xs.getD k.toNat d] := by
 have hk : k.toNat < xs.length := by omega
 rw [show (k + 1).toNat = k.toNat + 1 by omega, List.take_add_one, List.getD_eq_getElem?_getD, List.getElem?_eq_getElem hk]
 rfl
theorem WS {s : As} {k : Int} (h0 : 0 ≤ k) (h1 : k < (pieces 32 s).length) (h : (!decide ((pieces 32 s).getD k.toNat [] = [])) = true) : Ic s (k + 1).toNat = Ic s k.toNat ++ [low ((pieces 32 s).getD k.toNat [])] := by
 unfold Ic
 rw [O2 (d := []) h0 h1, List.filter_append, List.map_append]
 congr 1
 rw [List.filter_cons_of_pos (p := fun w : As => !decide (w = [])) h]; rfl
theorem VD {s : As} {k : Int} (h0 : 0 ≤ k) (h1 : k < (pieces 32 s).length) (h : (!decide ((pieces 32 s).getD k.toNat [] = [])) = false) : Ic s (k + 1).toNat = Ic s k.toNat := by
 unfold Ic
 rw [O2 (d := []) h0 h1, List.filter_append, List.map_append, List.filter_cons_of_neg (p := fun w : As => !decide (w = [])) (by rw [h]; decide)]
 simp
/-! #### verbs -/
def pre (s p : As) : Bool := decide ((p.length : Int) ≤ (s.length : Int)) && decide (s.take p.length = p)
def I5 (w : As) : Nat → Int × Int
 | 0 => (0, 3)
 | n + 1 => if pre (AH.GB.getD (20 - n) []) w = true then (((20 - n : Nat) : Int), 0) else I5 w n
def verb (w : As) : Int × Int := if (!decide (w = [])) = true then I5 w 21 else (0, 3)
theorem Sf {w : As} {k : Int} (h0 : 0 ≤ k) (h1 : k < 21) : I5 w (21 - k).toNat = if pre (AH.GB.getD k.toNat []) w = true then (k, 0) else I5 w (21 - (k + 1)).toNat := by
 rw [show (21 - k).toNat = (21 - (k + 1)).toNat + 1 by omega, I5, show 20 - (21 - (k + 1)).toNat = k.toNat by omega, show ((k.toNat : Nat) : Int) = k by omega]
def Yx : Vector As 21 := ⟨AH.GB.toArray, rfl⟩
theorem Rp : B7 A4 Yx = AH.C4 := by kernel_rfl
/-! #### cutting and trimming -/
def MQ (s p : As) : As × Bool := if (!pre s p) = true then (s, false) else (s.drop p.length, true)
def cut (c : UInt8) (s : As) : As × As × Bool := if decide (0 ≤ Lib.indexByte s c) = true then (s.take (Lib.indexByte s c).toNat, s.drop (Lib.indexByte s c + 1).toNat, true) else (s, [], false)
theorem Y3 {c : UInt8} {s : As} (h : 0 ≤ Lib.indexByte s c) : Lib.indexByte s c < s.length := by
 rcases Ke c s with ⟨e, _⟩ | ⟨i, e, h1, _⟩ <;> omega
theorem Mf (c : UInt8) (s : As) : (cut c s).1.length ≤ s.length ∧ (cut c s).2.1.length ≤ s.length := by
 unfold cut; split <;> simp; omega
def O6 (c : UInt8) (s : As) : As := s.dropWhile (·== c)
def Q4 (c : UInt8) (s : As) : As := (s.reverse.dropWhile (·== c)).reverse
theorem YB {x c : UInt8} (h : (x.toNat : Int) = (c.toNat : Int)) : x = c := UInt8.toNat_inj.1 (by omega)
theorem Z1 {c : UInt8} {r : As} (h : (decide ((0 : Int) < (r.length : Int)) && decide (((r.getD (0 : Int).toNat 0).toNat : Int) = (c.toNat : Int))) = true) : O6 c r = O6 c (r.drop 1) := by
 cases r with
 | nil => simp at h
 | cons x r =>
  simp only [Bool.and_eq_true, decide_eq_true_eq] at h
  have : x = c := YB h.2
  subst this
  simp [O6]
theorem ZK {c : UInt8} {r : As} (h : (decide ((0 : Int) < (r.length : Int)) && decide (((r.getD (0 : Int).toNat 0).toNat : Int) = (c.toNat : Int))) = false) : O6 c r = r := by
 cases r with
 | nil => rfl
 | cons x r =>
  have hx : (x == c) = false := by
   rw [Bool.eq_false_iff]
   intro e
   have : x = c := by simpa using e
   subst this
   simp at h
  simp [O6, hx]
theorem aN {c : UInt8} {r : As} (h : (decide ((0 : Int) < (r.length : Int)) && decide (((r.getD ((r.length : Int) - 1).toNat 0).toNat : Int) = (c.toNat : Int))) = true) : Q4 c r = Q4 c (r.take ((r.length : Int) - 1).toNat) := by
 simp only [Bool.and_eq_true, decide_eq_true_eq] at h
 have hne : r ≠ [] := by rintro rfl; simp at h
 obtain ⟨q, x, rfl⟩ : ∃ q x, r = q ++ [x] := ⟨r.dropLast, r.getLast hne, (List.dropLast_concat_getLast hne).symm⟩
 have e : (((q ++ [x]).length : Int) - 1).toNat = q.length := by simp
 rw [e] at h ⊢
 have : x = c := YB (by simpa [List.getD_eq_getElem?_getD] using h.2)
 subst this
 simp [Q4]
theorem aD {c : UInt8} {r : As} (h : (decide ((0 : Int) < (r.length : Int)) && decide (((r.getD ((r.length : Int) - 1).toNat 0).toNat : Int) = (c.toNat : Int))) = false) : Q4 c r = r := by
 by_cases hne : r = []
 ·subst hne; rfl
 ·obtain ⟨q, x, rfl⟩ : ∃ q x, r = q ++ [x] := ⟨r.dropLast, r.getLast hne, (List.dropLast_concat_getLast hne).symm⟩
  have e : (((q ++ [x]).length : Int) - 1).toNat = q.length := by simp
  rw [e] at h
  have hx : (x == c) = false := by
   rw [Bool.eq_false_iff]
   intro e
   have : x = c := by simpa using e
   subst this
   simp [List.getD_eq_getElem?_getD] at h
  simp [Q4, hx]
theorem Kl (c : UInt8) (s : As) : (O6 c s).length ≤ s.length := (List.dropWhile_sublist _).length_le
theorem QU (c : UInt8) (s : As) : (Q4 c s).length ≤ s.length := by
 have := (List.dropWhile_sublist (l := s.reverse) (·== c)).length_le
 simpa [Q4] using this
/-! #### the rest of an order -/
def many (z : Int) : Bool := decide (z = 7) || decide (z = 8) || decide (z = 9)
def Mu (z : Int) : As × Bool := if decide (z = 7) = true then ([102, 114, 111, 109], false) else if decide (z = 9) = true then ([105, 110], true) else if decide (z = 10) = true then ([116, 111], true) else ([], false)
def Nd (s : As) : Nat → Int × Bool
 | 0 => (0, false)
 | n + 1 => if decide (AH.GB.getD (5 - n) [] = s) = true then (((5 - n : Nat) : Int), true) else Nd s n
def dir (s : As) : Int × Bool := Nd s 6
theorem UP {s : As} {k : Int} (h0 : 0 ≤ k) (h1 : k < 6) : Nd s (6 - k).toNat = if decide (AH.GB.getD k.toNat [] = s) = true then (k, true) else Nd s (6 - (k + 1)).toNat := by
 rw [show (6 - k).toNat = (6 - (k + 1)).toNat + 1 by omega, Nd, show 5 - (6 - (k + 1)).toNat = k.toNat by omega, show ((k.toNat : Nat) : Int) = k by omega]
/-! #### nouns -/
def OZ (k rest : As) : Int × As × Bool × Int :=
 match Lib.atoiAll k with
 | .ok n => if (decide (n < 1) || decide (99 < n) || decide (((k.getD (0 : Int).toNat 0).toNat : Int) < 49) || decide (57 < ((k.getD (0 : Int).toNat 0).toNat : Int)) || decide (rest = []) || decide (0 ≤ Lib.indexByte rest 46)) = true then (0, [], false, 1) else (n, rest, false, 0)
 | _ => (0, [], false, 1)
theorem TX {k rest : As} {n : Int} (h : Lib.atoiAll k = .ok n) : OZ k rest = if (decide (n < 1) || decide (99 < n) || decide (((k.getD (0 : Int).toNat 0).toNat : Int) < 49) || decide (57 < ((k.getD (0 : Int).toNat 0).toNat : Int)) || decide (rest = []) || decide (0 ≤ Lib.indexByte rest 46)) = true then (0, [], false, 1) else (n, rest, false, 0) := by
 unfold OZ; rw [h]
theorem Vi {k rest : As} (h : ∀ j, Lib.atoiAll k ≠ .ok j) : OZ k rest = (0, [], false, 1) := by
 unfold OZ
 split
 ·rename_i n e; exact absurd e (h n)
 ·rfl
theorem Q5 {k : As} {n : Int} (h : Lib.atoiAll k = .ok n) : 0 < k.length := by
 cases k with
 | nil => simp [Lib.atoiAll] at h
 | cons x r => simp
def D5 (u : As) : Int × As × Bool × Int :=
 if decide (u = [97, 108, 108]) = true then (1, [], true, 0)
 else if ((MQ u [97, 108, 108, 46]).2 && !decide ((MQ u [97, 108, 108, 46]).1 = []) && !decide (0 ≤ Lib.indexByte (MQ u [97, 108, 108, 46]).1 46)) = true then (1, (MQ u [97, 108, 108, 46]).1, true, 0)
 else if (!(cut 46 u).2.2) = true then (if decide (u = []) = true then (0, [], false, 1) else (1, u, false, 0))
 else OZ (cut 46 u).1 (cut 46 u).2.1
/-! #### orders -/
theorem Of (u : As) : ∀ n, n ≤ 21 → 0 ≤ (I5 u n).1 ∧ (I5 u n).1 ≤ 20
 | 0, _ => by simp [I5]
 | n + 1, h => by
  unfold I5
  split
  ·simp only; omega
  ·exact Of u n (by omega)
theorem Wt (u : As) : 0 ≤ (verb u).1 ∧ (verb u).1 ≤ 20 := by
 unfold verb; split
 ·exact Of u 21 (Nat.le_refl _)
 ·simp
def said (s : As) : As := O6 32 (Q4 32 (cut 32 (O6 32 s)).2.1)
def o0 (v : Int) : Order := { (default : Order) with verb := v }
def PO (o : Order) (j : As × Bool) (W : List As) (m : Nat) : Order × Int :=
 if (decide ((m : Int) = 0) && !j.2) = true then (o, 0)
 else if (!decide ((m : Int) = 1) || decide (j.1 = [])) = true then (default, 1)
 else ({ o with second := W.getD 0 [] }, 0)
def SL (o : Order) (j : As × Bool) (W : List As) (m : Nat) : Order × Int :=
 if (decide (0 < (m : Int)) && !decide (j.1 = []) && decide (W.getD 0 [] = j.1)) = true then (if decide (((m - 1 : Nat) : Int) = 0) = true then (default, 1) else PO o j (W.drop 1) (m - 1))
 else PO o j W m
def Px (v : Int) (W : List As) (m : Nat) : Order × Int :=
 if (!decide ((D5 (W.getD 0 [])).2.2.2 = 0) || ((D5 (W.getD 0 [])).2.2.1 && !many v)) = true then (default, 1)
 else SL ⟨v, (D5 (W.getD 0 [])).1, (D5 (W.getD 0 [])).2.2.1, (D5 (W.getD 0 [])).2.1, [], []⟩ (Mu v) (W.drop 1) (m - 1)
def VF (s : As) (v : Int) (W : List As) (m : Nat) : Order × Int :=
 if decide (v = 11) = true then (if decide (said s = []) = true then (default, 1) else (⟨v, 0, false, [], [], said s⟩, 0))
 else if (decide (v ≤ 6) || decide (19 ≤ v)) = true then (if decide (0 < (m : Int)) = true then (default, 1) else (o0 v, 0))
 else if decide ((m : Int) = 0) = true then (default, 1)
 else if (decide (v = 12) || decide (v = 13)) = true then
  (if (decide ((verb (W.getD 0 [])).2 = 0) && decide ((verb (W.getD 0 [])).1 < 6) && decide ((m : Int) = 1)) = true then (⟨v, 1, false, AH.GB.getD (verb (W.getD 0 [])).1.toNat [], [], []⟩, 0) else Px v W m)
 else Px v W m
def parse (s : As) : Order × Int :=
 if decide (((words s).length : Int) = 0) = true then (default, 1)
 else if (!decide ((verb ((words s).getD 0 [])).2 = 0)) = true then (default, (verb ((words s).getD 0 [])).2)
 else VF s (verb ((words s).getD 0 [])).1 ((words s).drop 1) ((words s).length - 1)
theorem Wz (w : As) : (low w).length = w.length := by simp [low]
theorem Vj (s : As) (i : Nat) : ((words s).getD i []).length ≤ s.length := by
 rw [List.getD_eq_getElem?_getD]
 cases h : (words s)[i]? with
 | none => simp
 | some p =>
  have hm := List.mem_of_getElem? h
  unfold words at hm
  obtain ⟨q, hq, rfl⟩ := List.mem_map.1 hm
  rw [Option.getD_some, Wz]
  exact Hn (List.mem_filter.1 hq).1
theorem Ll (s : As) (i j : Nat) : (((words s).drop j).getD i []).length ≤ s.length := by
 rw [List.getD_eq_getElem?_getD, List.getElem?_drop, ← List.getD_eq_getElem?_getD]; exact Vj s _
end Words
end Go.Ing
/- What people type: plain laws. -/
namespace Go.Ing
open Go
namespace Words
/-! #### a shorter beginning -/
/-! #### what is parsed is good -/
theorem Uw (k r : As) : (OZ k r).2.2.2 = 0 → 0 ≤ (OZ k r).1 ∧ (OZ k r).1 ≤ 99 := by
 unfold OZ
 split
 ·split
  ·intro h; simp at h
  ·rename_i c
   intro _
   simp only [Bool.or_eq_true, decide_eq_true_eq, not_or] at c
   show 0 ≤ _ ∧ _ ≤ 99
   exact ⟨by simp only; omega, by simp only; omega⟩
 ·intro h; simp at h
theorem Uh (u : As) : (D5 u).2.2.2 = 0 → 0 ≤ (D5 u).1 ∧ (D5 u).1 ≤ 99 := by
 unfold D5
 split
 ·intro _; simp
 ·split
  ·intro _; simp
  ·split
   ·split
    ·intro h; simp at h
    ·intro _; simp
   ·exact Uw _ _
/-! #### spaces ahead and behind -/
def Cg : As → As
 | [] => []
 | x :: r => if x = 32 then r else Cg r
end Words
end Go.Ing
/- Verbs and nouns as the document has them. -/
namespace Go.Ing
open Go
namespace Words
/-! #### nouns -/
end Words
end Go.Ing
/- Orders as the document has them. -/
namespace Go.Ing
open Go
namespace Words
/-! #### what is said -/
/-! #### orders -/
def alone (v : Int) : Bool := decide (v < 7) || decide (18 < v)
end Words
end Go.Ing
/- The program's data, in Lean, and their parts. -/
namespace Go.Ing
open Go
structure Ad where
 w : AH
 b : Int
 out : Hd
instance : Inhabited Ad := ⟨⟨default, 0, ⟨none, 0, 0⟩⟩⟩
def Ad.enc (x : Ad) : List Value := AH.enc x.w ++ Ax x.b ++ EL x.out
theorem Ad.fl : Flat Ad.enc 167 := ⟨fun x => by simp [Ad.enc, AH.fl.len, OL.len, By.len], fun x v hv => by
 simp only [Ad.enc, List.mem_append] at hv
 rcases hv with (h | h) | h
 ·exact AH.fl.one _ v h
 ·exact By.one _ v h
 ·exact OL.one _ v h⟩
theorem Ad.l0 : AS Ad.enc (AH.enc) 0 165 (fun x => x.w) (fun x y => { x with w := y }) :=
 AS.EM AH.fl (fun _ => []) (fun x => Ax x.b ++ EL x.out) (fun _ => rfl) (fun x => by simp [Ad.enc]) (fun x y => by simp [Ad.enc])
theorem Ad.l1 : AS Ad.enc (Ax) 165 1 (fun x => x.b) (fun x y => { x with b := y }) :=
 AS.EM By (fun x => AH.enc x.w) (fun x => EL x.out) (fun x => by simp [AH.fl.len]) (fun x => by simp [Ad.enc]) (fun x y => by simp [Ad.enc])
theorem Ad.l2 : AS Ad.enc (EL) 166 1 (fun x => x.out) (fun x y => { x with out := y }) :=
 AS.EM OL (fun x => AH.enc x.w ++ Ax x.b) (fun _ => []) (fun x => by simp [AH.fl.len, By.len]) (fun x => by simp [Ad.enc]) (fun x y => by simp [Ad.enc])
end Go.Ing
/- What comes of what beings do: plain functions. -/
namespace Go.Ing
open Go
structure AG where
 w : AH
 b : Int
 out : List Event
namespace AG
def GI (k : Int) : Event := ⟨k, 0, 0, -1, 0, 0, [], [], [], [], default⟩
def me (T : AG) : Al := T.w.AW.at T.b
def Wn (T : AG) (e : Event) : Event := { e with Dn := T.b, Hh := T.me.name, room := T.me.room }
def D3 (T : AG) (e : Event) : Event := if decide (0 ≤ e.other) = true then { T.Wn e with D8 := (T.w.AW.at e.other).name } else T.Wn e
def Bk (T : AG) (e : Event) : AG := { T with out := T.out ++ [T.w.HD (T.D3 e) 6] }
def kind (T : AG) (k : Int) : AG := T.Bk (GI k)
def B1 (T : AG) (k i : Int) : AG := T.Bk { GI k with B1 := (T.w.AX.at i).name }
def tell (T : AG) (s : As) : AG := T.Bk { GI 16 with text := s }
@[simp] theorem ZF (T : AG) (e : Event) : (T.Bk e).w = T.w := rfl
@[simp] theorem ZD (T : AG) (e : Event) : (T.Bk e).b = T.b := rfl
@[simp] theorem CU (T : AG) (e : Event) : (T.Bk e).out.length = T.out.length + 1 := by simp [Bk]
@[simp] theorem bJ (T : AG) (s : As) : (T.tell s).w = T.w := rfl
@[simp] theorem bt (T : AG) (s : As) : (T.tell s).b = T.b := rfl
@[simp] theorem CC (T : AG) (s : As) : (T.tell s).out.length = T.out.length + 1 := by simp [tell]
/-! #### lists -/
def HR (w : AH) : As → List Int → As
 | s, [] => s
 | s, i :: r => HR w (if (w.AX.at i).on = true then s ++ [32] ++ (w.AX.at i).name ++ [42] else s ++ [32] ++ (w.AX.at i).name) r
def Qy (w : AH) (s : As) (l : List Int) : As := if decide ((l.length : Int) = 0) = true then HR w s l ++ [32, 110, 111, 116, 104, 105, 110, 103] else HR w s l
def list (T : AG) (s : As) (l : List Int) : AG := T.tell (Qy T.w s l ++ [46])
/-! #### what is about -/
def Hz (r : Room) : Nat → As
 | 0 => [87, 97, 121, 115, 58]
 | d + 1 => if decide (r.Da.at (d : Int) = 0) = true then Hz r d else if r.shut.at (d : Int) = true then Hz r d ++ ([32] ++ AH.called d) ++ [42] else Hz r d ++ ([32] ++ AH.called d)
def Fa (T : AG) : Nat → AG
 | 0 => T
 | k + 1 => if (!decide ((k : Int) = T.b) && T.w.Hy T.b k) = true then (Fa T k).tell ((T.w.AW.at k).name ++ [32, 105, 115, 32, 104, 101, 114, 101, 46]) else Fa T k
def Lt : As := [73, 116, 32, 105, 115, 32, 100, 97, 114, 107, 46]
def Jx (T : AG) : AG :=
 ((T.tell ([84, 104, 101, 32] ++ (T.w.Bx.at T.me.room).name ++ [46])).tell (Hz (T.w.Bx.at T.me.room) 6))
def Dy (T : AG) : AG := if decide (0 < ((T.w.has 0 T.me.room).length : Int)) = true then T.Jx.list [72, 101, 114, 101, 32, 105, 115] (T.w.has 0 T.me.room) else T.Jx
def look (T : AG) : AG := if (!T.w.G6 T.me.room) = true then T.tell Lt else Fa T.Dy 6
def Vd : As := [89, 111, 117, 32, 99, 97, 110, 110, 111, 116, 32, 103, 111, 32, 116, 104, 101, 114, 101, 46]
def SB : As := [73, 116, 32, 105, 115, 32, 115, 104, 117, 116, 46]
def JP (T : AG) (r : Int) : AG := { T with w := { T.w with AW := T.w.AW.put T.b { T.me with room := r, B5 := 0 } } }
def walk (T : AG) (d : Int) : AG :=
 if decide ((T.w.Bx.at T.me.room).Da.at d = 0) = true then T.tell Vd
 else if (T.w.Bx.at T.me.room).shut.at d = true then T.tell SB
 else (((T.Bk { GI 1 with dir := d }).JP ((T.w.Bx.at T.me.room).Da.at d - 1)).Bk { GI 2 with dir := AH.opposite d }).look
/-! #### things that are meant -/
def Im (w : AH) (name : As) (l : List Int) : List Int := l.filter fun i => decide (name = []) || decide ((w.AX.at i).name = name)
def BQ (w : AH) (l : List Int) (nth : Int) (name : As) (all : Bool) : List Int :=
 if all = true then Im w name l
 else if (decide (nth < 1) || decide (((Im w name l).length : Int) < nth)) = true then []
 else ((Im w name l).take nth.toNat).drop (nth - 1).toNat
def seen (T : AG) : List Int := if (!T.w.G6 T.me.room) = true then [] else T.w.has 0 T.me.room
def own (T : AG) : List Int := T.w.has 1 T.b
def one (T : AG) (u : As) : Int × Bool :=
 if (!decide ((Words.D5 u).2.2.2 = 0) || (Words.D5 u).2.2.1) = true then (0, false)
 else if decide (((BQ T.w (T.own ++ T.seen) (Words.D5 u).1 (Words.D5 u).2.1 false).length : Int) = 0) = true then (0, false)
 else ((BQ T.w (T.own ++ T.seen) (Words.D5 u).1 (Words.D5 u).2.1 false).getD 0 0, true)
def LG : As := [84, 104, 101, 114, 101, 32, 105, 115, 32, 110, 111, 32, 115, 117, 99, 104, 32, 116, 104, 105, 110, 103, 46]
def P2 : As := [89, 111, 117, 32, 104, 97, 118, 101, 32, 110, 111, 32, 115, 117, 99, 104, 32, 116, 104, 105, 110, 103, 46]
def Mx : As := [84, 104, 101, 114, 101, 32, 105, 115, 32, 110, 111, 98, 111, 100, 121, 32, 111, 102, 32, 116, 104, 97, 116, 32, 110, 97, 109, 101, 46]
def aO : As := [89, 111, 117, 32, 119, 101, 97, 114, 32, 105, 116, 46]
def Xw : As := [84, 104, 97, 116, 32, 99, 97, 110, 110, 111, 116, 32, 98, 101, 46]
def Yk : As := [73, 116, 32, 105, 115, 32, 115, 111, 46]
def P3 : As := [89, 111, 117, 32, 102, 105, 103, 104, 116, 46]
def box (T : AG) (u : As) : AG × Int × Bool :=
 if (!(T.one u).2 || !decide ((T.w.AX.at (T.one u).1).kind = 3)) = true then (T.tell LG, 0, false)
 else if (!(T.w.AX.at (T.one u).1).on) = true then (T.tell SB, 0, false)
 else (T, (T.one u).1, true)
def EB (T : AG) (i : Int) (t : Ak) : AG := { T with w := { T.w with AX := T.w.AX.put i t } }
def place (T : AG) (i Cq at_ : Int) : AG := T.EB i { T.w.AX.at i with Cq := Cq, at_ := at_ }
def Df (T : AG) : List Int → AG
 | [] => T
 | i :: r => Df ((T.place i 1 T.b).B1 3 i) r
def QG (T : AG) (l : List Int) (o : Order) : AG := Df (if decide (((BQ T.w l o.nth o.name o.Bl).length : Int) = 0) = true then T.tell LG else T) (BQ T.w l o.nth o.name o.Bl)
def get (T : AG) (o : Order) : AG :=
 if (!decide (o.second = [])) = true then
  (if (!(T.box o.second).2.2) = true then (T.box o.second).1 else (T.box o.second).1.QG ((T.box o.second).1.w.has 2 (T.box o.second).2.1) o)
 else T.QG T.seen o
def Hs (T : AG) (name : As) : Nat → Int → Option Int
 | 0, _ => none
 | r + 1, n => if (decide (((6 - (r + 1) : Nat) : Int) = T.b) || !decide ((T.w.AW.at ((6 - (r + 1) : Nat) : Int)).name = name) || !T.w.Hy T.b ((6 - (r + 1) : Nat) : Int)) = true then Hs T name r n else if decide (n - 1 = 0) = true then some ((6 - (r + 1) : Nat) : Int) else Hs T name r (n - 1)
def BN (T : AG) (u : As) : AG × Int × Bool :=
  if (decide ((Words.D5 u).2.2.2 = 0) && !(Words.D5 u).2.2.1) = true then
    (match Hs T (Words.D5 u).2.1 6 (Words.D5 u).1 with
     | some k => (T, k, true)
     | none => (T.tell Mx, 0, false))
  else (T.tell Mx, 0, false)
def DQ (T : AG) (v to i : Int) : AG :=
 if (decide ((T.w.AX.at i).kind = 2) && (T.w.AX.at i).on) = true then T.tell aO
 else if decide (v = 8) = true then (T.place i 0 T.me.room).B1 4 i
 else if decide (v = 10) = true then (T.place i 1 to).Bk { GI 6 with other := to, B1 := (T.w.AX.at i).name }
 else if T.w.ZA to i = true then T.tell Xw
 else (T.place i 2 to).Bk { GI 5 with B1 := (T.w.AX.at i).name, text := (T.w.AX.at to).name }
def Fg (T : AG) (v to : Int) : List Int → AG
 | [] => T
 | i :: r => Fg (T.DQ v to i) v to r
def Wd (T : AG) (to : Int) (o : Order) : AG := Fg (if decide (((BQ T.w T.own o.nth o.name o.Bl).length : Int) = 0) = true then T.tell P2 else T) o.verb to (BQ T.w T.own o.nth o.name o.Bl)
def DG (T : AG) (o : Order) : AG × Int × Bool := if decide (o.verb = 9) = true then T.box o.second else if decide (o.verb = 10) = true then T.BN o.second else (T, 0, true)
def G7 (T : AG) (o : Order) : AG := if (!(T.DG o).2.2) = true then (T.DG o).1 else (T.DG o).1.Wd (T.DG o).2.1 o
def DV (T : AG) (b f : Int) : AG := { T with w := { T.w with AW := T.w.AW.put b { T.w.AW.at b with B5 := f } } }
def GS (T : AG) (o : Order) : AG :=
 if (!(T.BN (if (!decide (o.nth = 1) || o.Bl) = true then [] else o.name)).2.2) = true then (T.BN (if (!decide (o.nth = 1) || o.Bl) = true then [] else o.name)).1
 else
  let k := (T.BN (if (!decide (o.nth = 1) || o.Bl) = true then [] else o.name)).2.1
  let T1 := (T.BN (if (!decide (o.nth = 1) || o.Bl) = true then [] else o.name)).1.DV (T.BN (if (!decide (o.nth = 1) || o.Bl) = true then [] else o.name)).1.b (k + 1)
  (if decide ((T1.w.AW.at k).B5 = 0) = true then T1.DV k ((T.BN (if (!decide (o.nth = 1) || o.Bl) = true then [] else o.name)).1.b + 1) else T1).tell P3
/-! #### what is set -/
def before (T : AG) (first : Bool) (i : Int) (on : Bool) (ev : Int) : AG :=
 if first = true then (T.EB i { T.w.AX.at i with on := on }).B1 ev i
 else (T.B1 ev i).EB i { T.w.AX.at i with on := on }
def Fv (T : AG) (r d : Int) (v : Bool) : AG := { T with w := { T.w with Bx := T.w.Bx.put r { T.w.Bx.at r with shut := (T.w.Bx.at r).shut.put d v } } }
def On : As := [100, 111, 111, 114]
def I1 (T : AG) (d : Int) (on : Bool) (ev : Int) : AG :=
 if decide ((T.w.Bx.at T.me.room).Da.at d - 1 < 0) = true then T.tell LG
 else if ((T.w.Bx.at T.me.room).shut.at d != on) = true then T.tell Yk
 else
  let to := (T.w.Bx.at T.me.room).Da.at d - 1
  let T1 := T.Fv T.me.room d (!on)
  (if decide ((T1.w.Bx.at to).Da.at (AH.opposite d) = T.me.room + 1) = true then T1.Fv to (AH.opposite d) (!on) else T1).Bk { GI ev with B1 := On }
def Gw (v : Int) : Bool := decide (v = 12) || decide (v = 14) || decide (v = 16)
def setKind (v : Int) : Int := if (decide (v = 14) || decide (v = 15)) = true then 1 else if (decide (v = 16) || decide (v = 17)) = true then 2 else 3
def TF (v : Int) : Int := v - 4
def E3 (T : AG) (o : Order) : List Int := BQ T.w (if decide (setKind o.verb = 3) = true then T.own ++ T.seen else T.own) (max o.nth 1) o.name false
def set (T : AG) (o : Order) : AG :=
 if ((Words.dir o.name).2 && decide (setKind o.verb = 3)) = true then T.I1 (Words.dir o.name).1 (Gw o.verb) (TF o.verb)
 else if (decide (((T.E3 o).length : Int) = 0) || !decide ((T.w.AX.at ((T.E3 o).getD 0 0)).kind = setKind o.verb)) = true then T.tell LG
 else if ((T.w.AX.at ((T.E3 o).getD 0 0)).on == Gw o.verb) = true then T.tell Yk
 else if Gw o.verb = true then T.before (!decide (setKind o.verb = 2)) ((T.E3 o).getD 0 0) (Gw o.verb) (TF o.verb)
 else T.before (decide (setKind o.verb = 2)) ((T.E3 o).getD 0 0) (Gw o.verb) (TF o.verb)
/-! #### who is gone -/
def Ee (T : AG) (i : Int) : AG := T.EB i { T.w.AX.at i with on := if decide ((T.w.AX.at i).kind = 2) = true then false else (T.w.AX.at i).on, Cq := 0, at_ := T.me.room }
def Ck (T : AG) : List Int → AG
 | [] => T
 | i :: r => Ck (T.Ee i) r
def Dw (T : AG) : Nat → AG
 | 0 => T
 | k + 1 => if decide (((Dw T k).w.AW.at (k : Int)).B5 = T.b + 1) = true then (Dw T k).DV k 0 else Dw T k
def GC (T : AG) : AG := (Dw (T.Ck T.own) 6).DV T.b 0
def DF (T : AG) (b : Int) (x : Al) : AG := { T with w := { T.w with AW := T.w.AW.put b x } }
def LB (T : AG) : AG := (T.kind 18).GC.DF T.b default
/-! #### what a being does -/
def act (T : AG) (o : Order) : AG :=
 if decide (o.verb < 6) = true then T.walk o.verb
 else if decide (o.verb = 6) = true then T.look
 else if decide (o.verb = 19) = true then T.list [89, 111, 117, 32, 104, 97, 118, 101] (T.w.has 1 T.b)
 else if decide (o.verb = 11) = true then T.Bk { GI 7 with text := o.text }
 else if decide (o.verb = 20) = true then T.LB
 else if decide (o.verb = 18) = true then T.GS o
 else if decide (o.verb = 7) = true then T.get o
 else if (decide (o.verb = 8) || decide (o.verb = 9) || decide (o.verb = 10)) = true then T.G7 o
 else T.set o
def Ff (X : AH) (b : Int) (o : Order) : AH × List Event × Int :=
 if (!X.Bs) = true then (X, [], 2)
 else if (decide (b < 0) || decide (6 ≤ b) || !(X.AW.at b).here) = true then (X, [], 3)
 else if (decide (o.verb < 0) || decide (20 < o.verb)) = true then (X, [], 5)
 else ((AG.act ⟨X, b, []⟩ o).w, (AG.act ⟨X, b, []⟩ o).out, 0)
end AG
end Go.Ing
/- Engine: the program's own variables, beside what is handed on. -/
namespace Go.Ing
open Go
section
variable {w0 w : World} {M : List Nat} {L A K : List Ac} {g : Nat} {vs : List Value}
theorem GV.lt (h : GV g vs w) : g < w.heap.size := by
 obtain ⟨t, fz, e⟩ := h
 rcases Nat.lt_or_ge g w.heap.size with h' | h'
 ·exact h'
 ·rw [Array.getElem?_eq_none h'] at e; cases e
theorem GV.stM (h : GV g vs w0) (hM : g ∉ M) (hS : St w0 M w L) : GV g vs w := by
 have hg := h.lt
 obtain ⟨t, fz, e⟩ := h
 exact ⟨t, fz, (hS.Gv g hg hM).trans e⟩
theorem M5 (hg : g < w0.heap.size) (hM : g ∉ M) (hS : St w0 M w L) (hp : Av L A K) : g ∉ CW A := by
 intro hf
 obtain ⟨r, hr, hb⟩ := List.mem_flatMap.1 hf
 have hm : r ∈ L := hp.perm.symm.subset (List.mem_append_left _ hr)
 exact hM ((hS.CN r hm g hb).2 hg)
theorem GV.pull (h : GV g vs w0) (hM : g ∉ M) (hS : St w0 M w L) (hp : Av L A K) : GV g vs w ∧ g ∉ CW A := ⟨h.stM hM hS, M5 h.lt hM hS hp⟩
theorem GG.stM (h : GG g w0) (hM : g ∉ M) (hS : St w0 M w L) : GG g w := by
 obtain ⟨tp, p, h⟩ := h; exact ⟨tp, p, h.stM hM hS⟩
theorem GG.pull (h : GG g w0) (hM : g ∉ M) (hS : St w0 M w L) (hp : Av L A K) : GG g w ∧ g ∉ CW A := by
 obtain ⟨tp, p, h⟩ := h; exact ⟨⟨tp, p, h.stM hM hS⟩, M5 h.lt hM hS hp⟩
end
section
variable {P : Program} {n : Nat} {w0 : World} {M : List Nat} {Q : Exit → Go.Act → World → Prop} {F F' : List (Nat × Value)} {L L' : List Ac} {ops : Array Oper} {rest : List Oper}
theorem SN {α : Type} {e : α → List Value} {d T U E sz : Nat} {x y z : Operand} {pos : String} {Cg : Array Edge} {h : Hd} {xs : List α} {kd kz : IntKind} {i j : Int} {Lf : Ac → List Ac} (fe : Flat e sz) (hd : Nat.blt d n = true) (hT : P.underlying T = some (.slice E)) (hs : Sz P E sz) (hx : ev F x = some h.val) (hy : ev F y = some (.int kd i)) (hz : ev F z = some (.int kz j)) (h0 : 0 ≤ i) (h1 : i ≤ j) (h2 : j ≤ (h.len : Int)) (hU : ∀ r, KV L (Ac.own h E sz (xs.flatMap e)) r (Lf r))
  (k : GL P n w0 M ops Q rest ((d, (h.cut i.toNat j.toNat sz).val) :: F) (Lf (Ac.own (h.cut i.toNat j.toNat sz) E sz (((xs.take j.toNat).drop i.toNat).flatMap e)))) : GL P n w0 M ops Q (⟨some d, .slice T x (some y) (some z) none, U, pos, Cg, none⟩ :: rest) F L := by
 refine FN (R := fun v L' => v = (h.cut i.toNat j.toNat sz).val ∧ L' = Lf (Ac.own (h.cut i.toNat j.toNat sz) E sz (((xs.take j.toNat).drop i.toNat).flatMap e))) hd ?_ (fun v L' ⟨e1, e2⟩ => by subst e1; subst e2; exact k)
 intro a w hF hS
 have hok := hS.ok _ (hU ⟨[], fun _ => True, fun _ _ _ _ => trivial⟩).mem
 have hr : Rd w h E sz (xs.flatMap e) := Kn.own (M := M) (hU ⟨[], fun _ => True, fun _ _ _ _ => trivial⟩).mem w hS
 have hcap : h.len ≤ h.cap := by
  rcases hok with ⟨rfl, _⟩ | ⟨b, o, C, fz, e1, e2, e3, e4, e5, e6, _⟩
  ·exact Nat.le_refl _
  ·exact e6
 have hil : i.toNat ≤ j.toNat := by omega
 have hjl : j.toNat ≤ h.len := by omega
 have hlc : h.len * sz ≤ h.cap * sz := Nat.mul_le_mul_right sz hcap
 have hjc : j.toNat * sz ≤ h.len * sz := Nat.mul_le_mul_right sz hjl
 have hll : i.toNat * sz ≤ j.toNat * sz := Nat.mul_le_mul_right sz hil
 have hcs : ((xs.flatMap e).take (j.toNat * sz)).drop (i.toNat * sz) = ((xs.take j.toNat).drop i.toNat).flatMap e := K0 fe xs
 have hlen : (((xs.take j.toNat).drop i.toNat).flatMap e).length = j.toNat * sz - i.toNat * sz := by
  rw [← hcs, List.length_drop, List.length_take, ← hr.1, Nat.min_eq_left hjc]
 refine ⟨_, _, w, ⟨rfl, rfl⟩, ?_, ?_⟩
 ·have hs' := hs w
  have hjcap : j ≤ (h.cap : Int) := by omega
  simp only [execOp, hF.ev hx, Option.map_some, Option.map_none, hF.ev hy, hF.ev hz, Hd.val, Instr.sliceAt, Instr.slice, underlying]
  simp [hT, Instr.sliceBounds, Instr.sliceBound, asIntOf, h1, h0, hs', Hd.cut, hjcap, show 0 ≤ j by omega, show i ≤ max j 0 by omega]
 ·refine hS.EN (hU _) rfl rfl rfl (Nat.le_refl _) (fun _ _ _ => rfl) ?_ ?_
  ·rcases hok with ⟨rfl, hn⟩ | ⟨b, o, C, fz, e1, e2, e3, e4, e5, e6, e7, e8⟩
   ·have hj0 : j.toNat = 0 := by simp at hjl; omega
    have hi0 : i.toNat = 0 := by omega
    refine .inl ⟨by simp [Hd.cut, hj0, hi0], ?_⟩
    rw [List.eq_nil_of_length_eq_zero (l := ((xs.take j.toNat).drop i.toNat).flatMap e) (by rw [hlen, hj0]; simp)]
   ·by_cases hci : h.cap = i.toNat
    ·have hji : j.toNat = i.toNat := by omega
     refine .inr ⟨b, o, C, fz, by simp only [Hd.cut]; rw [if_pos hci]; exact e1, e2, e3, e4, ?_, ?_, ?_, ?_⟩
     ·simp only [Hd.cut]; rw [hci, Nat.sub_self, Nat.zero_mul]; omega
     ·simp only [Hd.cut]; omega
     ·simp only [Hd.cut]; rw [hlen, Nat.sub_mul]
     ·have hl0 : (((xs.take j.toNat).drop i.toNat).flatMap e).length = 0 := by rw [hlen, hji]; omega
      rw [List.eq_nil_of_length_eq_zero hl0]; simp
    ·refine .inr ⟨b, o + i.toNat * sz, C, fz, by simp only [Hd.cut]; rw [if_neg hci, e1]; simp [ED], e2, e3, fun j hj h => e4 j (by omega) h, ?_, ?_, ?_, ?_⟩
     ·simp only [Hd.cut]; rw [Nat.sub_mul]; omega
     ·simp only [Hd.cut]; omega
     ·simp only [Hd.cut]; rw [hlen, Nat.sub_mul]
     ·have hX : xs.flatMap e = (C.drop o).take (h.len * sz) := by rw [hr.1]; exact e8.symm
      have hY : ((xs.take j.toNat).drop i.toNat).flatMap e = ((C.drop o).take (j.toNat * sz)).drop (i.toNat * sz) := by rw [← hcs, hX, List.take_take, Nat.min_eq_left hjc]
      rw [hlen, hY, List.drop_take, List.drop_drop]
  ·intro b hb
   have hb' : b ∈ (Ac.own h E sz (xs.flatMap e)).CN := by
    revert hb
    simp only [Ac.own, Hd.cut]
    cases ha : h.a with
    | none => by_cases hc : h.cap = i.toNat <;> simp [hc]
    | some a =>
     by_cases hc : h.cap = i.toNat
     ·simp [hc]
     ·simp only [hc, if_false, Option.map_some]
      unfold Addr.add
      split <;> simp
   exact ⟨(hS.CN _ (hU ⟨[], fun _ => True, fun _ _ _ _ => trivial⟩).mem b hb').1, .inl hb'⟩
theorem KV.ZZ {L L' : List Ac} {r r' : Ac} (h : KV L r r' L') (e : r = r') : L' = L := by
 induction h with
 | head => subst e; rfl
 | tail _ ih => rw [ih e]
theorem Fh {cd : Code} {b T : Nat} {c c' : List Value} {Lf : Ac → List Ac} (hU : ∀ r, KV L (Ac.box b T c) r (Lf r)) (e : c = c') (k : G P n w0 M cd Q F (Lf (Ac.box b T c'))) : G P n w0 M cd Q F L := by
 subst e
 rwa [(hU (Ac.box b T c)).ZZ rfl] at k
theorem Y1 {Pr : Prop} {cd : Code} (hp : ∀ w, St w0 M w L → Pr) (k : Pr → G P n w0 M cd Q F L) : G P n w0 M cd Q F L := fun a w hF hS => k (hp w hS) a w hF hS
end
section
variable {p : Prop} [Decidable p] {a b : Bool} {m n : Int}
theorem cY : ((a || b) = true) = (a = true ∨ b = true) := Bool.or_eq_true a b
theorem cX : ((a && b) = true) = (a = true ∧ b = true) := Bool.and_eq_true a b
theorem cR : ((a || b) = false) = (a = false ∧ b = false) := propext Bool.or_eq_false_iff
theorem cb : ((a && b) = false) = (a = false ∨ b = false) := propext Bool.and_eq_false_iff
end
end Go.Ing
/- What comes of what beings do: plain laws. -/
namespace Go.Ing
open Go
structure AH.Dz (w : AH) : Prop where
 th : ∀ i, (w.AX.at i).name.length ≤ 140737488351232
 be : ∀ i, (w.AW.at i).name.length ≤ 140737488351232
 ro : ∀ i, (w.Bx.at i).name.length ≤ 140737488351232
namespace AG
theorem Mb {l : List Int} {k : Int} (h0 : 0 ≤ k) (h1 : k < l.length) : l.drop k.toNat = l.getD k.toNat 0 :: l.drop (k + 1).toNat := by
 have hk : k.toNat < l.length := by omega
 rw [List.drop_eq_getElem_cons hk, show (k + 1).toNat = k.toNat + 1 by omega, List.getD_eq_getElem?_getD, List.getElem?_eq_getElem hk]
 rfl
theorem XJ {w : AH} {s : As} {l : List Int} {k : Int} (h0 : 0 ≤ k) (h1 : k < l.length) (h : (w.AX.at (l.getD k.toNat 0)).on = true) : HR w s (l.drop k.toNat) = HR w (s ++ ([32] ++ (w.AX.at (l.getD k.toNat 0)).name) ++ [42]) (l.drop (k + 1).toNat) := by
 rw [Mb h0 h1, HR, if_pos h]; simp
theorem Xa {w : AH} {s : As} {l : List Int} {k : Int} (h0 : 0 ≤ k) (h1 : k < l.length) (h : (w.AX.at (l.getD k.toNat 0)).on = false) : HR w s (l.drop k.toNat) = HR w (s ++ ([32] ++ (w.AX.at (l.getD k.toNat 0)).name)) (l.drop (k + 1).toNat) := by
 rw [Mb h0 h1, HR, if_neg (by rw [h]; decide)]; simp
theorem SI {r : Room} {k : Int} (h : 0 ≤ k) : Hz r (k + 1).toNat = if decide (r.Da.at k = 0) = true then Hz r k.toNat else if r.shut.at k = true then Hz r k.toNat ++ ([32] ++ AH.called k) ++ [42] else Hz r k.toNat ++ ([32] ++ AH.called k) := by
 obtain ⟨m, rfl⟩ := Int.eq_ofNat_of_zero_le h
 rfl
theorem Lp (r : Room) : ∀ k : Nat, (Hz r k).length ≤ 5 + k * 22
 | 0 => by simp [Hz]
 | k + 1 => by
  have ih := Lp r k
  have hc := AH.Ib (k : Int)
  unfold Hz
  repeat' split
  all_goals (try simp only [List.length_append, List.length_cons, List.length_nil])
  all_goals omega
theorem Kd (T : AG) : ∀ k : Nat, (T.Fa k).w = T.w ∧ (T.Fa k).b = T.b ∧ (T.Fa k).out.length ≤ T.out.length + k
 | 0 => ⟨rfl, rfl, by simp [Fa]⟩
 | k + 1 => by
  obtain ⟨h1, h2, h3⟩ := Kd T k
  unfold Fa
  split
  ·exact ⟨by simpa using h1, by simpa using h2, by rw [CC]; omega⟩
  ·exact ⟨h1, h2, by omega⟩
theorem IM {T : AG} {k : Int} (h : 0 ≤ k) : T.Fa (k + 1).toNat = if (!decide (k = T.b) && T.w.Hy T.b k) = true then (T.Fa k.toNat).tell ((T.w.AW.at k).name ++ [32, 105, 115, 32, 104, 101, 114, 101, 46]) else T.Fa k.toNat := by
 obtain ⟨m, rfl⟩ := Int.eq_ofNat_of_zero_le h
 rfl
@[simp] theorem Ie (T : AG) (s : As) (l : List Int) : (T.list s l).w = T.w ∧ (T.list s l).b = T.b ∧ (T.list s l).out.length = T.out.length + 1 := ⟨rfl, rfl, by simp [list]⟩
theorem TZ (T : AG) : T.Jx.w = T.w ∧ T.Jx.b = T.b ∧ T.Jx.out.length = T.out.length + 2 := ⟨rfl, rfl, by simp [Jx]⟩
theorem QP (T : AG) : T.Dy.w = T.w ∧ T.Dy.b = T.b ∧ T.Dy.out.length ≤ T.out.length + 3 := by
 have h := T.TZ
 unfold Dy
 split
 ·have h2 := T.Jx.Ie [72, 101, 114, 101, 32, 105, 115] (T.w.has 0 T.me.room)
  exact ⟨h2.1.trans h.1, h2.2.1.trans h.2.1, by omega⟩
 ·exact ⟨h.1, h.2.1, by omega⟩
theorem M9 (T : AG) : T.look.w = T.w ∧ T.look.b = T.b ∧ T.look.out.length ≤ T.out.length + 9 := by
 unfold look
 split
 ·exact ⟨rfl, rfl, by rw [CC]; omega⟩
 ·have h := T.QP
  have h2 := T.Dy.Kd 6
  exact ⟨h2.1.trans h.1, h2.2.1.trans h.2.1, by omega⟩
end AG
theorem Bc.Ei {xs : List Int} {i : Nat} (h : i < xs.length) : xs.getD i 0 ∈ xs := by
 rw [List.getD_eq_getElem?_getD, List.getElem?_eq_getElem h]
 exact List.getElem_mem h
theorem AH.Sc {w : AH} {r : Int} (h : (!w.G6 r) = false) : 0 ≤ r ∧ r < 6 := by
 unfold AH.G6 at h
 split at h
 ·simp at h
 ·rename_i c; simp at c; omega
theorem AH.Gb {w : AH} {Cq at_ i : Int} (h : i ∈ w.has Cq at_) : 0 ≤ i ∧ i < 9 := by
 unfold AH.has at h
 have := (List.mem_filter.1 h).1
 obtain ⟨n, hn, rfl⟩ := List.mem_map.1 this
 have := List.mem_range.1 hn
 exact ⟨by simp, by show ((n : Nat) : Int) < 9; omega⟩
theorem AH.Ho (w : AH) (Cq at_ : Int) : (w.has Cq at_).length ≤ 9 := by
 rw [AH.Sh]; exact AH.Qs w Cq at_ _
end Go.Ing
/- What beings do keeps the land good: plain laws. -/
namespace Go.Ing
open Go
theorem Vector.ER {α : Type} [Inhabited α] {n : Nat} (v : Vector α n) (k : Int) (x y : α) : (v.put k x).put k y = v.put k y := by
 unfold Vector.put
 apply Vector.ext
 intro i hi
 simp only [Vector.getElem_setIfInBounds]
 split <;> rfl
theorem Vector.CM {α : Type} [Inhabited α] {n : Nat} {v : Vector α n} {k : Int} {x : α} (h0 : 0 ≤ k) (h1 : k < n) : (v.put k x).at k = x := by rw [KA v k k x h0 h1 h0, if_pos rfl]
theorem Vector.E1 {α : Type} [Inhabited α] {n : Nat} {v : Vector α n} {k i : Int} {x : α} (h0 : 0 ≤ k) (h1 : k < n) (hi : 0 ≤ i) (hn : i ≠ k) : (v.put k x).at i = v.at i := by rw [KA v k i x h0 h1 hi, if_neg hn]
namespace AH
variable {X Y : AH}
theorem Out.path : ∀ {m : Nat} {i : Int}, 0 ≤ i → i < 9 → Out X m i → ∃ s : List Int, Rh s + s.length = 9 ∧ s.length = m + 1 ∧ ∀ j ∈ s, ∃ k, k ≤ m ∧ Out X k j
 | 0, i, h0, h9, h => ⟨[] ++ [i], by have := Nh (s := []) (i := i) (by simp) h0 h9; simp only [List.length_append, List.length_cons, List.length_nil]; have : Rh [] = 9 := rfl; omega, rfl, fun j hj => by
   have : j = i := by simpa using hj
   subst this; exact ⟨0, Nat.le_refl _, h⟩⟩
 | m + 1, i, h0, h9, h => by
  obtain ⟨s, h1, h2, h3⟩ := Out.path h.2.1 h.2.2.1 h.2.2.2
  have hn : i ∉ s := fun hm => by
   obtain ⟨k, hk, ho⟩ := h3 i hm
   have := h.uniq ho
   omega
  have hl := Nh hn h0 h9
  refine ⟨s ++ [i], by simp only [List.length_append, List.length_cons, List.length_nil]; omega, by simp only [List.length_append, List.length_cons, List.length_nil]; omega, fun j hj => ?_⟩
  rcases List.mem_append.1 hj with hj | hj
  ·obtain ⟨k, hk, ho⟩ := h3 j hj
   exact ⟨k, by omega, ho⟩
  ·have : j = i := by simpa using hj
   subst this; exact ⟨m + 1, Nat.le_refl _, h⟩
theorem Out.cc {m : Nat} {i : Int} (h0 : 0 ≤ i) (h9 : i < 9) (h : Out X m i) : m ≤ 8 := by
 obtain ⟨s, h1, h2, _⟩ := h.path h0 h9
 omega
theorem LD : ∀ {m n : Nat} {i : Int}, Out X m i → m < n → X.JM n (X.AX.at i) = true
 | _, 0, _, _, h => absurd h (Nat.not_lt_zero _)
 | 0, n + 1, i, h, _ => by
  unfold JM
  rw [if_pos (by simpa using (show (X.AX.at i).Cq ≠ 2 from h))]
 | m + 1, n + 1, i, h, hl => by
  unfold JM
  rw [if_neg (by simp [h.1]), if_neg (by have := h.2.1; have := h.2.2.1; simp; omega)]
  exact LD h.2.2.2 (by omega)
structure N5 (X : AH) (i : Int) : Prop where
 k0 : 0 ≤ (X.AX.at i).kind
 k3 : (X.AX.at i).kind ≤ 3
 plain : (X.AX.at i).kind = 0 → (X.AX.at i).on = false
 a0 : 0 ≤ (X.AX.at i).at_
 Cq : ((X.AX.at i).Cq = 0 ∧ (X.AX.at i).at_ < 6 ∧ ¬ ((X.AX.at i).kind = 2 ∧ (X.AX.at i).on = true)) ∨
  ((X.AX.at i).Cq = 1 ∧ (X.AX.at i).at_ < 6 ∧ (X.AW.at (X.AX.at i).at_).here = true) ∨
  ((X.AX.at i).Cq = 2 ∧ (X.AX.at i).at_ < 9 ∧ (X.AX.at (X.AX.at i).at_).kind = 3 ∧ ¬ ((X.AX.at i).kind = 2 ∧ (X.AX.at i).on = true))
theorem Pe.p {i : Int} (h : Pe X i) : N5 X i := ⟨h.k0, h.k3, h.plain, h.a0, by
 rcases h.Cq with h | h | ⟨h1, h2, h3, h4, _⟩
 ·exact .inl h
 ·exact .inr (.inl h)
 ·exact .inr (.inr ⟨h1, h2, h3, h4⟩)⟩
theorem QL {i : Int} (h : N5 X i) (h0 : 0 ≤ i) (h9 : i < 9) {m : Nat} (ho : Out X m i) : X.Cb i = true := by
 have hc := LD ho (show m < 10 by have := ho.cc h0 h9; omega)
 have := h.k0; have := h.k3; have := h.a0
 unfold Cb
 rw [if_neg (by
  simp only [Bool.or_eq_true, Bool.and_eq_true, decide_eq_true_eq]
  rintro (((h1 | h1) | ⟨h1, h2⟩) | h1)
  ·omega
  ·omega
  ·rw [h.plain h1] at h2; cases h2
  ·omega)]
 rcases h.Cq with ⟨w, a, b⟩ | ⟨w, a, b⟩ | ⟨w, a, k, b⟩
 ·rw [if_pos (by simp [w])]
  simp only [Bool.and_eq_true, decide_eq_true_eq, Bool.not_eq_true']
  refine ⟨a, ?_⟩
  cases hh : (decide ((X.AX.at i).kind = 2) && (X.AX.at i).on) with
  | false => rfl
  | true => rw [Bool.and_eq_true] at hh; exact absurd ⟨of_decide_eq_true hh.1, hh.2⟩ b
 ·rw [if_neg (by simp [w]), if_pos (by simp [w])]
  simp [a, b]
 ·rw [if_neg (by simp [w]), if_neg (by simp [w]), if_pos (by simp [w]), if_neg (by
   simp only [Bool.or_eq_true, Bool.and_eq_true, decide_eq_true_eq, Bool.not_eq_true', decide_eq_false_iff_not]
   rintro ((h1 | h1) | ⟨h1, h2⟩)
   ·omega
   ·exact h1 k
   ·exact b ⟨h1, h2⟩)]
  exact hc
theorem S3 (hr : ∀ r d, 0 ≤ r → r < 6 → 0 ≤ d → d < 6 → Ia (X.Bx.at r) d = false) (hb : ∀ b, 0 ≤ b → b < 6 → DS (X.AW.at b) = false) (ht : ∀ i, 0 ≤ i → i < 9 → N5 X i ∧ ∃ m, Out X m i) : X.Bs = true := by
 unfold Bs
 rw [Bool.and_eq_true, Bool.and_eq_true]
 refine ⟨(DL 6).2 fun r h0 h1 => ?_, (DL 6).2 fun b h0 h1 => ?_, (DL 9).2 fun i h0 h1 => ?_⟩
 ·exact (DL 6).2 fun d d0 d1 => by rw [hr r d (by omega) h1 (by omega) d1]; rfl
 ·rw [hb b (by omega) h1]; rfl
 ·obtain ⟨hp, m, ho⟩ := ht i (by omega) h1
  exact QL hp (by omega) h1 ho
theorem Out.same (h : ∀ i, 0 ≤ i → i < 9 → (Y.AX.at i).Cq = (X.AX.at i).Cq ∧ (Y.AX.at i).at_ = (X.AX.at i).at_) : ∀ {m : Nat} {i : Int}, 0 ≤ i → i < 9 → Out X m i → Out Y m i
 | 0, i, h0, h9, ho => by show (Y.AX.at i).Cq ≠ 2; rw [(h i h0 h9).1]; exact ho
 | m + 1, i, h0, h9, ho => by
  refine ⟨(h i h0 h9).1.trans ho.1, ?_⟩
  rw [(h i h0 h9).2]
  exact ⟨ho.2.1, ho.2.2.1, Out.same h ho.2.1 ho.2.2.1 ho.2.2.2⟩
theorem Out.other {k : Int} (h : ∀ i, 0 ≤ i → i < 9 → i ≠ k → Y.AX.at i = X.AX.at i) (hk : ∃ m, Out Y m k) : ∀ {m : Nat} {i : Int}, 0 ≤ i → i < 9 → Out X m i → ∃ m', Out Y m' i
 | 0, i, h0, h9, ho => by
  by_cases e : i = k
  ·subst e; exact hk
  ·exact ⟨0, by show (Y.AX.at i).Cq ≠ 2; rw [h i h0 h9 e]; exact ho⟩
 | m + 1, i, h0, h9, ho => by
  by_cases e : i = k
  ·subst e; exact hk
  ·obtain ⟨m', h'⟩ := Out.other h hk ho.2.1 ho.2.2.1 ho.2.2.2
   exact ⟨m' + 1, by rw [Out, h i h0 h9 e]; exact ⟨ho.1, ho.2.1, ho.2.2.1, h'⟩⟩
end AH
end Go.Ing
/- What beings do keeps the land good: the parts of a turn. -/
namespace Go.Ing
open Go
theorem Vector.Qj {α : Type} [Inhabited α] {n : Nat} (v : Vector α n) (k i : Int) (x : α) : (v.put k x).at i = x ∨ (v.put k x).at i = v.at i := by
 unfold Vector.put Vector.at
 rw [List.getD_eq_getElem?_getD, List.getD_eq_getElem?_getD]
 simp only [Vector.toList_setIfInBounds]
 rw [List.getElem?_set]
 split
 ·split
  ·exact .inl rfl
  ·rename_i h1 h2
   exact .inr (by rw [← h1, List.getElem?_eq_none (by omega)])
 ·exact .inr rfl
namespace AH
variable {X : AH}
def KS (X : AH) (i : Int) (t : Ak) : AH := { X with AX := X.AX.put i t }
def Cz (X : AH) (b : Int) (x : Al) : AH := { X with AW := X.AW.put b x }
def YW (X : AH) (r d : Int) (v : Bool) : AH := { X with Bx := X.Bx.put r { X.Bx.at r with shut := (X.Bx.at r).shut.put d v } }
theorem L1 (hg : X.Bs = true) {i : Int} (h0 : 0 ≤ i) (h9 : i < 9) : N5 X i := (Re (OA hg h0 h9)).p
theorem PI (hg : X.Bs = true) {i : Int} (h0 : 0 ≤ i) (h9 : i < 9) : ∃ m, Out X m i := by
 obtain ⟨m, _, h⟩ := Vc hg h0 h9; exact ⟨m, h⟩
theorem Pa {i j : Int} (h0 : 0 ≤ i) (h9 : i < 9) (j0 : 0 ≤ j) (hn : j ≠ i) (t : Ak) : (X.KS i t).AX.at j = X.AX.at j := Vector.E1 h0 h9 j0 hn
theorem MY {i : Int} (h0 : 0 ≤ i) (h9 : i < 9) (t : Ak) : (X.KS i t).AX.at i = t := Vector.CM h0 h9
theorem HI {i j : Int} (h0 : 0 ≤ i) (h9 : i < 6) (j0 : 0 ≤ j) (hn : j ≠ i) (t : Al) : (X.Cz i t).AW.at j = X.AW.at j := Vector.E1 h0 h9 j0 hn
theorem Eb {i : Int} (h0 : 0 ≤ i) (h9 : i < 6) (t : Al) : (X.Cz i t).AW.at i = t := Vector.CM h0 h9
theorem UZ (hg : X.Bs = true) {i : Int} (h0 : 0 ≤ i) (h9 : i < 9) {t : Ak} (hk : t.kind = (X.AX.at i).kind) (hp : N5 (X.KS i t) i) (ho : ∃ m, Out (X.KS i t) m i) : (X.KS i t).Bs = true := by
 have hs : ∀ j, 0 ≤ j → j < 9 → j ≠ i → (X.KS i t).AX.at j = X.AX.at j := fun j j0 _ hn => Pa h0 h9 j0 hn t
 refine S3 (fun r d r0 r6 d0 d6 => LR hg r0 r6 d0 d6) (fun b b0 b6 => Fm hg b0 b6) fun j j0 j9 => ?_
 obtain ⟨m, hm⟩ := PI hg j0 j9
 refine ⟨?_, Out.other hs ho j0 j9 hm⟩
 by_cases e : j = i
 ·subst e; exact hp
 ·have q := L1 hg j0 j9
  have hkk : ∀ a, 0 ≤ a → a < 9 → ((X.KS i t).AX.at a).kind = (X.AX.at a).kind := fun a a0 a9 => by
   by_cases ea : a = i
   ·subst ea; rw [MY h0 h9, hk]
   ·rw [hs a a0 a9 ea]
  have ej := hs j j0 j9 e
  refine ⟨by rw [ej]; exact q.k0, by rw [ej]; exact q.k3, by rw [ej]; exact q.plain, by rw [ej]; exact q.a0, ?_⟩
  rw [ej]
  rcases q.Cq with h | h | ⟨h1, h2, h3, h4⟩
  ·exact .inl h
  ·exact .inr (.inl h)
  ·exact .inr (.inr ⟨h1, h2, by rw [hkk _ q.a0 h2]; exact h3, h4⟩)
theorem JT (hg : X.Bs = true) {b : Int} (h0 : 0 ≤ b) (h6 : b < 6) {x : Al} (hx : DS x = false) (hh : ∀ i, 0 ≤ i → i < 9 → (X.AX.at i).Cq = 1 → (X.AX.at i).at_ = b → x.here = true) : (X.Cz b x).Bs = true := by
 refine S3 (fun r d r0 r6 d0 d6 => LR hg r0 r6 d0 d6) (fun c c0 c6 => ?_) fun j j0 j9 => ?_
 ·by_cases e : c = b
  ·subst e; rw [Eb h0 h6]; exact hx
  ·rw [HI h0 h6 c0 e]; exact Fm hg c0 c6
 ·obtain ⟨m, hm⟩ := PI hg j0 j9
  refine ⟨?_, m, Out.same (X := X) (Y := X.Cz b x) (fun _ _ _ => ⟨rfl, rfl⟩) j0 j9 hm⟩
  have q := L1 hg j0 j9
  refine ⟨q.k0, q.k3, q.plain, q.a0, ?_⟩
  rcases q.Cq with h | ⟨h1, h2, h3⟩ | h
  ·exact .inl h
  ·refine .inr (.inl ⟨h1, h2, ?_⟩)
   show ((X.Cz b x).AW.at (X.AX.at j).at_).here = true
   by_cases e : (X.AX.at j).at_ = b
   ·rw [e, Eb h0 h6]; exact hh j j0 j9 h1 e
   ·rw [HI h0 h6 q.a0 e]; exact h3
  ·exact .inr (.inr h)
/-! #### what is done to a thing -/
section
variable {i : Int} (hg : X.Bs = true) (h0 : 0 ≤ i) (h9 : i < 9)
include hg h0 h9
theorem RQ {v : Bool} {a : Int} (ha : 0 ≤ a ∧ a < 6) (hv : (X.AX.at i).kind = 0 → v = false) (hc : ¬ ((X.AX.at i).kind = 2 ∧ v = true)) : (X.KS i { X.AX.at i with on := v, Cq := 0, at_ := a }).Bs = true := by
 have q := L1 hg h0 h9
 refine UZ hg h0 h9 (by rfl) ?_ ⟨0, by show ((X.KS i _).AX.at i).Cq ≠ 2; rw [MY h0 h9]; intro hc; cases hc⟩
 refine ⟨?_, ?_, ?_, ?_, ?_⟩ <;> rw [MY h0 h9]
 ·exact q.k0
 ·exact q.k3
 ·exact hv
 ·exact ha.1
 ·exact .inl ⟨rfl, ha.2, hc⟩
end
end AH
end Go.Ing
/- What beings do keeps the land good: a turn. -/
namespace Go.Ing
open Go
namespace AH
end AH
namespace AG
structure Fit (T : AG) : Prop where
 b : 0 ≤ T.b ∧ T.b < 6
 br : T.w.Dz
 gd : T.w.Bs = true
 here : (T.w.AW.at T.b).here = true
structure Step (b : Int) (X Y : AH) : Prop where
 th : ∀ i, 0 ≤ i → i < 9 → (Y.AX.at i).name = (X.AX.at i).name ∧ (Y.AX.at i).kind = (X.AX.at i).kind
 own : ∀ i, 0 ≤ i → i < 9 → (X.AX.at i).Cq = 1 → (X.AX.at i).at_ ≠ b → Y.AX.at i = X.AX.at i
 be : ∀ c, 0 ≤ c → c < 6 → c ≠ b → { Y.AW.at c with B5 := 0 } = { X.AW.at c with B5 := 0 }
 ro : ∀ r, 0 ≤ r → r < 6 → (Y.Bx.at r).name = (X.Bx.at r).name ∧ (Y.Bx.at r).Lt = (X.Bx.at r).Lt ∧ (Y.Bx.at r).Da = (X.Bx.at r).Da
theorem Step.refl (b : Int) (X : AH) : Step b X X := ⟨fun _ _ _ => ⟨rfl, rfl⟩, fun _ _ _ _ _ => rfl, fun _ _ _ _ => rfl, fun _ _ _ => ⟨rfl, rfl, rfl⟩⟩
theorem Step.trans {b : Int} {X Y Z : AH} (h : Step b X Y) (k : Step b Y Z) : Step b X Z :=
  ⟨fun i h0 h9 => ⟨(k.th i h0 h9).1.trans (h.th i h0 h9).1, (k.th i h0 h9).2.trans (h.th i h0 h9).2⟩,
   fun i h0 h9 h1 h2 => by
    have e := h.own i h0 h9 h1 h2
    exact (k.own i h0 h9 (by rw [e]; exact h1) (by rw [e]; exact h2)).trans e,
   fun c h0 h6 hn => (k.be c h0 h6 hn).trans (h.be c h0 h6 hn),
   fun r h0 h6 => ⟨(k.ro r h0 h6).1.trans (h.ro r h0 h6).1, (k.ro r h0 h6).2.1.trans (h.ro r h0 h6).2.1, (k.ro r h0 h6).2.2.trans (h.ro r h0 h6).2.2⟩⟩
theorem Fit.PW {T T' : AG} (h : T.Fit) (hw : T'.w = T.w) (hb : T'.b = T.b) : T'.Fit := ⟨by rw [hb]; exact h.b, by rw [hw]; exact h.br, by rw [hw]; exact h.gd, by rw [hw, hb]; exact h.here⟩
theorem Fit.Bk {T : AG} (h : T.Fit) (e : Event) : (T.Bk e).Fit := h.PW rfl rfl
theorem Fit.tell {T : AG} (h : T.Fit) (s : As) : (T.tell s).Fit := h.PW rfl rfl
theorem Fit.room {T : AG} (h : T.Fit) : 0 ≤ (T.w.AW.at T.b).room ∧ (T.w.AW.at T.b).room < 6 := by
 have := AH.Fm h.gd h.b.1 h.b.2
 simp only [AH.DS, Bool.or_eq_false_iff, decide_eq_false_iff_not] at this
 omega
theorem Fit.exit {T : AG} (h : T.Fit) {d : Int} (d0 : 0 ≤ d) (d6 : d < 6) : 0 ≤ (T.w.Bx.at (T.w.AW.at T.b).room).Da.at d ∧ (T.w.Bx.at (T.w.AW.at T.b).room).Da.at d ≤ 6 := by
 have := AH.LR h.gd h.room.1 h.room.2 d0 d6
 simp only [AH.Ia, Bool.or_eq_false_iff, decide_eq_false_iff_not] at this
 omega
theorem R1 {X : AH} (h : X.Dz) {i : Int} {t : Ak} (ht : t.name.length ≤ 140737488351232) : (X.KS i t).Dz := ⟨fun j => by
 rcases Vector.Qj X.AX i j t with e | e
 ·show ((X.AX.put i t).at j).name.length ≤ _; rw [e]; exact ht
 ·show ((X.AX.put i t).at j).name.length ≤ _; rw [e]; exact h.th j, h.be, h.ro⟩
theorem EV {X : AH} (h : X.Dz) {i : Int} {t : Al} (ht : t.name.length ≤ 140737488351232) : (X.Cz i t).Dz := ⟨h.th, fun j => by
 rcases Vector.Qj X.AW i j t with e | e
 ·show ((X.AW.put i t).at j).name.length ≤ _; rw [e]; exact ht
 ·show ((X.AW.put i t).at j).name.length ≤ _; rw [e]; exact h.be j, h.ro⟩
theorem Ti {b : Int} {X : AH} {i : Int} (h0 : 0 ≤ i) (h9 : i < 9) {t : Ak} (hn : t.name = (X.AX.at i).name) (hk : t.kind = (X.AX.at i).kind) (ho : (X.AX.at i).Cq = 1 → (X.AX.at i).at_ = b) : Step b X (X.KS i t) :=
  ⟨fun j j0 _ => by
    by_cases e : j = i
    · subst e; rw [AH.MY h0 h9]; exact ⟨hn, hk⟩
    · rw [AH.Pa h0 h9 j0 e]; exact ⟨rfl, rfl⟩,
   fun j j0 _ h1 h2 => by
    by_cases e : j = i
    · subst e; exact absurd (ho h1) h2
    · rw [AH.Pa h0 h9 j0 e],
   fun _ _ _ _ => rfl, fun _ _ _ => ⟨rfl, rfl, rfl⟩⟩
theorem PA {b : Int} {X : AH} {i : Int} (h0 : 0 ≤ i) (h6 : i < 6) {t : Al} (hn : i ≠ b → { t with B5 := 0 } = { X.AW.at i with B5 := 0 }) : Step b X (X.Cz i t) :=
 ⟨fun _ _ _ => ⟨rfl, rfl⟩, fun _ _ _ _ _ => rfl, fun c c0 _ hc => by
  by_cases e : c = i
  ·subst e; rw [AH.Eb h0 h6]; exact hn hc
  ·rw [AH.HI h0 h6 c0 e], fun _ _ _ => ⟨rfl, rfl, rfl⟩⟩
structure GX (T T' : AG) : Prop where
 b : T'.b = T.b
 fit : T'.Fit
 st : Step T.b T.w T'.w
theorem GX.trans {T T' T'' : AG} (h : GX T T') (k : GX T' T'') : GX T T'' := ⟨k.b.trans h.b, k.fit, h.st.trans (by have := k.st; rwa [h.b] at this)⟩
theorem Fit.goes {T : AG} (h : T.Fit) : GX T T := ⟨rfl, h, .refl _ _⟩
theorem GX.PW {T T' T'' : AG} (h : GX T T') (hw : T''.w = T'.w) (hb : T''.b = T'.b) : GX T T'' := ⟨hb.trans h.b, h.fit.PW hw hb, by rw [hw]; exact h.st⟩
theorem SA {T : AG} (h : T.Fit) {r : Int} (hr : 0 ≤ r ∧ r < 6) : GX T (T.JP r) := by
 have hg := AH.Fm h.gd h.b.1 h.b.2
 have hme : ((T.JP r).w.AW.at T.b) = { T.me with room := r, B5 := 0 } := Vector.CM h.b.1 h.b.2
 refine ⟨rfl, ⟨h.b, EV h.br (h.br.be T.b), AH.JT h.gd h.b.1 h.b.2 ?_ fun _ _ _ _ _ => h.here, ?_⟩, PA h.b.1 h.b.2 fun hn => absurd rfl hn⟩
 ·unfold AH.DS at hg ⊢
  show (decide (r < 0) || decide (6 ≤ r) || decide ((T.w.AW.at T.b).BM < 0) || decide (10 < (T.w.AW.at T.b).BM) || decide ((0 : Int) < 0) || decide (6 < (0 : Int)) || (!(T.w.AW.at T.b).here && !decide ((0 : Int) = 0)) || (T.w.AW.at T.b).here != decide (0 < (T.w.AW.at T.b).BM)) = false
  simp only [Bool.or_eq_false_iff, decide_eq_false_iff_not] at hg ⊢
  refine ⟨⟨⟨⟨⟨⟨⟨by omega, by omega⟩, hg.1.1.1.1.1.2⟩, hg.1.1.1.1.2⟩, by decide⟩, by decide⟩, by simp⟩, hg.2⟩
 ·show ((T.JP r).w.AW.at T.b).here = true
  rw [hme]; exact h.here
end AG
end Go.Ing
/- What beings do keeps the land good: each order. -/
namespace Go.Ing
open Go
namespace AH
variable {X : AH}
theorem SD {Cq at_ i : Int} (h : i ∈ X.has Cq at_) : (X.AX.at i).Cq = Cq ∧ (X.AX.at i).at_ = at_ := by
 have := (List.mem_filter.1 h).2
 rw [Bool.and_eq_true] at this
 exact ⟨of_decide_eq_true this.1, of_decide_eq_true this.2⟩
theorem Tz (Cq at_ : Int) : (X.has Cq at_).Nodup := by
 unfold has
 exact List.Pairwise.filter _ (by decide)
end AH
namespace AG
/-! #### which things are meant -/
theorem Ek (w : AH) (l : List Int) (nth : Int) (name : As) (all : Bool) : (BQ w l nth name all).Sublist l := by
 unfold BQ
 split
 ·exact List.filter_sublist
 ·split
  ·exact List.nil_sublist _
  ·exact ((List.drop_sublist _ _).trans (List.take_sublist _ _)).trans List.filter_sublist
theorem Ea {w : AH} {l : List Int} {nth : Int} {name : As} {all : Bool} {i : Int} (h : i ∈ BQ w l nth name all) : i ∈ l := (Ek w l nth name all).mem h
def Sq (X : AH) (b i : Int) : Prop := 0 ≤ i ∧ i < 9 ∧ ((X.AX.at i).Cq = 1 → (X.AX.at i).at_ = b)
def bW (X : AH) (b i : Int) : Prop := 0 ≤ i ∧ i < 9 ∧ (X.AX.at i).Cq = 1 ∧ (X.AX.at i).at_ = b
theorem bW.W1 {X : AH} {b i : Int} (h : bW X b i) : Sq X b i := ⟨h.1, h.2.1, fun _ => h.2.2.2⟩
theorem HY {T : AG} {i : Int} (h : i ∈ T.own) : bW T.w T.b i := ⟨(AH.Gb h).1, (AH.Gb h).2, (AH.SD h).1, (AH.SD h).2⟩
theorem I0 {T : AG} {i : Int} (h : i ∈ T.seen) : 0 ≤ i ∧ i < 9 ∧ (T.w.AX.at i).Cq = 0 := by
 unfold seen at h
 split at h
 ·cases h
 ·exact ⟨(AH.Gb h).1, (AH.Gb h).2, (AH.SD h).1⟩
theorem Ux {T : AG} {i : Int} (h : i ∈ T.seen) : Sq T.w T.b i := by
 obtain ⟨h0, h9, e⟩ := I0 h
 exact ⟨h0, h9, fun e1 => by omega⟩
theorem RO {l : List Int} (h : (decide ((l.length : Int) = 0)) = false) : l.getD 0 0 ∈ l := by
 have h' : (l.length : Int) ≠ 0 := of_decide_eq_false h
 exact Bc.Ei (by omega)
theorem Np {T : AG} {u : As} (h : (T.one u).2 = true) : Sq T.w T.b (T.one u).1 := by
 unfold one at h ⊢
 split at h
 ·cases h
 ·rename_i h1
  rw [if_neg h1]
  split at h
  ·cases h
  ·rename_i h2
   rw [if_neg h2]
   have hm := Ea (RO (Bool.not_eq_true _ ▸ h2))
   rcases List.mem_append.1 hm with hm | hm
   ·exact (HY hm).W1
   ·exact Ux hm
/-! #### a box, somebody -/
theorem Ob (T : AG) (u : As) : (T.box u).1.w = T.w ∧ (T.box u).1.b = T.b := by
 unfold box
 split
 ·exact ⟨rfl, rfl⟩
 ·split <;> exact ⟨rfl, rfl⟩
theorem Y8 {T : AG} {u : As} (h : (T.box u).2.2 = true) : 0 ≤ (T.box u).2.1 ∧ (T.box u).2.1 < 9 ∧ (T.w.AX.at (T.box u).2.1).kind = 3 ∧ (T.box u).1 = T := by
 unfold box at h ⊢
 split at h
 ·cases h
 ·rename_i h1
  rw [if_neg h1]
  split at h
  ·cases h
  ·rename_i h2
   rw [if_neg h2]
   simp only [Bool.or_eq_true, Bool.not_eq_true', decide_eq_false_iff_not, not_or, Bool.not_eq_false, Decidable.not_not] at h1
   have hm := Np h1.1
   exact ⟨hm.1, hm.2.1, h1.2, rfl⟩
theorem K1 {T : AG} {name : As} {k : Int} : ∀ {r : Nat} {n : Int}, r ≤ 6 → T.Hs name r n = some k → 0 ≤ k ∧ k < 6 ∧ k ≠ T.b ∧ T.w.Hy T.b k = true
 | 0, _, _, h => by cases h
 | r + 1, n, hr, h => by
  unfold Hs at h
  split at h
  ·exact K1 (by omega) h
  ·rename_i h1
   split at h
   ·cases h
    simp only [Bool.or_eq_true, decide_eq_true_eq, Bool.not_eq_true', not_or, Bool.not_eq_false] at h1
    exact ⟨by omega, by omega, h1.1.1, h1.2⟩
   ·exact K1 (by omega) h
theorem N2 (T : AG) (u : As) : (T.BN u).1.w = T.w ∧ (T.BN u).1.b = T.b := by
 unfold BN
 split
 ·split <;> exact ⟨rfl, rfl⟩
 ·exact ⟨rfl, rfl⟩
theorem Ql {T : AG} {u : As} (h : (T.BN u).2.2 = true) : 0 ≤ (T.BN u).2.1 ∧ (T.BN u).2.1 < 6 ∧ (T.BN u).2.1 ≠ T.b ∧ T.w.Hy T.b (T.BN u).2.1 = true := by
 unfold BN at h ⊢
 split at h
 ·rename_i h1
  rw [if_pos h1]
  split at h
  ·rename_i k hk
   exact K1 (Nat.le_refl _) hk
  ·cases h
 ·cases h
/-! #### taking and letting go -/
theorem OR {T : AG} (h : T.Fit) {i : Int} (hm : Sq T.w T.b i) {t : Ak} (hn : t.name = (T.w.AX.at i).name) (hk : t.kind = (T.w.AX.at i).kind) (hg : (T.w.KS i t).Bs = true) : GX T (T.EB i t) :=
 ⟨rfl, ⟨h.b, R1 h.br (by rw [hn]; exact h.br.th i), hg, h.here⟩, Ti hm.1 hm.2.1 hn hk hm.2.2⟩
theorem LA {T : AG} {i j Cq at_ : Int} (h0 : 0 ≤ i) (h9 : i < 9) (j0 : 0 ≤ j) : (T.place i Cq at_).w.AX.at j = if j = i then { T.w.AX.at i with Cq := Cq, at_ := at_ } else T.w.AX.at j := KA _ _ _ _ h0 h9 j0
def Qa (T : AG) (v to : Int) : Prop := (v = 8) ∨ (v = 10 ∧ 0 ≤ to ∧ to < 6 ∧ (T.w.AW.at to).here = true) ∨ (v ≠ 8 ∧ v ≠ 10 ∧ 0 ≤ to ∧ to < 9 ∧ (T.w.AX.at to).kind = 3)
theorem Qa.next {T T' : AG} {v to : Int} (h : Qa T v to) (hb : T'.w.AW = T.w.AW) (hk : ∀ i, 0 ≤ i → i < 9 → (T'.w.AX.at i).kind = (T.w.AX.at i).kind) : Qa T' v to := by
 rcases h with h | ⟨h1, h2, h3, h4⟩ | ⟨h1, h2, h3, h4, h5⟩
 ·exact .inl h
 ·exact .inr (.inl ⟨h1, h2, h3, by rw [hb]; exact h4⟩)
 ·exact .inr (.inr ⟨h1, h2, h3, h4, by rw [hk _ h3 h4]; exact h5⟩)
end AG
end Go.Ing
/- What walks through a turn need. -/
namespace Go.Ing
open Go
theorem Jb {α : Type} {l : List α} {k : Int} {d : α} (h0 : 0 ≤ k) (h1 : k < l.length) : l.take (k + 1).toNat = l.take k.toNat ++ [l.getD k.toNat d] := by
 obtain ⟨m, rfl⟩ := Int.eq_ofNat_of_zero_le h0
 have hm : m < l.length := by omega
 rw [show ((m : Int) + 1).toNat = m + 1 by omega, show ((m : Int)).toNat = m by omega, List.take_add_one, List.getElem?_eq_getElem hm, List.getD_eq_getElem?_getD, List.getElem?_eq_getElem hm]
 rfl
theorem AH.Pj (d : Int) : 0 ≤ AH.opposite d ∧ AH.opposite d < 6 := by
 unfold AH.opposite
 have h := Int.tmod_nonneg (a := max 0 (min d 5) + 3) 6 (by omega)
 have h2 := Int.tmod_lt_of_pos (max 0 (min d 5) + 3) (show (0 : Int) < 6 by decide)
 exact ⟨h, h2⟩
theorem Words.Qv {s : As} : ∀ {n : Nat}, n ≤ 6 → (Words.Nd s n).2 = true → 0 ≤ (Words.Nd s n).1 ∧ (Words.Nd s n).1 < 6
 | 0, _, h => by cases h
 | n + 1, hn, h => by
  unfold Words.Nd at h ⊢
  split
  ·rename_i c
   show 0 ≤ ((5 - n : Nat) : Int) ∧ ((5 - n : Nat) : Int) < 6
   omega
  ·rename_i c
   rw [if_neg c] at h
   exact Words.Qv (by omega) h
theorem Words.Xr {s : As} (h : (Words.dir s).2 = true) : 0 ≤ (Words.dir s).1 ∧ (Words.dir s).1 < 6 := Words.Qv (Nat.le_refl _) h
namespace AG
theorem XT {w : AH} {u : As} {l : List Int} {k : Int} (h0 : 0 ≤ k) (h1 : k < l.length) (c : (decide (u = []) || decide ((w.AX.at (l.getD k.toNat 0)).name = u)) = true) : Im w u (l.take (k + 1).toNat) = Im w u (l.take k.toNat) ++ [l.getD k.toNat 0] := by
 rw [Jb (d := 0) h0 h1, Im, List.filter_append, List.filter_cons, if_pos c]; rfl
theorem Wu {w : AH} {u : As} {l : List Int} {k : Int} (h0 : 0 ≤ k) (h1 : k < l.length) (c : (decide (u = []) || decide ((w.AX.at (l.getD k.toNat 0)).name = u)) = false) : Im w u (l.take (k + 1).toNat) = Im w u (l.take k.toNat) := by
 rw [Jb (d := 0) h0 h1, Im, List.filter_append, List.filter_cons, if_neg (by rw [c]; decide)]; simp [Im]
theorem Ua (w : AH) (u : As) (l : List Int) : (Im w u l).length ≤ l.length := List.length_filter_le _ _
theorem JX (T : AG) : T.own.length ≤ 9 := AH.Ho _ _ _
theorem H0 (T : AG) : T.seen.length ≤ 9 := by
 unfold seen; split
 ·simp
 ·exact AH.Ho _ _ _
theorem Py {T : AG} {i : Int} (h : i ∈ T.own ++ T.seen) : 0 ≤ i ∧ i < 9 := by
 rcases List.mem_append.1 h with h | h
 ·exact ⟨(HY h).1, (HY h).2.1⟩
 ·exact ⟨(I0 h).1, (I0 h).2.1⟩
theorem Ks {T : AG} {i : Int} (h : i ∈ T.own) : 0 ≤ i ∧ i < 9 := ⟨(HY h).1, (HY h).2.1⟩
theorem N8 {T : AG} {i : Int} (h : i ∈ T.seen) : 0 ≤ i ∧ i < 9 := ⟨(I0 h).1, (I0 h).2.1⟩
theorem S8 (T : AG) (u : As) : 0 ≤ (T.one u).1 ∧ (T.one u).1 < 9 := by
 by_cases h : (T.one u).2 = true
 ·exact ⟨(Np h).1, (Np h).2.1⟩
 ·unfold one at h ⊢
  split
  ·exact ⟨Int.le_refl _, by decide⟩
  ·rename_i h1
   rw [if_neg h1] at h
   split
   ·exact ⟨Int.le_refl _, by decide⟩
   ·rename_i h2
    rw [if_neg h2] at h
    exact absurd rfl h
theorem XN (T : AG) (u : As) : 0 ≤ (T.box u).2.1 ∧ (T.box u).2.1 < 9 := by
 have h := T.S8 u
 unfold box
 split
 ·exact ⟨Int.le_refl _, show (0 : Int) < 9 by decide⟩
 ·split
  ·exact ⟨Int.le_refl _, show (0 : Int) < 9 by decide⟩
  ·exact h
theorem HP (T : AG) (u : As) : (T.box u).1.out.length ≤ T.out.length + 1 := by
 unfold box
 split
 ·simp
 ·split <;> simp
theorem K5 (T : AG) (u : As) : 0 ≤ (T.BN u).2.1 ∧ (T.BN u).2.1 < 6 := by
 unfold BN
 split
 ·split
  ·rename_i k hk
   have := K1 (Nat.le_refl _) hk
   exact ⟨this.1, this.2.1⟩
  ·exact ⟨Int.le_refl _, show (0 : Int) < 6 by decide⟩
 ·exact ⟨Int.le_refl _, show (0 : Int) < 6 by decide⟩
theorem GY (T : AG) (u : As) : (T.BN u).1.out.length ≤ T.out.length + 1 := by
 unfold BN
 split
 ·split <;> simp
 ·simp
theorem Vo (T : AG) (hb : 0 ≤ T.b ∧ T.b < 6) (r : Int) : ({ T.w with AW := (T.w.AW.put T.b { T.w.AW.at T.b with room := r }).put T.b { (T.w.AW.put T.b { T.w.AW.at T.b with room := r }).at T.b with B5 := 0 } } : AH) = (T.JP r).w := by
 rw [Vector.CM hb.1 hb.2, Vector.ER]; rfl
theorem Gp (T : AG) {i : Int} (h0 : 0 ≤ i) (h9 : i < 9) (wh a : Int) : ({ T.w with AX := (T.w.AX.put i { T.w.AX.at i with Cq := wh }).put i { (T.w.AX.put i { T.w.AX.at i with Cq := wh }).at i with at_ := a } } : AH) = (T.place i wh a).w := by
 rw [Vector.CM h0 h9, Vector.ER]; rfl
theorem Dl {T : AG} {i : Int} (h0 : 0 ≤ i) (h9 : i < 9) (wh a : Int) : ((T.place i wh a).w.AX.at i).name = (T.w.AX.at i).name := by
 rw [LA h0 h9 h0, if_pos rfl]
theorem DJ {T : AG} {i j : Int} (h0 : 0 ≤ i) (h9 : i < 9) (j0 : 0 ≤ j) (wh a : Int) : ((T.place i wh a).w.AX.at j).name = (T.w.AX.at j).name := by
 rw [LA h0 h9 j0]
 split
 ·rename_i e; subst e; rfl
 ·rfl
theorem UN (T : AG) {i : Int} (h0 : 0 ≤ i) (h9 : i < 9) (c : decide ((T.w.AX.at i).kind = 2) = true) : ({ T.w with AX := (((T.w.AX.put i { T.w.AX.at i with on := false }).put i { (T.w.AX.put i { T.w.AX.at i with on := false }).at i with Cq := 0 }).put i { ((T.w.AX.put i { T.w.AX.at i with on := false }).put i { (T.w.AX.put i { T.w.AX.at i with on := false }).at i with Cq := 0 }).at i with at_ := (T.w.AW.at T.b).room }) } : AH) = (T.Ee i).w := by
 rw [Vector.CM h0 h9, Vector.ER, Vector.CM h0 h9, Vector.ER]
 unfold Ee
 rw [if_pos c]; rfl
theorem Tp (T : AG) {i : Int} (h0 : 0 ≤ i) (h9 : i < 9) (c : decide ((T.w.AX.at i).kind = 2) = false) : ({ T.w with AX := (T.w.AX.put i { T.w.AX.at i with Cq := 0 }).put i { (T.w.AX.put i { T.w.AX.at i with Cq := 0 }).at i with at_ := (T.w.AW.at T.b).room } } : AH) = (T.Ee i).w := by
 rw [Vector.CM h0 h9, Vector.ER]
 unfold Ee
 rw [if_neg (by rw [c]; decide)]; rfl
theorem Gf {X : AG} {l : List Int} {k : Int} (h0 : 0 ≤ k) (h1 : k < l.length) : X.Df (l.drop k.toNat) = ((X.place (l.getD k.toNat 0) 1 X.b).B1 3 (l.getD k.toNat 0)).Df (l.drop (k + 1).toNat) := by
 rw [Mb h0 h1]; rfl
theorem LO {X : AG} {l : List Int} {k : Int} (h0 : 0 ≤ k) (h1 : k < l.length) : X.Ck (l.drop k.toNat) = (X.Ee (l.getD k.toNat 0)).Ck (l.drop (k + 1).toNat) := by
 rw [Mb h0 h1]; rfl
theorem JE {α : Type} {l : List α} : l.drop (l.length : Int).toNat = [] := by rw [show (l.length : Int).toNat = l.length by omega, List.drop_length]
theorem OB {T : AG} {k : Int} (h : 0 ≤ k) : T.Dw (k + 1).toNat = if decide (((T.Dw k.toNat).w.AW.at k).B5 = T.b + 1) = true then (T.Dw k.toNat).DV k 0 else T.Dw k.toNat := by
 obtain ⟨m, rfl⟩ := Int.eq_ofNat_of_zero_le h
 rfl
theorem P1 (T : AG) : ∀ k : Nat, (T.Dw k).b = T.b ∧ (T.Dw k).out = T.out
 | 0 => ⟨rfl, rfl⟩
 | k + 1 => by
  unfold Dw; split
  ·exact P1 T k
  ·exact P1 T k
theorem ID : ∀ (l : List Int) (T : AG), (T.Ck l).b = T.b ∧ (T.Ck l).out = T.out
 | [], T => ⟨rfl, rfl⟩
 | i :: r, T => by rw [Ck]; exact ID r _
theorem KM {T : AG} {name : As} {k n : Int} (h0 : 0 ≤ k) (h6 : k < 6) : T.Hs name (6 - k).toNat n = if (decide (k = T.b) || !decide ((T.w.AW.at k).name = name) || !T.w.Hy T.b k) = true then T.Hs name (6 - (k + 1)).toNat n else if decide (n - 1 = 0) = true then some k else T.Hs name (6 - (k + 1)).toNat (n - 1) := by
 obtain ⟨m, rfl⟩ := Int.eq_ofNat_of_zero_le h0
 have e : (6 - (m : Int)).toNat = (6 - ((m : Int) + 1)).toNat + 1 := by omega
 rw [e, Hs, show (((6 - ((6 - ((m : Int) + 1)).toNat + 1) : Nat)) : Int) = (m : Int) by omega]
@[simp] theorem FE (T : AG) (k i : Int) : (T.B1 k i).out.length = T.out.length + 1 := by simp [B1]
@[simp] theorem Kk (T : AG) (k : Int) : (T.kind k).out.length = T.out.length + 1 := by simp [kind]
theorem Q1 (T : AG) (b f : Int) : (T.DV b f).b = T.b ∧ (T.DV b f).out = T.out := ⟨rfl, rfl⟩
theorem Ru (T : AG) : T.GC.b = T.b ∧ T.GC.out = T.out := by
 unfold GC
 rw [(Q1 _ _ _).1, (Q1 _ _ _).2]
 have h1 := AG.ID T.own T
 have h2 := AG.P1 (T.Ck T.own) 6
 exact ⟨h2.1.trans h1.1, h2.2.trans h1.2⟩
theorem DR (T : AG) (b : Int) (x : Al) : (T.DF b x).b = T.b ∧ (T.DF b x).out = T.out ∧ (T.DF b x).w = { T.w with AW := T.w.AW.put b x } := ⟨rfl, rfl, rfl⟩
theorem VS (T : AG) : T.LB.b = (T.kind 18).b ∧ T.LB.out = (T.kind 18).out ∧ T.LB.w = { (T.kind 18).GC.w with AW := (T.kind 18).GC.w.AW.put (T.kind 18).b default } := by
 unfold LB
 rw [(DR _ _ _).1, (DR _ _ _).2.1, (DR _ _ _).2.2]
 exact ⟨(Ru _).1, (Ru _).2, rfl⟩
theorem Q0 {l : List Int} (h : ∀ i ∈ l, 0 ≤ i ∧ i < 9) : 0 ≤ l.getD (0 : Int).toNat 0 ∧ l.getD (0 : Int).toNat 0 < 9 := by
 cases l with
 | nil => exact ⟨Int.le_refl _, show (0 : Int) < 9 by decide⟩
 | cons x r => exact h x (List.mem_cons_self ..)
theorem Nt (T : AG) (v to i : Int) : (T.DQ v to i).out.length ≤ T.out.length + 1 := by
 unfold DQ
 split
 ·simp
 ·split
  ·rw [FE]; exact Nat.le_refl _
  ·split
   ·rw [CU]; exact Nat.le_refl _
   ·split
    ·simp
    ·rw [CU]; exact Nat.le_refl _
theorem Vg (T : AG) (v to i : Int) : (T.DQ v to i).b = T.b := by
 unfold DQ
 split
 ·rfl
 ·split
  ·rfl
  ·split
   ·rfl
   ·split <;> rfl
theorem Ox (T : AG) (o : Order) : (T.DG o).1.out.length ≤ T.out.length + 1 := by
 unfold DG
 split
 ·exact T.HP _
 ·split
  ·exact T.GY _
  ·exact Nat.le_succ _
theorem Uc {X : AH} {b : Int} (hw : X.Dz) (c1 : (!X.Bs) = false) (c2 : (decide (b < 0) || decide (6 ≤ b) || !(X.AW.at b).here) = false) : Fit ⟨X, b, []⟩ := by
 simp only [Bool.or_eq_false_iff, decide_eq_false_iff_not, Bool.not_eq_false'] at c1 c2
 exact ⟨⟨by show 0 ≤ b; omega, by show b < 6; omega⟩, hw, c1, c2.2⟩
end AG
end Go.Ing
/- Engine: texts deep within what came in, as parts of its reading. -/
namespace Go.Ing
open Go
section
open Go.RowKit Go.ChangeShapes Go.WideShapes Go.ChangeAt
variable {H : Type} {enc : TypeId × Value → H} {P : Program} {w : World}
end
end Go.Ing
/- Laws of what beings do: doors; that rules answer at all. -/
namespace Go.Ing
open Go
theorem Vector.NA {α : Type} [Inhabited α] {n : Nat} (v : Vector α n) (i : Int) : v.at i = default ∨ ∃ j : Int, 0 ≤ j ∧ j < n ∧ v.at i = v.at j := by
 by_cases h : i.toNat < n
 ·exact .inr ⟨(i.toNat : Int), by omega, by omega, by unfold Vector.at; rw [show ((i.toNat : Nat) : Int).toNat = i.toNat by omega]⟩
 ·refine .inl ?_
  unfold Vector.at
  rw [List.getD_eq_getElem?_getD, List.getElem?_eq_none (by simp; omega)]
  rfl
namespace AG
end AG
end Go.Ing
/- What beings do keeps the land good: all orders. -/
namespace Go.Ing
open Go
namespace AG
theorem L8 {T : AG} (h : T.Fit) {c f : Int} (c0 : 0 ≤ c) (c6 : c < 6) (f0 : 0 ≤ f) (f6 : f ≤ 6) (hh : f ≠ 0 → (T.w.AW.at c).here = true) : GX T (T.DV c f) := by
 have hg := AH.Fm h.gd c0 c6
 have hb : ∀ a, 0 ≤ a → ((T.DV c f).w.AW.at a).here = (T.w.AW.at a).here := fun a a0 => by
  show ((T.w.AW.put c { T.w.AW.at c with B5 := f }).at a).here = _
  rw [KA _ _ _ _ c0 c6 a0]
  split
  ·rename_i e; subst e; rfl
  ·rfl
 refine ⟨rfl, ⟨h.b, EV h.br (h.br.be c), AH.JT h.gd c0 c6 ?_ fun i i0 i9 hw ha => ?_, (hb T.b h.b.1).trans h.here⟩, PA c0 c6 fun _ => rfl⟩
 ·unfold AH.DS at hg ⊢
  simp only [Bool.or_eq_false_iff, decide_eq_false_iff_not, Bool.and_eq_false_iff, Bool.not_eq_false'] at hg ⊢
  obtain ⟨⟨⟨⟨⟨⟨⟨q1, q2⟩, q3⟩, q4⟩, q5⟩, q6⟩, q7⟩, q8⟩ := hg
  refine ⟨⟨⟨⟨⟨⟨⟨q1, q2⟩, q3⟩, q4⟩, by omega⟩, by omega⟩, ?_⟩, q8⟩
  by_cases e : f = 0
  ·exact .inr (by simp [e])
  ·exact .inl (hh e)
 ·show (T.w.AW.at c).here = true
  have := AH.L1 h.gd i0 i9
  rcases this.Cq with ⟨a, _⟩ | ⟨_, _, a⟩ | ⟨a, _⟩
  ·omega
  ·rw [ha] at a; exact a
  ·omega
theorem JR {T : AG} {i j : Int} (h0 : 0 ≤ i) (h9 : i < 9) (j0 : 0 ≤ j) : (T.Ee i).w.AX.at j = if j = i then { T.w.AX.at i with on := if decide ((T.w.AX.at i).kind = 2) = true then false else (T.w.AX.at i).on, Cq := 0, at_ := T.me.room } else T.w.AX.at j := KA _ _ _ _ h0 h9 j0
theorem P4 {T : AG} (h : T.Fit) {i : Int} (hm : Sq T.w T.b i) : GX T (T.Ee i) :=
 OR h hm rfl rfl (AH.RQ h.gd hm.1 hm.2.1 h.room (fun e => by rw [if_neg (by rw [e]; decide)]; exact (AH.L1 h.gd hm.1 hm.2.1).plain e) (fun ⟨e1, e2⟩ => by rw [if_pos (decide_eq_true e1)] at e2; cases e2))
theorem IN : ∀ {l : List Int} {T : AG}, T.Fit → (∀ i ∈ l, Sq T.w T.b i) → GX T (T.Ck l) ∧ ∀ j, 0 ≤ j → j < 9 → (((T.Ck l).w.AX.at j).Cq = 0 ∨ (j ∉ l ∧ (T.Ck l).w.AX.at j = T.w.AX.at j))
 | [], T, h, _ => ⟨h.goes, fun j _ _ => .inr ⟨by simp, rfl⟩⟩
 | i :: r, T, h, hm => by
  have hi := hm i (List.mem_cons_self ..)
  have g1 := P4 h hi
  obtain ⟨g2, k2⟩ := IN (l := r) g1.fit fun j hj => by
   have hj' := hm j (List.mem_cons_of_mem _ hj)
   refine ⟨hj'.1, hj'.2.1, ?_⟩
   rw [JR hi.1 hi.2.1 hj'.1]
   split
   ·intro e; cases e
   ·exact hj'.2.2
  refine ⟨g1.trans g2, fun j j0 j9 => ?_⟩
  rcases k2 j j0 j9 with e | ⟨e1, e2⟩
  ·exact .inl e
  ·have hd := JR (T := T) hi.1 hi.2.1 j0
   by_cases hji : j = i
   ·rw [if_pos hji] at hd
    exact .inl (by rw [show (T.Ck (i :: r)).w.AX.at j = _ from e2, hd])
   ·rw [if_neg hji] at hd
    exact .inr ⟨by simp [hji, e1], e2.trans hd⟩
theorem KG {T : AG} (h : T.Fit) : ∀ {k : Nat}, k ≤ 6 → GX T (T.Dw k) ∧ (T.Dw k).w.AX = T.w.AX
 | 0, _ => ⟨h.goes, rfl⟩
 | k + 1, hk => by
  obtain ⟨g, e⟩ := KG (k := k) h (by omega)
  unfold Dw
  split
  ·exact ⟨g.trans (L8 g.fit (by omega) (by omega) (Int.le_refl _) (by decide) fun e => absurd rfl e), e⟩
  ·exact ⟨g, e⟩
theorem Mc (T : AG) : T.GC = ((T.Ck T.own).Dw 6).DV T.b 0 := by unfold GC; rfl
theorem XO {T : AG} (h : T.Fit) : GX T T.GC := by
 have g1 := (IN h (l := T.own) fun i hi => (HY hi).W1).1
 have g2 := (KG g1.fit (k := 6) (Nat.le_refl _)).1
 have g3 := g1.trans g2
 have g4 := L8 g3.fit (c := T.b) (f := 0) h.b.1 h.b.2 (Int.le_refl _) (by decide) (fun e => (e rfl).elim)
 rw [Mc]
 exact g3.trans g4
theorem OT (T : AG) (b f : Int) : (T.DV b f).w.AX = T.w.AX := rfl
theorem RY {T : AG} (h : T.Fit) {j : Int} (j0 : 0 ≤ j) (j9 : j < 9) : ¬ ((T.GC.w.AX.at j).Cq = 1 ∧ (T.GC.w.AX.at j).at_ = T.b) := by
 obtain ⟨g1, k1⟩ := IN h (l := T.own) fun i hi => (HY hi).W1
 have k2 := (KG g1.fit (k := 6) (Nat.le_refl _)).2
 rw [Mc, OT, k2]
 rcases k1 j j0 j9 with e | ⟨e1, e2⟩
 ·rw [e]; exact fun h => by cases h.1
 ·rw [e2]
  intro ⟨a, b⟩
  refine e1 ?_
  unfold own AH.has
  exact List.mem_filter.2 ⟨List.mem_map.2 ⟨j.toNat, List.mem_range.2 (by omega), by show ((j.toNat : Nat) : Int) = j; omega⟩, by rw [a, b]; simp⟩
theorem Uj {T : AG} (h : T.Fit) : GX T T.GC ∧ ∀ j, 0 ≤ j → j < 9 → ¬ ((T.GC.w.AX.at j).Cq = 1 ∧ (T.GC.w.AX.at j).at_ = T.b) := ⟨XO h, fun _ j0 j9 => RY h j0 j9⟩
end AG
end Go.Ing
