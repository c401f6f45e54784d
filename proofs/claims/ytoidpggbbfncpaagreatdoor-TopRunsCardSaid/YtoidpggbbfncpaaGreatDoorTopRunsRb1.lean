/- What the functions that the law of this seat reaches compute, and the plain laws of it. No condition. -/
import Derived.Test.YtoidpggbbfncpaaGreatDoorTopRunsEc3
import Derived.Test.YtoidpggbbfncpaaGreatDoorTopRunsRa1
set_option linter.unusedSimpArgs false
set_option linter.unusedVariables false
/- What people type: plain functions, and what is known of pieces. -/
namespace Go.Ing
open Go
namespace Words
theorem Ku (c : UInt8) : ∀ s : Aq, (Lib.indexByte s c = -1 ∧ c ∉ s) ∨ ∃ i : Nat, Lib.indexByte s c = i ∧ i < s.length ∧ c ∉ s.take i ∧ s.drop i = c :: s.drop (i + 1)
 | [] => .inl ⟨rfl, by simp⟩
 | b :: r => by
  by_cases h : b = c
  ·subst h
   exact .inr ⟨0, by simp [Lib.indexByte], by simp, by simp, by simp⟩
  ·have hb : (b == c) = false := by simpa using h
   rcases Ku c r with ⟨h1, h2⟩ | ⟨i, h1, h2, h3, h4⟩
   ·exact .inl ⟨by simp [Lib.indexByte, hb, h1], by simp [Ne.symm h, h2]⟩
   ·refine .inr ⟨i + 1, ?_, by simp; omega, ?_, by simpa using h4⟩
    ·have : ((i : Int) == -1) = false := by simp
     simp [Lib.indexByte, hb, h1, this]
    ·simp [Ne.symm h, h3]
def pieces (c : UInt8) : Aq → List Aq
 | [] => [[]]
 | x :: r => if x = c then [] :: pieces c r else (x :: (pieces c r).headD []) :: (pieces c r).tail
theorem Oi (c : UInt8) (s : Aq) : pieces c s ≠ [] := by
 cases s with
 | nil => simp [pieces]
 | cons x r => unfold pieces; split <;> simp
theorem Ji {c : UInt8} : ∀ {s : Aq}, c ∉ s → pieces c s = [s]
 | [], _ => rfl
 | x :: r, h => by
  simp only [List.mem_cons, not_or] at h
  rw [pieces, if_neg (Ne.symm h.1), Ji h.2]; rfl
theorem KX {c : UInt8} (r : Aq) : ∀ {a : Aq}, c ∉ a → pieces c (a ++ c :: r) = a :: pieces c r
 | [], _ => by simp [pieces]
 | x :: a, h => by
  simp only [List.mem_cons, not_or] at h
  rw [List.cons_append, pieces, if_neg (Ne.symm h.1), KX r h.2]; rfl
theorem Ey (c : UInt8) : ∀ s : Aq, (pieces c s).length = s.count c + 1
 | [] => rfl
 | x :: r => by
  unfold pieces
  have ih := Ey c r
  have hne := Oi c r
  split
  ·rename_i h; simp [h, ih]
  ·rename_i h
   have : (x == c) = false := by simpa using h
   rw [List.count_cons, this]
   obtain ⟨p, q, hp⟩ := List.exists_cons_of_ne_nil hne
   rw [hp] at ih ⊢
   simpa using ih
theorem SH {c : UInt8} {s : Aq} {i : Nat} (h3 : c ∉ s.take i) (h4 : s.drop i = c :: s.drop (i + 1)) : pieces c s = s.take i :: pieces c (s.drop (i + 1)) := by
 conv => lhs; rw [← List.take_append_drop i s, h4]
 exact KX _ h3
/-! #### small letters -/
def Te (c : UInt8) : UInt8 := if (decide (65 ≤ (c.toNat : Int)) && decide ((c.toNat : Int) ≤ 90)) = true then u8 ((c.toNat : Int) + 97 - 65) else c
def low (w : Aq) : Aq := w.map Te
def words (s : Aq) : List Aq := ((pieces 32 s).filter fun w => !decide (w = [])).map low
theorem Wv {c : UInt8} (h : (decide (65 ≤ (c.toNat : Int)) && decide ((c.toNat : Int) ≤ 90)) = true) : u8 ((c.toNat : Int) + 97 - 65) = Te c := (if_pos h).symm
theorem WX {c : UInt8} (h : (decide (65 ≤ (c.toNat : Int)) && decide ((c.toNat : Int) ≤ 90)) = false) : Te c = c := if_neg (by rw [h]; decide)
def G4 (w : Aq) (k : Nat) : Aq := (w.take k).map Te ++ w.drop k
theorem MR (w : Aq) (k : Nat) : (G4 w k).length = w.length := by simp [G4]; omega
theorem Sx {w : Aq} {k : Int} (h0 : 0 ≤ k) (h1 : k < w.length) : (G4 w k.toNat).getD k.toNat 0 = w.getD k.toNat 0 := by
 have hk : k.toNat < w.length := by omega
 unfold G4
 rw [List.getD_eq_getElem?_getD, List.getElem?_append_right (by simp; omega)]
 simp [List.getD_eq_getElem?_getD, Nat.min_eq_left (Nat.le_of_lt hk)]
theorem Vx (w : Aq) : G4 w w.length = low w := by simp [G4, low]
theorem QL {w : Aq} {k : Int} (h0 : 0 ≤ k) (h1 : k < w.length) : (G4 w k.toNat).set k.toNat (Te (w.getD k.toNat 0)) = G4 w (k + 1).toNat := by
 obtain ⟨n, rfl⟩ := Int.eq_ofNat_of_zero_le h0
 have hn : n < w.length := by omega
 rw [show ((n : Int)).toNat = n by omega, show ((n : Int) + 1).toNat = n + 1 by omega]
 unfold G4
 rw [List.drop_eq_getElem_cons hn, List.set_append_right _ _ (by simp; omega)]
 simp only [List.length_map, List.length_take, Nat.min_eq_left (Nat.le_of_lt hn), Nat.sub_self, List.set_cons_zero]
 rw [List.take_add_one, List.map_append, List.append_assoc]
 simp [List.getD_eq_getElem?_getD, hn]
theorem UL {w : Aq} {k : Int} (h0 : 0 ≤ k) (h1 : k < w.length) (h : Te (w.getD k.toNat 0) = w.getD k.toNat 0) : G4 w k.toNat = G4 w (k + 1).toNat := by
 rw [← QL h0 h1, h]
 have hk : k.toNat < (G4 w k.toNat).length := by rw [MR]; omega
 have e := Sx h0 h1
 rw [← e, List.getD_eq_getElem?_getD, List.getElem?_eq_getElem hk]
 simp
structure Mj (c : UInt8) (s : Aq) (i : Int) (r : Aq) (xs : List Aq) : Prop where
 i0 : 0 ≤ i
 i1 : i ≤ s.count c
 len : xs.length = s.count c + 1
 eq : pieces c s = xs.take i.toNat ++ pieces c r
 rl : r.length ≤ s.length
theorem Mj.start (c : UInt8) (s : Aq) (n : Nat) (hn : n = s.count c + 1) : Mj c s 0 s (List.replicate n []) :=
 ⟨Int.le_refl _, by omega, by simp [hn], by simp, Nat.le_refl _⟩
theorem Mj.left {c : UInt8} {s : Aq} {i : Int} {r : Aq} {xs : List Aq} (h : Mj c s i r xs) : (r.count c : Int) = s.count c - i := by
 have := congrArg List.length h.eq
 rw [List.length_append, Ey, Ey, List.length_take, h.len] at this
 have h1 := h.i0; have h2 := h.i1
 omega
theorem Mj.next {c : UInt8} {s : Aq} {i : Int} {r : Aq} {xs : List Aq} (h : Mj c s i r xs) {m : Int} (hm : Lib.indexByte r c = m) (h0 : ¬ m < 0) : 0 ≤ m ∧ m < r.length ∧ Mj c s (i + 1) (r.drop (m + 1).toNat) (xs.set i.toNat (r.take m.toNat)) := by
 have hi := h.i0
 rcases Ku c r with ⟨e, _⟩ | ⟨j, e, h1, h2, h3⟩
 ·omega
 ·obtain rfl : m = j := by omega
  have hl := h.left
  have hp := SH h2 h3
  have hc : (pieces c r).length = (pieces c (r.drop (j + 1))).length + 1 := by rw [hp]; simp
  rw [Ey, Ey] at hc
  have hx := h.len
  refine ⟨by omega, by omega, by omega, by omega, by simp [hx], ?_, by simp; have := h.rl; omega⟩
  rw [h.eq, hp, show (i + 1).toNat = i.toNat + 1 by omega, show ((j : Int) + 1).toNat = j + 1 by omega, show ((j : Int)).toNat = j by omega, List.take_add_one, List.getElem?_set_self (by omega), List.take_set_of_le (by omega)]
  simp
theorem Mj.done {c : UInt8} {s : Aq} {i : Int} {r : Aq} {xs : List Aq} (h : Mj c s i r xs) (he : ¬ i < (s.count c : Int) ∨ Lib.indexByte r c < 0) : i = s.count c ∧ (xs.set i.toNat r).take (i + 1).toNat = pieces c s := by
 have hi := h.i0; have hi1 := h.i1; have hl := h.left; have hx := h.len
 have hc : c ∉ r := by
  rcases he with he | he
  ·intro hm; have := List.count_pos_iff.2 hm; omega
  ·rcases Ku c r with ⟨_, h2⟩ | ⟨j, e, _⟩
   ·exact h2
   ·omega
 have h0 : r.count c = 0 := List.count_eq_zero.2 hc
 refine ⟨by omega, ?_⟩
 rw [h.eq, Ji hc, show (i + 1).toNat = i.toNat + 1 by omega, List.take_add_one, List.getElem?_set_self (by omega), List.take_set_of_le (by omega)]
 rfl
theorem HV {c : UInt8} : ∀ {s : Aq} {p : Aq}, p ∈ pieces c s → p.length ≤ s.length
 | [], p, h => by simp [pieces] at h; simp [h]
 | x :: r, p, h => by
  unfold pieces at h
  obtain ⟨q, t, hq⟩ := List.exists_cons_of_ne_nil (Oi c r)
  have ih := @HV c r
  rw [hq] at h ih
  split at h
  ·rcases List.mem_cons.1 h with h | h
   ·simp [h]
   ·have := ih h; simp; omega
  ·simp only [List.headD_cons, List.tail_cons] at h
   rcases List.mem_cons.1 h with h | h
   ·have := ih (p := q) (by simp); rw [h]; simp; omega
   ·have := ih (p := p) (by simp [h]); simp; omega
theorem Td {c : UInt8} {s : Aq} (i : Nat) : ((pieces c s).getD i []).length ≤ s.length := by
 rw [List.getD_eq_getElem?_getD]
 cases h : (pieces c s)[i]? with
 | none => simp
 | some p => exact HV (List.mem_of_getElem? h)
def IL (s : Aq) (k : Nat) : List Aq := (((pieces 32 s).take k).filter fun w => !decide (w = [])).map low
theorem Mp (s : Aq) : words s = IL s ((pieces 32 s).length : Int).toNat := by
 rw [IL, show ((pieces 32 s).length : Int).toNat = (pieces 32 s).length by omega, List.take_length]; rfl
theorem OM {α : Type} {xs : List α} {d : α} {k : Int} (h0 : 0 ≤ k) (h1 : k < xs.length) : xs.take (k + 1).toNat = xs.take k.toNat ++ [xs.getD k.toNat d] := by
 have hk : k.toNat < xs.length := by omega
 rw [show (k + 1).toNat = k.toNat + 1 by omega, List.take_add_one, List.getD_eq_getElem?_getD, List.getElem?_eq_getElem hk]
 rfl
theorem Uo {s : Aq} {k : Int} (h0 : 0 ≤ k) (h1 : k < (pieces 32 s).length) (h : (!decide ((pieces 32 s).getD k.toNat [] = [])) = true) : IL s (k + 1).toNat = IL s k.toNat ++ [low ((pieces 32 s).getD k.toNat [])] := by
 unfold IL
 rw [OM (d := []) h0 h1, List.filter_append, List.map_append]
 congr 1
 rw [List.filter_cons_of_pos (p := fun w : Aq => !decide (w = [])) h]; rfl
theorem VB {s : Aq} {k : Int} (h0 : 0 ≤ k) (h1 : k < (pieces 32 s).length) (h : (!decide ((pieces 32 s).getD k.toNat [] = [])) = false) : IL s (k + 1).toNat = IL s k.toNat := by
 unfold IL
 rw [OM (d := []) h0 h1, List.filter_append, List.map_append, List.filter_cons_of_neg (p := fun w : Aq => !decide (w = [])) (by rw [h]; decide)]
 simp
/-! #### verbs -/
def pre (s p : Aq) : Bool := decide ((p.length : Int) ≤ (s.length : Int)) && decide (s.take p.length = p)
def I3 (w : Aq) : Nat → Int × Int
 | 0 => (0, 3)
 | n + 1 => if pre (AH.F3.getD (20 - n) []) w = true then (((20 - n : Nat) : Int), 0) else I3 w n
def verb (w : Aq) : Int × Int := if (!decide (w = [])) = true then I3 w 21 else (0, 3)
theorem Rz {w : Aq} {k : Int} (h0 : 0 ≤ k) (h1 : k < 21) : I3 w (21 - k).toNat = if pre (AH.F3.getD k.toNat []) w = true then (k, 0) else I3 w (21 - (k + 1)).toNat := by
 rw [show (21 - k).toNat = (21 - (k + 1)).toNat + 1 by omega, I3, show 20 - (21 - (k + 1)).toNat = k.toNat by omega, show ((k.toNat : Nat) : Int) = k by omega]
def Xx : Vector Aq 21 := ⟨AH.F3.toArray, rfl⟩
theorem Rj : B8 A4 Xx = AH.C0 := by kernel_rfl
/-! #### cutting and trimming -/
def L0 (s p : Aq) : Aq × Bool := if (!pre s p) = true then (s, false) else (s.drop p.length, true)
def cut (c : UInt8) (s : Aq) : Aq × Aq × Bool := if decide (0 ≤ Lib.indexByte s c) = true then (s.take (Lib.indexByte s c).toNat, s.drop (Lib.indexByte s c + 1).toNat, true) else (s, [], false)
theorem X9 {c : UInt8} {s : Aq} (h : 0 ≤ Lib.indexByte s c) : Lib.indexByte s c < s.length := by
 rcases Ku c s with ⟨e, _⟩ | ⟨i, e, h1, _⟩ <;> omega
theorem MB (c : UInt8) (s : Aq) : (cut c s).1.length ≤ s.length ∧ (cut c s).2.1.length ≤ s.length := by
 unfold cut; split <;> simp; omega
def Ol (c : UInt8) (s : Aq) : Aq := s.dropWhile (·== c)
def QW (c : UInt8) (s : Aq) : Aq := (s.reverse.dropWhile (·== c)).reverse
theorem Xg {x c : UInt8} (h : (x.toNat : Int) = (c.toNat : Int)) : x = c := UInt8.toNat_inj.1 (by omega)
theorem Y6 {c : UInt8} {r : Aq} (h : (decide ((0 : Int) < (r.length : Int)) && decide (((r.getD (0 : Int).toNat 0).toNat : Int) = (c.toNat : Int))) = true) : Ol c r = Ol c (r.drop 1) := by
 cases r with
 | nil => simp at h
 | cons x r =>
  simp only [Bool.and_eq_true, decide_eq_true_eq] at h
  have : x = c := Xg h.2
  subst this
  simp [Ol]
theorem Y0 {c : UInt8} {r : Aq} (h : (decide ((0 : Int) < (r.length : Int)) && decide (((r.getD (0 : Int).toNat 0).toNat : Int) = (c.toNat : Int))) = false) : Ol c r = r := by
 cases r with
 | nil => rfl
 | cons x r =>
  have hx : (x == c) = false := by
   rw [Bool.eq_false_iff]
   intro e
   have : x = c := by simpa using e
   subst this
   simp at h
  simp [Ol, hx]
theorem ZJ {c : UInt8} {r : Aq} (h : (decide ((0 : Int) < (r.length : Int)) && decide (((r.getD ((r.length : Int) - 1).toNat 0).toNat : Int) = (c.toNat : Int))) = true) : QW c r = QW c (r.take ((r.length : Int) - 1).toNat) := by
 simp only [Bool.and_eq_true, decide_eq_true_eq] at h
 have hne : r ≠ [] := by rintro rfl; simp at h
 obtain ⟨q, x, rfl⟩ : ∃ q x, r = q ++ [x] := ⟨r.dropLast, r.getLast hne, (List.dropLast_concat_getLast hne).symm⟩
 have e : (((q ++ [x]).length : Int) - 1).toNat = q.length := by simp
 rw [e] at h ⊢
 have : x = c := Xg (by simpa [List.getD_eq_getElem?_getD] using h.2)
 subst this
 simp [QW]
theorem Zx {c : UInt8} {r : Aq} (h : (decide ((0 : Int) < (r.length : Int)) && decide (((r.getD ((r.length : Int) - 1).toNat 0).toNat : Int) = (c.toNat : Int))) = false) : QW c r = r := by
 by_cases hne : r = []
 ·subst hne; rfl
 ·obtain ⟨q, x, rfl⟩ : ∃ q x, r = q ++ [x] := ⟨r.dropLast, r.getLast hne, (List.dropLast_concat_getLast hne).symm⟩
  have e : (((q ++ [x]).length : Int) - 1).toNat = q.length := by simp
  rw [e] at h
  have hx : (x == c) = false := by
   rw [Bool.eq_false_iff]
   intro e
   have : x = c := by simpa using e
   subst this
   simp [List.getD_eq_getElem?_getD] at h
  simp [QW, hx]
theorem Kq (c : UInt8) (s : Aq) : (Ol c s).length ≤ s.length := (List.dropWhile_sublist _).length_le
theorem PN (c : UInt8) (s : Aq) : (QW c s).length ≤ s.length := by
 have := (List.dropWhile_sublist (l := s.reverse) (·== c)).length_le
 simpa [QW] using this
/-! #### the rest of an order -/
def many (z : Int) : Bool := decide (z = 7) || decide (z = 8) || decide (z = 9)
def Nb (z : Int) : Aq × Bool := if decide (z = 7) = true then ([102, 114, 111, 109], false) else if decide (z = 9) = true then ([105, 110], true) else if decide (z = 10) = true then ([116, 111], true) else ([], false)
def Nk (s : Aq) : Nat → Int × Bool
 | 0 => (0, false)
 | n + 1 => if decide (AH.F3.getD (5 - n) [] = s) = true then (((5 - n : Nat) : Int), true) else Nk s n
def dir (s : Aq) : Int × Bool := Nk s 6
theorem TW {s : Aq} {k : Int} (h0 : 0 ≤ k) (h1 : k < 6) : Nk s (6 - k).toNat = if decide (AH.F3.getD k.toNat [] = s) = true then (k, true) else Nk s (6 - (k + 1)).toNat := by
 rw [show (6 - k).toNat = (6 - (k + 1)).toNat + 1 by omega, Nk, show 5 - (6 - (k + 1)).toNat = k.toNat by omega, show ((k.toNat : Nat) : Int) = k by omega]
/-! #### nouns -/
def N1 (k rest : Aq) : Int × Aq × Bool × Int :=
 match Lib.atoiAll k with
 | .ok n => if (decide (n < 1) || decide (99 < n) || decide (((k.getD (0 : Int).toNat 0).toNat : Int) < 49) || decide (57 < ((k.getD (0 : Int).toNat 0).toNat : Int)) || decide (rest = []) || decide (0 ≤ Lib.indexByte rest 46)) = true then (0, [], false, 1) else (n, rest, false, 0)
 | _ => (0, [], false, 1)
theorem S3 {k rest : Aq} {n : Int} (h : Lib.atoiAll k = .ok n) : N1 k rest = if (decide (n < 1) || decide (99 < n) || decide (((k.getD (0 : Int).toNat 0).toNat : Int) < 49) || decide (57 < ((k.getD (0 : Int).toNat 0).toNat : Int)) || decide (rest = []) || decide (0 ≤ Lib.indexByte rest 46)) = true then (0, [], false, 1) else (n, rest, false, 0) := by
 unfold N1; rw [h]
theorem VX {k rest : Aq} (h : ∀ j, Lib.atoiAll k ≠ .ok j) : N1 k rest = (0, [], false, 1) := by
 unfold N1
 split
 ·rename_i n e; exact absurd e (h n)
 ·rfl
theorem QZ {k : Aq} {n : Int} (h : Lib.atoiAll k = .ok n) : 0 < k.length := by
 cases k with
 | nil => simp [Lib.atoiAll] at h
 | cons x r => simp
def D1 (u : Aq) : Int × Aq × Bool × Int :=
 if decide (u = [97, 108, 108]) = true then (1, [], true, 0)
 else if ((L0 u [97, 108, 108, 46]).2 && !decide ((L0 u [97, 108, 108, 46]).1 = []) && !decide (0 ≤ Lib.indexByte (L0 u [97, 108, 108, 46]).1 46)) = true then (1, (L0 u [97, 108, 108, 46]).1, true, 0)
 else if (!(cut 46 u).2.2) = true then (if decide (u = []) = true then (0, [], false, 1) else (1, u, false, 0))
 else N1 (cut 46 u).1 (cut 46 u).2.1
/-! #### orders -/
theorem Ob (u : Aq) : ∀ n, n ≤ 21 → 0 ≤ (I3 u n).1 ∧ (I3 u n).1 ≤ 20
 | 0, _ => by simp [I3]
 | n + 1, h => by
  unfold I3
  split
  ·simp only; omega
  ·exact Ob u n (by omega)
theorem Vj (u : Aq) : 0 ≤ (verb u).1 ∧ (verb u).1 ≤ 20 := by
 unfold verb; split
 ·exact Ob u 21 (Nat.le_refl _)
 ·simp
def said (s : Aq) : Aq := Ol 32 (QW 32 (cut 32 (Ol 32 s)).2.1)
def o0 (v : Int) : Order := { (default : Order) with verb := v }
def Py (o : Order) (j : Aq × Bool) (W : List Aq) (m : Nat) : Order × Int :=
 if (decide ((m : Int) = 0) && !j.2) = true then (o, 0)
 else if (!decide ((m : Int) = 1) || decide (j.1 = [])) = true then (default, 1)
 else ({ o with second := W.getD 0 [] }, 0)
def SJ (o : Order) (j : Aq × Bool) (W : List Aq) (m : Nat) : Order × Int :=
 if (decide (0 < (m : Int)) && !decide (j.1 = []) && decide (W.getD 0 [] = j.1)) = true then (if decide (((m - 1 : Nat) : Int) = 0) = true then (default, 1) else Py o j (W.drop 1) (m - 1))
 else Py o j W m
def Pa (v : Int) (W : List Aq) (m : Nat) : Order × Int :=
 if (!decide ((D1 (W.getD 0 [])).2.2.2 = 0) || ((D1 (W.getD 0 [])).2.2.1 && !many v)) = true then (default, 1)
 else SJ ⟨v, (D1 (W.getD 0 [])).1, (D1 (W.getD 0 [])).2.2.1, (D1 (W.getD 0 [])).2.1, [], []⟩ (Nb v) (W.drop 1) (m - 1)
def Ug (s : Aq) (v : Int) (W : List Aq) (m : Nat) : Order × Int :=
 if decide (v = 11) = true then (if decide (said s = []) = true then (default, 1) else (⟨v, 0, false, [], [], said s⟩, 0))
 else if (decide (v ≤ 6) || decide (19 ≤ v)) = true then (if decide (0 < (m : Int)) = true then (default, 1) else (o0 v, 0))
 else if decide ((m : Int) = 0) = true then (default, 1)
 else if (decide (v = 12) || decide (v = 13)) = true then
  (if (decide ((verb (W.getD 0 [])).2 = 0) && decide ((verb (W.getD 0 [])).1 < 6) && decide ((m : Int) = 1)) = true then (⟨v, 1, false, AH.F3.getD (verb (W.getD 0 [])).1.toNat [], [], []⟩, 0) else Pa v W m)
 else Pa v W m
def parse (s : Aq) : Order × Int :=
 if decide (((words s).length : Int) = 0) = true then (default, 1)
 else if (!decide ((verb ((words s).getD 0 [])).2 = 0)) = true then (default, (verb ((words s).getD 0 [])).2)
 else Ug s (verb ((words s).getD 0 [])).1 ((words s).drop 1) ((words s).length - 1)
theorem Wm (w : Aq) : (low w).length = w.length := by simp [low]
theorem WI (s : Aq) (i : Nat) : ((words s).getD i []).length ≤ s.length := by
 rw [List.getD_eq_getElem?_getD]
 cases h : (words s)[i]? with
 | none => simp
 | some p =>
  have hm := List.mem_of_getElem? h
  unfold words at hm
  obtain ⟨q, hq, rfl⟩ := List.mem_map.1 hm
  rw [Option.getD_some, Wm]
  exact HV (List.mem_filter.1 hq).1
theorem LG (s : Aq) (i j : Nat) : (((words s).drop j).getD i []).length ≤ s.length := by
 rw [List.getD_eq_getElem?_getD, List.getElem?_drop, ← List.getD_eq_getElem?_getD]; exact WI s _
end Words
end Go.Ing
/- What people type: plain laws. -/
namespace Go.Ing
open Go
namespace Words
/-! #### a shorter beginning -/
/-! #### what is parsed is good -/
theorem TE (k r : Aq) : (N1 k r).2.2.2 = 0 → 0 ≤ (N1 k r).1 ∧ (N1 k r).1 ≤ 99 := by
 unfold N1
 split
 ·split
  ·intro h; simp at h
  ·rename_i c
   intro _
   simp only [Bool.or_eq_true, decide_eq_true_eq, not_or] at c
   show 0 ≤ _ ∧ _ ≤ 99
   exact ⟨by simp only; omega, by simp only; omega⟩
 ·intro h; simp at h
theorem TK (u : Aq) : (D1 u).2.2.2 = 0 → 0 ≤ (D1 u).1 ∧ (D1 u).1 ≤ 99 := by
 unfold D1
 split
 ·intro _; simp
 ·split
  ·intro _; simp
  ·split
   ·split
    ·intro h; simp at h
    ·intro _; simp
   ·exact TE _ _
/-! #### spaces ahead and behind -/
def Cf : Aq → Aq
 | [] => []
 | x :: r => if x = 32 then r else Cf r
end Words
end Go.Ing
/- Verbs and nouns as the document has them. -/
namespace Go.Ing
open Go
namespace Words
/-! #### nouns -/
end Words
end Go.Ing
/- Orders as the document has them. -/
namespace Go.Ing
open Go
namespace Words
/-! #### what is said -/
/-! #### orders -/
def alone (v : Int) : Bool := decide (v < 7) || decide (18 < v)
end Words
end Go.Ing
/- The program's data, in Lean, and their parts. -/
namespace Go.Ing
open Go
structure Ac where
 w : AH
 b : Int
 out : Hd
instance : Inhabited Ac := ⟨⟨default, 0, ⟨none, 0, 0⟩⟩⟩
def Ac.enc (x : Ac) : List Value := AH.enc x.w ++ Au x.b ++ EH x.out
theorem Ac.fl : Flat Ac.enc 167 := ⟨fun x => by simp [Ac.enc, AH.fl.len, Nt.len, Bw.len], fun x v hv => by
 simp only [Ac.enc, List.mem_append] at hv
 rcases hv with (h | h) | h
 ·exact AH.fl.one _ v h
 ·exact Bw.one _ v h
 ·exact Nt.one _ v h⟩
theorem Ac.l0 : AS Ac.enc (AH.enc) 0 165 (fun x => x.w) (fun x y => { x with w := y }) :=
 AS.EI AH.fl (fun _ => []) (fun x => Au x.b ++ EH x.out) (fun _ => rfl) (fun x => by simp [Ac.enc]) (fun x y => by simp [Ac.enc])
theorem Ac.l1 : AS Ac.enc (Au) 165 1 (fun x => x.b) (fun x y => { x with b := y }) :=
 AS.EI Bw (fun x => AH.enc x.w) (fun x => EH x.out) (fun x => by simp [AH.fl.len]) (fun x => by simp [Ac.enc]) (fun x y => by simp [Ac.enc])
theorem Ac.l2 : AS Ac.enc (EH) 166 1 (fun x => x.out) (fun x y => { x with out := y }) :=
 AS.EI Nt (fun x => AH.enc x.w ++ Au x.b) (fun _ => []) (fun x => by simp [AH.fl.len, Bw.len]) (fun x => by simp [Ac.enc]) (fun x y => by simp [Ac.enc])
end Go.Ing
/- What comes of what beings do: plain functions. -/
namespace Go.Ing
open Go
structure AF where
 w : AH
 b : Int
 out : List Event
namespace AF
def GA (k : Int) : Event := ⟨k, 0, 0, -1, 0, 0, [], [], [], [], default⟩
def me (T : AF) : Al := T.w.AV.at T.b
def VH (T : AF) (e : Event) : Event := { e with Dm := T.b, HQ := T.me.name, room := T.me.room }
def Dz (T : AF) (e : Event) : Event := if decide (0 ≤ e.other) = true then { T.VH e with D3 := (T.w.AV.at e.other).name } else T.VH e
def Bj (T : AF) (e : Event) : AF := { T with out := T.out ++ [T.w.G7 (T.Dz e) 6] }
def kind (T : AF) (k : Int) : AF := T.Bj (GA k)
def By (T : AF) (k i : Int) : AF := T.Bj { GA k with By := (T.w.AX.at i).name }
def tell (T : AF) (s : Aq) : AF := T.Bj { GA 16 with text := s }
@[simp] theorem Yo (T : AF) (e : Event) : (T.Bj e).w = T.w := rfl
@[simp] theorem Yp (T : AF) (e : Event) : (T.Bj e).b = T.b := rfl
@[simp] theorem CR (T : AF) (e : Event) : (T.Bj e).out.length = T.out.length + 1 := by simp [Bj]
@[simp] theorem aV (T : AF) (s : Aq) : (T.tell s).w = T.w := rfl
@[simp] theorem bA (T : AF) (s : Aq) : (T.tell s).b = T.b := rfl
@[simp] theorem B6 (T : AF) (s : Aq) : (T.tell s).out.length = T.out.length + 1 := by simp [tell]
/-! #### lists -/
def HI (w : AH) : Aq → List Int → Aq
 | s, [] => s
 | s, i :: r => HI w (if (w.AX.at i).on = true then s ++ [32] ++ (w.AX.at i).name ++ [42] else s ++ [32] ++ (w.AX.at i).name) r
def Ql (w : AH) (s : Aq) (l : List Int) : Aq := if decide ((l.length : Int) = 0) = true then HI w s l ++ [32, 110, 111, 116, 104, 105, 110, 103] else HI w s l
def list (T : AF) (s : Aq) (l : List Int) : AF := T.tell (Ql T.w s l ++ [46])
/-! #### what is about -/
def Hz (r : Room) : Nat → Aq
 | 0 => [87, 97, 121, 115, 58]
 | d + 1 => if decide (r.DS.at (d : Int) = 0) = true then Hz r d else if r.shut.at (d : Int) = true then Hz r d ++ ([32] ++ AH.called d) ++ [42] else Hz r d ++ ([32] ++ AH.called d)
def FP (T : AF) : Nat → AF
 | 0 => T
 | k + 1 => if (!decide ((k : Int) = T.b) && T.w.Hw T.b k) = true then (FP T k).tell ((T.w.AV.at k).name ++ [32, 105, 115, 32, 104, 101, 114, 101, 46]) else FP T k
def LQ : Aq := [73, 116, 32, 105, 115, 32, 100, 97, 114, 107, 46]
def Jm (T : AF) : AF :=
 ((T.tell ([84, 104, 101, 32] ++ (T.w.Bv.at T.me.room).name ++ [46])).tell (Hz (T.w.Bv.at T.me.room) 6))
def Dt (T : AF) : AF := if decide (0 < ((T.w.has 0 T.me.room).length : Int)) = true then T.Jm.list [72, 101, 114, 101, 32, 105, 115] (T.w.has 0 T.me.room) else T.Jm
def look (T : AF) : AF := if (!T.w.Gv T.me.room) = true then T.tell LQ else FP T.Dt 6
def VU : Aq := [89, 111, 117, 32, 99, 97, 110, 110, 111, 116, 32, 103, 111, 32, 116, 104, 101, 114, 101, 46]
def Rx : Aq := [73, 116, 32, 105, 115, 32, 115, 104, 117, 116, 46]
def Im (T : AF) (r : Int) : AF := { T with w := { T.w with AV := T.w.AV.put T.b { T.me with room := r, B1 := 0 } } }
def walk (T : AF) (d : Int) : AF :=
 if decide ((T.w.Bv.at T.me.room).DS.at d = 0) = true then T.tell VU
 else if (T.w.Bv.at T.me.room).shut.at d = true then T.tell Rx
 else (((T.Bj { GA 1 with dir := d }).Im ((T.w.Bv.at T.me.room).DS.at d - 1)).Bj { GA 2 with dir := AH.opposite d }).look
/-! #### things that are meant -/
def IY (w : AH) (name : Aq) (l : List Int) : List Int := l.filter fun i => decide (name = []) || decide ((w.AX.at i).name = name)
def BO (w : AH) (l : List Int) (nth : Int) (name : Aq) (all : Bool) : List Int :=
 if all = true then IY w name l
 else if (decide (nth < 1) || decide (((IY w name l).length : Int) < nth)) = true then []
 else ((IY w name l).take nth.toNat).drop (nth - 1).toNat
def seen (T : AF) : List Int := if (!T.w.Gv T.me.room) = true then [] else T.w.has 0 T.me.room
def own (T : AF) : List Int := T.w.has 1 T.b
def one (T : AF) (u : Aq) : Int × Bool :=
 if (!decide ((Words.D1 u).2.2.2 = 0) || (Words.D1 u).2.2.1) = true then (0, false)
 else if decide (((BO T.w (T.own ++ T.seen) (Words.D1 u).1 (Words.D1 u).2.1 false).length : Int) = 0) = true then (0, false)
 else ((BO T.w (T.own ++ T.seen) (Words.D1 u).1 (Words.D1 u).2.1 false).getD 0 0, true)
def Ko : Aq := [84, 104, 101, 114, 101, 32, 105, 115, 32, 110, 111, 32, 115, 117, 99, 104, 32, 116, 104, 105, 110, 103, 46]
def Ox : Aq := [89, 111, 117, 32, 104, 97, 118, 101, 32, 110, 111, 32, 115, 117, 99, 104, 32, 116, 104, 105, 110, 103, 46]
def Md : Aq := [84, 104, 101, 114, 101, 32, 105, 115, 32, 110, 111, 98, 111, 100, 121, 32, 111, 102, 32, 116, 104, 97, 116, 32, 110, 97, 109, 101, 46]
def Zh : Aq := [89, 111, 117, 32, 119, 101, 97, 114, 32, 105, 116, 46]
def Xh : Aq := [84, 104, 97, 116, 32, 99, 97, 110, 110, 111, 116, 32, 98, 101, 46]
def YJ : Aq := [73, 116, 32, 105, 115, 32, 115, 111, 46]
def Pv : Aq := [89, 111, 117, 32, 102, 105, 103, 104, 116, 46]
def box (T : AF) (u : Aq) : AF × Int × Bool :=
 if (!(T.one u).2 || !decide ((T.w.AX.at (T.one u).1).kind = 3)) = true then (T.tell Ko, 0, false)
 else if (!(T.w.AX.at (T.one u).1).on) = true then (T.tell Rx, 0, false)
 else (T, (T.one u).1, true)
def D5 (T : AF) (i : Int) (t : Ak) : AF := { T with w := { T.w with AX := T.w.AX.put i t } }
def place (T : AF) (i Ck at_ : Int) : AF := T.D5 i { T.w.AX.at i with Ck := Ck, at_ := at_ }
def DZ (T : AF) : List Int → AF
 | [] => T
 | i :: r => DZ ((T.place i 1 T.b).By 3 i) r
def Oz (T : AF) (l : List Int) (o : Order) : AF := DZ (if decide (((BO T.w l o.nth o.name o.Bk).length : Int) = 0) = true then T.tell Ko else T) (BO T.w l o.nth o.name o.Bk)
def get (T : AF) (o : Order) : AF :=
 if (!decide (o.second = [])) = true then
  (if (!(T.box o.second).2.2) = true then (T.box o.second).1 else (T.box o.second).1.Oz ((T.box o.second).1.w.has 2 (T.box o.second).2.1) o)
 else T.Oz T.seen o
def Hg (T : AF) (name : Aq) : Nat → Int → Option Int
 | 0, _ => none
 | r + 1, n => if (decide (((6 - (r + 1) : Nat) : Int) = T.b) || !decide ((T.w.AV.at ((6 - (r + 1) : Nat) : Int)).name = name) || !T.w.Hw T.b ((6 - (r + 1) : Nat) : Int)) = true then Hg T name r n else if decide (n - 1 = 0) = true then some ((6 - (r + 1) : Nat) : Int) else Hg T name r (n - 1)
def BN (T : AF) (u : Aq) : AF × Int × Bool :=
  if (decide ((Words.D1 u).2.2.2 = 0) && !(Words.D1 u).2.2.1) = true then
    (match Hg T (Words.D1 u).2.1 6 (Words.D1 u).1 with
     | some k => (T, k, true)
     | none => (T.tell Md, 0, false))
  else (T.tell Md, 0, false)
def DN (T : AF) (v to i : Int) : AF :=
 if (decide ((T.w.AX.at i).kind = 2) && (T.w.AX.at i).on) = true then T.tell Zh
 else if decide (v = 8) = true then (T.place i 0 T.me.room).By 4 i
 else if decide (v = 10) = true then (T.place i 1 to).Bj { GA 6 with other := to, By := (T.w.AX.at i).name }
 else if T.w.X4 to i = true then T.tell Xh
 else (T.place i 2 to).Bj { GA 5 with By := (T.w.AX.at i).name, text := (T.w.AX.at to).name }
def Fa (T : AF) (v to : Int) : List Int → AF
 | [] => T
 | i :: r => Fa (T.DN v to i) v to r
def WJ (T : AF) (to : Int) (o : Order) : AF := Fa (if decide (((BO T.w T.own o.nth o.name o.Bk).length : Int) = 0) = true then T.tell Ox else T) o.verb to (BO T.w T.own o.nth o.name o.Bk)
def C7 (T : AF) (o : Order) : AF × Int × Bool := if decide (o.verb = 9) = true then T.box o.second else if decide (o.verb = 10) = true then T.BN o.second else (T, 0, true)
def Gy (T : AF) (o : Order) : AF := if (!(T.C7 o).2.2) = true then (T.C7 o).1 else (T.C7 o).1.WJ (T.C7 o).2.1 o
def DO (T : AF) (b f : Int) : AF := { T with w := { T.w with AV := T.w.AV.put b { T.w.AV.at b with B1 := f } } }
def GK (T : AF) (o : Order) : AF :=
 if (!(T.BN (if (!decide (o.nth = 1) || o.Bk) = true then [] else o.name)).2.2) = true then (T.BN (if (!decide (o.nth = 1) || o.Bk) = true then [] else o.name)).1
 else
  let k := (T.BN (if (!decide (o.nth = 1) || o.Bk) = true then [] else o.name)).2.1
  let T1 := (T.BN (if (!decide (o.nth = 1) || o.Bk) = true then [] else o.name)).1.DO (T.BN (if (!decide (o.nth = 1) || o.Bk) = true then [] else o.name)).1.b (k + 1)
  (if decide ((T1.w.AV.at k).B1 = 0) = true then T1.DO k ((T.BN (if (!decide (o.nth = 1) || o.Bk) = true then [] else o.name)).1.b + 1) else T1).tell Pv
/-! #### what is set -/
def before (T : AF) (first : Bool) (i : Int) (on : Bool) (ev : Int) : AF :=
 if first = true then (T.D5 i { T.w.AX.at i with on := on }).By ev i
 else (T.By ev i).D5 i { T.w.AX.at i with on := on }
def Fj (T : AF) (r d : Int) (v : Bool) : AF := { T with w := { T.w with Bv := T.w.Bv.put r { T.w.Bv.at r with shut := (T.w.Bv.at r).shut.put d v } } }
def OP : Aq := [100, 111, 111, 114]
def JJ (T : AF) (d : Int) (on : Bool) (ev : Int) : AF :=
 if decide ((T.w.Bv.at T.me.room).DS.at d - 1 < 0) = true then T.tell Ko
 else if ((T.w.Bv.at T.me.room).shut.at d != on) = true then T.tell YJ
 else
  let to := (T.w.Bv.at T.me.room).DS.at d - 1
  let T1 := T.Fj T.me.room d (!on)
  (if decide ((T1.w.Bv.at to).DS.at (AH.opposite d) = T.me.room + 1) = true then T1.Fj to (AH.opposite d) (!on) else T1).Bj { GA ev with By := OP }
def Gh (v : Int) : Bool := decide (v = 12) || decide (v = 14) || decide (v = 16)
def setKind (v : Int) : Int := if (decide (v = 14) || decide (v = 15)) = true then 1 else if (decide (v = 16) || decide (v = 17)) = true then 2 else 3
def Sb (v : Int) : Int := v - 4
def E1 (T : AF) (o : Order) : List Int := BO T.w (if decide (setKind o.verb = 3) = true then T.own ++ T.seen else T.own) (max o.nth 1) o.name false
def set (T : AF) (o : Order) : AF :=
 if ((Words.dir o.name).2 && decide (setKind o.verb = 3)) = true then T.JJ (Words.dir o.name).1 (Gh o.verb) (Sb o.verb)
 else if (decide (((T.E1 o).length : Int) = 0) || !decide ((T.w.AX.at ((T.E1 o).getD 0 0)).kind = setKind o.verb)) = true then T.tell Ko
 else if ((T.w.AX.at ((T.E1 o).getD 0 0)).on == Gh o.verb) = true then T.tell YJ
 else if Gh o.verb = true then T.before (!decide (setKind o.verb = 2)) ((T.E1 o).getD 0 0) (Gh o.verb) (Sb o.verb)
 else T.before (decide (setKind o.verb = 2)) ((T.E1 o).getD 0 0) (Gh o.verb) (Sb o.verb)
/-! #### who is gone -/
def Ee (T : AF) (i : Int) : AF := T.D5 i { T.w.AX.at i with on := if decide ((T.w.AX.at i).kind = 2) = true then false else (T.w.AX.at i).on, Ck := 0, at_ := T.me.room }
def Ca (T : AF) : List Int → AF
 | [] => T
 | i :: r => Ca (T.Ee i) r
def Dr (T : AF) : Nat → AF
 | 0 => T
 | k + 1 => if decide (((Dr T k).w.AV.at (k : Int)).B1 = T.b + 1) = true then (Dr T k).DO k 0 else Dr T k
def Fz (T : AF) : AF := (Dr (T.Ca T.own) 6).DO T.b 0
def C6 (T : AF) (b : Int) (x : Al) : AF := { T with w := { T.w with AV := T.w.AV.put b x } }
def Kp (T : AF) : AF := (T.kind 18).Fz.C6 T.b default
/-! #### what a being does -/
def act (T : AF) (o : Order) : AF :=
 if decide (o.verb < 6) = true then T.walk o.verb
 else if decide (o.verb = 6) = true then T.look
 else if decide (o.verb = 19) = true then T.list [89, 111, 117, 32, 104, 97, 118, 101] (T.w.has 1 T.b)
 else if decide (o.verb = 11) = true then T.Bj { GA 7 with text := o.text }
 else if decide (o.verb = 20) = true then T.Kp
 else if decide (o.verb = 18) = true then T.GK o
 else if decide (o.verb = 7) = true then T.get o
 else if (decide (o.verb = 8) || decide (o.verb = 9) || decide (o.verb = 10)) = true then T.Gy o
 else T.set o
def FY (X : AH) (b : Int) (o : Order) : AH × List Event × Int :=
 if (!X.Bq) = true then (X, [], 2)
 else if (decide (b < 0) || decide (6 ≤ b) || !(X.AV.at b).here) = true then (X, [], 3)
 else if (decide (o.verb < 0) || decide (20 < o.verb)) = true then (X, [], 5)
 else ((AF.act ⟨X, b, []⟩ o).w, (AF.act ⟨X, b, []⟩ o).out, 0)
end AF
end Go.Ing
/- Engine: the program's own variables, beside what is handed on. -/
namespace Go.Ing
open Go
section
variable {w0 w : World} {M : List Nat} {L A K : List Ad} {g : Nat} {vs : List Value}
theorem GV.lt (h : GV g vs w) : g < w.heap.size := by
 obtain ⟨t, fz, e⟩ := h
 rcases Nat.lt_or_ge g w.heap.size with h' | h'
 ·exact h'
 ·rw [Array.getElem?_eq_none h'] at e; cases e
theorem GV.stM (h : GV g vs w0) (hM : g ∉ M) (hS : St w0 M w L) : GV g vs w := by
 have hg := h.lt
 obtain ⟨t, fz, e⟩ := h
 exact ⟨t, fz, (hS.Hb g hg hM).trans e⟩
theorem NU (hg : g < w0.heap.size) (hM : g ∉ M) (hS : St w0 M w L) (hp : Av L A K) : g ∉ CW A := by
 intro hf
 obtain ⟨r, hr, hb⟩ := List.mem_flatMap.1 hf
 have hm : r ∈ L := hp.perm.symm.subset (List.mem_append_left _ hr)
 exact hM ((hS.CH r hm g hb).2 hg)
theorem GV.pull (h : GV g vs w0) (hM : g ∉ M) (hS : St w0 M w L) (hp : Av L A K) : GV g vs w ∧ g ∉ CW A := ⟨h.stM hM hS, NU h.lt hM hS hp⟩
theorem F8.stM (h : F8 g w0) (hM : g ∉ M) (hS : St w0 M w L) : F8 g w := by
 obtain ⟨tp, p, h⟩ := h; exact ⟨tp, p, h.stM hM hS⟩
theorem F8.pull (h : F8 g w0) (hM : g ∉ M) (hS : St w0 M w L) (hp : Av L A K) : F8 g w ∧ g ∉ CW A := by
 obtain ⟨tp, p, h⟩ := h; exact ⟨⟨tp, p, h.stM hM hS⟩, NU h.lt hM hS hp⟩
end
section
variable {P : Program} {n : Nat} {w0 : World} {M : List Nat} {Q : Exit → Go.Act → World → Prop} {F F' : List (Nat × Value)} {L L' : List Ad} {ops : Array Oper} {rest : List Oper}
theorem Re {α : Type} {e : α → List Value} {d T U E sz : Nat} {x y z : Operand} {pos : String} {Cf : Array Edge} {h : Hd} {xs : List α} {kd kz : IntKind} {i j : Int} {Lf : Ad → List Ad} (fe : Flat e sz) (hd : Nat.blt d n = true) (hT : P.underlying T = some (.slice E)) (hs : Sz P E sz) (hx : ev F x = some h.val) (hy : ev F y = some (.int kd i)) (hz : ev F z = some (.int kz j)) (h0 : 0 ≤ i) (h1 : i ≤ j) (h2 : j ≤ (h.len : Int)) (hU : ∀ r, Jz L (Ad.own h E sz (xs.flatMap e)) r (Lf r))
  (k : GL P n w0 M ops Q rest ((d, (h.cut i.toNat j.toNat sz).val) :: F) (Lf (Ad.own (h.cut i.toNat j.toNat sz) E sz (((xs.take j.toNat).drop i.toNat).flatMap e)))) : GL P n w0 M ops Q (⟨some d, .slice T x (some y) (some z) none, U, pos, Cf, none⟩ :: rest) F L := by
 refine E9 (R := fun v L' => v = (h.cut i.toNat j.toNat sz).val ∧ L' = Lf (Ad.own (h.cut i.toNat j.toNat sz) E sz (((xs.take j.toNat).drop i.toNat).flatMap e))) hd ?_ (fun v L' ⟨e1, e2⟩ => by subst e1; subst e2; exact k)
 intro a w hF hS
 have hok := hS.ok _ (hU ⟨[], fun _ => True, fun _ _ _ _ => trivial⟩).mem
 have hr : Rd w h E sz (xs.flatMap e) := Kn.own (M := M) (hU ⟨[], fun _ => True, fun _ _ _ _ => trivial⟩).mem w hS
 have hcap : h.len ≤ h.cap := by
  rcases hok with ⟨rfl, _⟩ | ⟨b, o, C, fz, e1, e2, e3, e4, e5, e6, _⟩
  ·exact Nat.le_refl _
  ·exact e6
 have hil : i.toNat ≤ j.toNat := by omega
 have hjl : j.toNat ≤ h.len := by omega
 have hlc : h.len * sz ≤ h.cap * sz := Nat.mul_le_mul_right sz hcap
 have hjc : j.toNat * sz ≤ h.len * sz := Nat.mul_le_mul_right sz hjl
 have hll : i.toNat * sz ≤ j.toNat * sz := Nat.mul_le_mul_right sz hil
 have hcs : ((xs.flatMap e).take (j.toNat * sz)).drop (i.toNat * sz) = ((xs.take j.toNat).drop i.toNat).flatMap e := Kc fe xs
 have hlen : (((xs.take j.toNat).drop i.toNat).flatMap e).length = j.toNat * sz - i.toNat * sz := by
  rw [← hcs, List.length_drop, List.length_take, ← hr.1, Nat.min_eq_left hjc]
 refine ⟨_, _, w, ⟨rfl, rfl⟩, ?_, ?_⟩
 ·have hs' := hs w
  have hjcap : j ≤ (h.cap : Int) := by omega
  simp only [execOp, hF.ev hx, Option.map_some, Option.map_none, hF.ev hy, hF.ev hz, Hd.val, Instr.sliceAt, Instr.slice, underlying]
  simp [hT, Instr.sliceBounds, Instr.sliceBound, asIntOf, h1, h0, hs', Hd.cut, hjcap, show 0 ≤ j by omega, show i ≤ max j 0 by omega]
 ·refine hS.EO (hU _) rfl rfl rfl (Nat.le_refl _) (fun _ _ _ => rfl) ?_ ?_
  ·rcases hok with ⟨rfl, hn⟩ | ⟨b, o, C, fz, e1, e2, e3, e4, e5, e6, e7, e8⟩
   ·have hj0 : j.toNat = 0 := by simp at hjl; omega
    have hi0 : i.toNat = 0 := by omega
    refine .inl ⟨by simp [Hd.cut, hj0, hi0], ?_⟩
    rw [List.eq_nil_of_length_eq_zero (l := ((xs.take j.toNat).drop i.toNat).flatMap e) (by rw [hlen, hj0]; simp)]
   ·by_cases hci : h.cap = i.toNat
    ·have hji : j.toNat = i.toNat := by omega
     refine .inr ⟨b, o, C, fz, by simp only [Hd.cut]; rw [if_pos hci]; exact e1, e2, e3, e4, ?_, ?_, ?_, ?_⟩
     ·simp only [Hd.cut]; rw [hci, Nat.sub_self, Nat.zero_mul]; omega
     ·simp only [Hd.cut]; omega
     ·simp only [Hd.cut]; rw [hlen, Nat.sub_mul]
     ·have hl0 : (((xs.take j.toNat).drop i.toNat).flatMap e).length = 0 := by rw [hlen, hji]; omega
      rw [List.eq_nil_of_length_eq_zero hl0]; simp
    ·refine .inr ⟨b, o + i.toNat * sz, C, fz, by simp only [Hd.cut]; rw [if_neg hci, e1]; simp [EB], e2, e3, fun j hj h => e4 j (by omega) h, ?_, ?_, ?_, ?_⟩
     ·simp only [Hd.cut]; rw [Nat.sub_mul]; omega
     ·simp only [Hd.cut]; omega
     ·simp only [Hd.cut]; rw [hlen, Nat.sub_mul]
     ·have hX : xs.flatMap e = (C.drop o).take (h.len * sz) := by rw [hr.1]; exact e8.symm
      have hY : ((xs.take j.toNat).drop i.toNat).flatMap e = ((C.drop o).take (j.toNat * sz)).drop (i.toNat * sz) := by rw [← hcs, hX, List.take_take, Nat.min_eq_left hjc]
      rw [hlen, hY, List.drop_take, List.drop_drop]
  ·intro b hb
   have hb' : b ∈ (Ad.own h E sz (xs.flatMap e)).CH := by
    revert hb
    simp only [Ad.own, Hd.cut]
    cases ha : h.a with
    | none => by_cases hc : h.cap = i.toNat <;> simp [hc]
    | some a =>
     by_cases hc : h.cap = i.toNat
     ·simp [hc]
     ·simp only [hc, if_false, Option.map_some]
      unfold Addr.add
      split <;> simp
   exact ⟨(hS.CH _ (hU ⟨[], fun _ => True, fun _ _ _ _ => trivial⟩).mem b hb').1, .inl hb'⟩
theorem Jz.Zn {L L' : List Ad} {r r' : Ad} (h : Jz L r r' L') (e : r = r') : L' = L := by
 induction h with
 | head => subst e; rfl
 | tail _ ih => rw [ih e]
theorem FW {cd : Code} {b T : Nat} {c c' : List Value} {Lf : Ad → List Ad} (hU : ∀ r, Jz L (Ad.box b T c) r (Lf r)) (e : c = c') (k : G P n w0 M cd Q F (Lf (Ad.box b T c'))) : G P n w0 M cd Q F L := by
 subst e
 rwa [(hU (Ad.box b T c)).Zn rfl] at k
theorem YH {Pr : Prop} {cd : Code} (hp : ∀ w, St w0 M w L → Pr) (k : Pr → G P n w0 M cd Q F L) : G P n w0 M cd Q F L := fun a w hF hS => k (hp w hS) a w hF hS
end
section
variable {p : Prop} [Decidable p] {a b : Bool} {m n : Int}
theorem bn : ((a || b) = true) = (a = true ∨ b = true) := Bool.or_eq_true a b
theorem bY : ((a && b) = true) = (a = true ∧ b = true) := Bool.and_eq_true a b
theorem bR : ((a || b) = false) = (a = false ∧ b = false) := propext Bool.or_eq_false_iff
theorem bp : ((a && b) = false) = (a = false ∨ b = false) := propext Bool.and_eq_false_iff
end
end Go.Ing
/- What comes of what beings do: plain laws. -/
namespace Go.Ing
open Go
structure AH.Dw (w : AH) : Prop where
 th : ∀ i, (w.AX.at i).name.length ≤ 140737488351232
 be : ∀ i, (w.AV.at i).name.length ≤ 140737488351232
 ro : ∀ i, (w.Bv.at i).name.length ≤ 140737488351232
namespace AF
theorem ML {l : List Int} {k : Int} (h0 : 0 ≤ k) (h1 : k < l.length) : l.drop k.toNat = l.getD k.toNat 0 :: l.drop (k + 1).toNat := by
 have hk : k.toNat < l.length := by omega
 rw [List.drop_eq_getElem_cons hk, show (k + 1).toNat = k.toNat + 1 by omega, List.getD_eq_getElem?_getD, List.getElem?_eq_getElem hk]
 rfl
theorem W2 {w : AH} {s : Aq} {l : List Int} {k : Int} (h0 : 0 ≤ k) (h1 : k < l.length) (h : (w.AX.at (l.getD k.toNat 0)).on = true) : HI w s (l.drop k.toNat) = HI w (s ++ ([32] ++ (w.AX.at (l.getD k.toNat 0)).name) ++ [42]) (l.drop (k + 1).toNat) := by
 rw [ML h0 h1, HI, if_pos h]; simp
theorem XD {w : AH} {s : Aq} {l : List Int} {k : Int} (h0 : 0 ≤ k) (h1 : k < l.length) (h : (w.AX.at (l.getD k.toNat 0)).on = false) : HI w s (l.drop k.toNat) = HI w (s ++ ([32] ++ (w.AX.at (l.getD k.toNat 0)).name)) (l.drop (k + 1).toNat) := by
 rw [ML h0 h1, HI, if_neg (by rw [h]; decide)]; simp
theorem RX {r : Room} {k : Int} (h : 0 ≤ k) : Hz r (k + 1).toNat = if decide (r.DS.at k = 0) = true then Hz r k.toNat else if r.shut.at k = true then Hz r k.toNat ++ ([32] ++ AH.called k) ++ [42] else Hz r k.toNat ++ ([32] ++ AH.called k) := by
 obtain ⟨m, rfl⟩ := Int.eq_ofNat_of_zero_le h
 rfl
theorem K4 (r : Room) : ∀ k : Nat, (Hz r k).length ≤ 5 + k * 22
 | 0 => by simp [Hz]
 | k + 1 => by
  have ih := K4 r k
  have hc := AH.IN (k : Int)
  unfold Hz
  repeat' split
  all_goals (try simp only [List.length_append, List.length_cons, List.length_nil])
  all_goals omega
theorem KV (T : AF) : ∀ k : Nat, (T.FP k).w = T.w ∧ (T.FP k).b = T.b ∧ (T.FP k).out.length ≤ T.out.length + k
 | 0 => ⟨rfl, rfl, by simp [FP]⟩
 | k + 1 => by
  obtain ⟨h1, h2, h3⟩ := KV T k
  unfold FP
  split
  ·exact ⟨by simpa using h1, by simpa using h2, by rw [B6]; omega⟩
  ·exact ⟨h1, h2, by omega⟩
theorem H6 {T : AF} {k : Int} (h : 0 ≤ k) : T.FP (k + 1).toNat = if (!decide (k = T.b) && T.w.Hw T.b k) = true then (T.FP k.toNat).tell ((T.w.AV.at k).name ++ [32, 105, 115, 32, 104, 101, 114, 101, 46]) else T.FP k.toNat := by
 obtain ⟨m, rfl⟩ := Int.eq_ofNat_of_zero_le h
 rfl
@[simp] theorem IM (T : AF) (s : Aq) (l : List Int) : (T.list s l).w = T.w ∧ (T.list s l).b = T.b ∧ (T.list s l).out.length = T.out.length + 1 := ⟨rfl, rfl, by simp [list]⟩
theorem Sc (T : AF) : T.Jm.w = T.w ∧ T.Jm.b = T.b ∧ T.Jm.out.length = T.out.length + 2 := ⟨rfl, rfl, by simp [Jm]⟩
theorem PQ (T : AF) : T.Dt.w = T.w ∧ T.Dt.b = T.b ∧ T.Dt.out.length ≤ T.out.length + 3 := by
 have h := T.Sc
 unfold Dt
 split
 ·have h2 := T.Jm.IM [72, 101, 114, 101, 32, 105, 115] (T.w.has 0 T.me.room)
  exact ⟨h2.1.trans h.1, h2.2.1.trans h.2.1, by omega⟩
 ·exact ⟨h.1, h.2.1, by omega⟩
theorem Mv (T : AF) : T.look.w = T.w ∧ T.look.b = T.b ∧ T.look.out.length ≤ T.out.length + 9 := by
 unfold look
 split
 ·exact ⟨rfl, rfl, by rw [B6]; omega⟩
 ·have h := T.PQ
  have h2 := T.Dt.KV 6
  exact ⟨h2.1.trans h.1, h2.2.1.trans h.2.1, by omega⟩
end AF
theorem Bb.Ef {xs : List Int} {i : Nat} (h : i < xs.length) : xs.getD i 0 ∈ xs := by
 rw [List.getD_eq_getElem?_getD, List.getElem?_eq_getElem h]
 exact List.getElem_mem h
theorem AH.Rb {w : AH} {r : Int} (h : (!w.Gv r) = false) : 0 ≤ r ∧ r < 6 := by
 unfold AH.Gv at h
 split at h
 ·simp at h
 ·rename_i c; simp at c; omega
theorem AH.GS {w : AH} {Ck at_ i : Int} (h : i ∈ w.has Ck at_) : 0 ≤ i ∧ i < 9 := by
 unfold AH.has at h
 have := (List.mem_filter.1 h).1
 obtain ⟨n, hn, rfl⟩ := List.mem_map.1 this
 have := List.mem_range.1 hn
 exact ⟨by simp, by show ((n : Nat) : Int) < 9; omega⟩
theorem AH.Ha (w : AH) (Ck at_ : Int) : (w.has Ck at_).length ≤ 9 := by
 rw [AH.SS]; exact AH.Q5 w Ck at_ _
end Go.Ing
/- What beings do keeps the land good: plain laws. -/
namespace Go.Ing
open Go
theorem Vector.EK {α : Type} [Inhabited α] {n : Nat} (v : Vector α n) (k : Int) (x y : α) : (v.put k x).put k y = v.put k y := by
 unfold Vector.put
 apply Vector.ext
 intro i hi
 simp only [Vector.getElem_setIfInBounds]
 split <;> rfl
theorem Vector.CG {α : Type} [Inhabited α] {n : Nat} {v : Vector α n} {k : Int} {x : α} (h0 : 0 ≤ k) (h1 : k < n) : (v.put k x).at k = x := by rw [Jy v k k x h0 h1 h0, if_pos rfl]
theorem Vector.Ev {α : Type} [Inhabited α] {n : Nat} {v : Vector α n} {k i : Int} {x : α} (h0 : 0 ≤ k) (h1 : k < n) (hi : 0 ≤ i) (hn : i ≠ k) : (v.put k x).at i = v.at i := by rw [Jy v k i x h0 h1 hi, if_neg hn]
namespace AH
variable {X Y : AH}
theorem Out.path : ∀ {m : Nat} {i : Int}, 0 ≤ i → i < 9 → Out X m i → ∃ s : List Int, Q6 s + s.length = 9 ∧ s.length = m + 1 ∧ ∀ j ∈ s, ∃ k, k ≤ m ∧ Out X k j
 | 0, i, h0, h9, h => ⟨[] ++ [i], by have := No (s := []) (i := i) (by simp) h0 h9; simp only [List.length_append, List.length_cons, List.length_nil]; have : Q6 [] = 9 := rfl; omega, rfl, fun j hj => by
   have : j = i := by simpa using hj
   subst this; exact ⟨0, Nat.le_refl _, h⟩⟩
 | m + 1, i, h0, h9, h => by
  obtain ⟨s, h1, h2, h3⟩ := Out.path h.2.1 h.2.2.1 h.2.2.2
  have hn : i ∉ s := fun hm => by
   obtain ⟨k, hk, ho⟩ := h3 i hm
   have := h.uniq ho
   omega
  have hl := No hn h0 h9
  refine ⟨s ++ [i], by simp only [List.length_append, List.length_cons, List.length_nil]; omega, by simp only [List.length_append, List.length_cons, List.length_nil]; omega, fun j hj => ?_⟩
  rcases List.mem_append.1 hj with hj | hj
  ·obtain ⟨k, hk, ho⟩ := h3 j hj
   exact ⟨k, by omega, ho⟩
  ·have : j = i := by simpa using hj
   subst this; exact ⟨m + 1, Nat.le_refl _, h⟩
theorem Out.bc {m : Nat} {i : Int} (h0 : 0 ≤ i) (h9 : i < 9) (h : Out X m i) : m ≤ 8 := by
 obtain ⟨s, h1, h2, _⟩ := h.path h0 h9
 omega
theorem KP : ∀ {m n : Nat} {i : Int}, Out X m i → m < n → X.Is n (X.AX.at i) = true
 | _, 0, _, _, h => absurd h (Nat.not_lt_zero _)
 | 0, n + 1, i, h, _ => by
  unfold Is
  rw [if_pos (by simpa using (show (X.AX.at i).Ck ≠ 2 from h))]
 | m + 1, n + 1, i, h, hl => by
  unfold Is
  rw [if_neg (by simp [h.1]), if_neg (by have := h.2.1; have := h.2.2.1; simp; omega)]
  exact KP h.2.2.2 (by omega)
structure M4 (X : AH) (i : Int) : Prop where
 k0 : 0 ≤ (X.AX.at i).kind
 k3 : (X.AX.at i).kind ≤ 3
 plain : (X.AX.at i).kind = 0 → (X.AX.at i).on = false
 a0 : 0 ≤ (X.AX.at i).at_
 Ck : ((X.AX.at i).Ck = 0 ∧ (X.AX.at i).at_ < 6 ∧ ¬ ((X.AX.at i).kind = 2 ∧ (X.AX.at i).on = true)) ∨
  ((X.AX.at i).Ck = 1 ∧ (X.AX.at i).at_ < 6 ∧ (X.AV.at (X.AX.at i).at_).here = true) ∨
  ((X.AX.at i).Ck = 2 ∧ (X.AX.at i).at_ < 9 ∧ (X.AX.at (X.AX.at i).at_).kind = 3 ∧ ¬ ((X.AX.at i).kind = 2 ∧ (X.AX.at i).on = true))
theorem Pd.p {i : Int} (h : Pd X i) : M4 X i := ⟨h.k0, h.k3, h.plain, h.a0, by
 rcases h.Ck with h | h | ⟨h1, h2, h3, h4, _⟩
 ·exact .inl h
 ·exact .inr (.inl h)
 ·exact .inr (.inr ⟨h1, h2, h3, h4⟩)⟩
theorem Oy {i : Int} (h : M4 X i) (h0 : 0 ≤ i) (h9 : i < 9) {m : Nat} (ho : Out X m i) : X.CX i = true := by
 have hc := KP ho (show m < 10 by have := ho.bc h0 h9; omega)
 have := h.k0; have := h.k3; have := h.a0
 unfold CX
 rw [if_neg (by
  simp only [Bool.or_eq_true, Bool.and_eq_true, decide_eq_true_eq]
  rintro (((h1 | h1) | ⟨h1, h2⟩) | h1)
  ·omega
  ·omega
  ·rw [h.plain h1] at h2; cases h2
  ·omega)]
 rcases h.Ck with ⟨w, a, b⟩ | ⟨w, a, b⟩ | ⟨w, a, k, b⟩
 ·rw [if_pos (by simp [w])]
  simp only [Bool.and_eq_true, decide_eq_true_eq, Bool.not_eq_true']
  refine ⟨a, ?_⟩
  cases hh : (decide ((X.AX.at i).kind = 2) && (X.AX.at i).on) with
  | false => rfl
  | true => rw [Bool.and_eq_true] at hh; exact absurd ⟨of_decide_eq_true hh.1, hh.2⟩ b
 ·rw [if_neg (by simp [w]), if_pos (by simp [w])]
  simp [a, b]
 ·rw [if_neg (by simp [w]), if_neg (by simp [w]), if_pos (by simp [w]), if_neg (by
   simp only [Bool.or_eq_true, Bool.and_eq_true, decide_eq_true_eq, Bool.not_eq_true', decide_eq_false_iff_not]
   rintro ((h1 | h1) | ⟨h1, h2⟩)
   ·omega
   ·exact h1 k
   ·exact b ⟨h1, h2⟩)]
  exact hc
theorem Sy (hr : ∀ r d, 0 ≤ r → r < 6 → 0 ≤ d → d < 6 → IE (X.Bv.at r) d = false) (hb : ∀ b, 0 ≤ b → b < 6 → DQ (X.AV.at b) = false) (ht : ∀ i, 0 ≤ i → i < 9 → M4 X i ∧ ∃ m, Out X m i) : X.Bq = true := by
 unfold Bq
 rw [Bool.and_eq_true, Bool.and_eq_true]
 refine ⟨(Dd 6).2 fun r h0 h1 => ?_, (Dd 6).2 fun b h0 h1 => ?_, (Dd 9).2 fun i h0 h1 => ?_⟩
 ·exact (Dd 6).2 fun d d0 d1 => by rw [hr r d (by omega) h1 (by omega) d1]; rfl
 ·rw [hb b (by omega) h1]; rfl
 ·obtain ⟨hp, m, ho⟩ := ht i (by omega) h1
  exact Oy hp (by omega) h1 ho
theorem Out.same (h : ∀ i, 0 ≤ i → i < 9 → (Y.AX.at i).Ck = (X.AX.at i).Ck ∧ (Y.AX.at i).at_ = (X.AX.at i).at_) : ∀ {m : Nat} {i : Int}, 0 ≤ i → i < 9 → Out X m i → Out Y m i
 | 0, i, h0, h9, ho => by show (Y.AX.at i).Ck ≠ 2; rw [(h i h0 h9).1]; exact ho
 | m + 1, i, h0, h9, ho => by
  refine ⟨(h i h0 h9).1.trans ho.1, ?_⟩
  rw [(h i h0 h9).2]
  exact ⟨ho.2.1, ho.2.2.1, Out.same h ho.2.1 ho.2.2.1 ho.2.2.2⟩
theorem Out.other {k : Int} (h : ∀ i, 0 ≤ i → i < 9 → i ≠ k → Y.AX.at i = X.AX.at i) (hk : ∃ m, Out Y m k) : ∀ {m : Nat} {i : Int}, 0 ≤ i → i < 9 → Out X m i → ∃ m', Out Y m' i
 | 0, i, h0, h9, ho => by
  by_cases e : i = k
  ·subst e; exact hk
  ·exact ⟨0, by show (Y.AX.at i).Ck ≠ 2; rw [h i h0 h9 e]; exact ho⟩
 | m + 1, i, h0, h9, ho => by
  by_cases e : i = k
  ·subst e; exact hk
  ·obtain ⟨m', h'⟩ := Out.other h hk ho.2.1 ho.2.2.1 ho.2.2.2
   exact ⟨m' + 1, by rw [Out, h i h0 h9 e]; exact ⟨ho.1, ho.2.1, ho.2.2.1, h'⟩⟩
end AH
end Go.Ing
/- What beings do keeps the land good: the parts of a turn. -/
namespace Go.Ing
open Go
theorem Vector.RK {α : Type} [Inhabited α] {n : Nat} (v : Vector α n) (k i : Int) (x : α) : (v.put k x).at i = x ∨ (v.put k x).at i = v.at i := by
 unfold Vector.put Vector.at
 rw [List.getD_eq_getElem?_getD, List.getD_eq_getElem?_getD]
 simp only [Vector.toList_setIfInBounds]
 rw [List.getElem?_set]
 split
 ·split
  ·exact .inl rfl
  ·rename_i h1 h2
   exact .inr (by rw [← h1, List.getElem?_eq_none (by omega)])
 ·exact .inr rfl
namespace AH
variable {X : AH}
def Jt (X : AH) (i : Int) (t : Ak) : AH := { X with AX := X.AX.put i t }
def Cv (X : AH) (b : Int) (x : Al) : AH := { X with AV := X.AV.put b x }
def YY (X : AH) (r d : Int) (v : Bool) : AH := { X with Bv := X.Bv.put r { X.Bv.at r with shut := (X.Bv.at r).shut.put d v } }
theorem K8 (hg : X.Bq = true) {i : Int} (h0 : 0 ≤ i) (h9 : i < 9) : M4 X i := (Qk (Mo hg h0 h9)).p
theorem Od (hg : X.Bq = true) {i : Int} (h0 : 0 ≤ i) (h9 : i < 9) : ∃ m, Out X m i := by
 obtain ⟨m, _, h⟩ := WH hg h0 h9; exact ⟨m, h⟩
theorem O3 {i j : Int} (h0 : 0 ≤ i) (h9 : i < 9) (j0 : 0 ≤ j) (hn : j ≠ i) (t : Ak) : (X.Jt i t).AX.at j = X.AX.at j := Vector.Ev h0 h9 j0 hn
theorem MJ {i : Int} (h0 : 0 ≤ i) (h9 : i < 9) (t : Ak) : (X.Jt i t).AX.at i = t := Vector.CG h0 h9
theorem HK {i j : Int} (h0 : 0 ≤ i) (h9 : i < 6) (j0 : 0 ≤ j) (hn : j ≠ i) (t : Al) : (X.Cv i t).AV.at j = X.AV.at j := Vector.Ev h0 h9 j0 hn
theorem Ed {i : Int} (h0 : 0 ≤ i) (h9 : i < 6) (t : Al) : (X.Cv i t).AV.at i = t := Vector.CG h0 h9
theorem UI (hg : X.Bq = true) {i : Int} (h0 : 0 ≤ i) (h9 : i < 9) {t : Ak} (hk : t.kind = (X.AX.at i).kind) (hp : M4 (X.Jt i t) i) (ho : ∃ m, Out (X.Jt i t) m i) : (X.Jt i t).Bq = true := by
 have hs : ∀ j, 0 ≤ j → j < 9 → j ≠ i → (X.Jt i t).AX.at j = X.AX.at j := fun j j0 _ hn => O3 h0 h9 j0 hn t
 refine Sy (fun r d r0 r6 d0 d6 => LP hg r0 r6 d0 d6) (fun b b0 b6 => Fg hg b0 b6) fun j j0 j9 => ?_
 obtain ⟨m, hm⟩ := Od hg j0 j9
 refine ⟨?_, Out.other hs ho j0 j9 hm⟩
 by_cases e : j = i
 ·subst e; exact hp
 ·have q := K8 hg j0 j9
  have hkk : ∀ a, 0 ≤ a → a < 9 → ((X.Jt i t).AX.at a).kind = (X.AX.at a).kind := fun a a0 a9 => by
   by_cases ea : a = i
   ·subst ea; rw [MJ h0 h9, hk]
   ·rw [hs a a0 a9 ea]
  have ej := hs j j0 j9 e
  refine ⟨by rw [ej]; exact q.k0, by rw [ej]; exact q.k3, by rw [ej]; exact q.plain, by rw [ej]; exact q.a0, ?_⟩
  rw [ej]
  rcases q.Ck with h | h | ⟨h1, h2, h3, h4⟩
  ·exact .inl h
  ·exact .inr (.inl h)
  ·exact .inr (.inr ⟨h1, h2, by rw [hkk _ q.a0 h2]; exact h3, h4⟩)
theorem JS (hg : X.Bq = true) {b : Int} (h0 : 0 ≤ b) (h6 : b < 6) {x : Al} (hx : DQ x = false) (hh : ∀ i, 0 ≤ i → i < 9 → (X.AX.at i).Ck = 1 → (X.AX.at i).at_ = b → x.here = true) : (X.Cv b x).Bq = true := by
 refine Sy (fun r d r0 r6 d0 d6 => LP hg r0 r6 d0 d6) (fun c c0 c6 => ?_) fun j j0 j9 => ?_
 ·by_cases e : c = b
  ·subst e; rw [Ed h0 h6]; exact hx
  ·rw [HK h0 h6 c0 e]; exact Fg hg c0 c6
 ·obtain ⟨m, hm⟩ := Od hg j0 j9
  refine ⟨?_, m, Out.same (X := X) (Y := X.Cv b x) (fun _ _ _ => ⟨rfl, rfl⟩) j0 j9 hm⟩
  have q := K8 hg j0 j9
  refine ⟨q.k0, q.k3, q.plain, q.a0, ?_⟩
  rcases q.Ck with h | ⟨h1, h2, h3⟩ | h
  ·exact .inl h
  ·refine .inr (.inl ⟨h1, h2, ?_⟩)
   show ((X.Cv b x).AV.at (X.AX.at j).at_).here = true
   by_cases e : (X.AX.at j).at_ = b
   ·rw [e, Ed h0 h6]; exact hh j j0 j9 h1 e
   ·rw [HK h0 h6 q.a0 e]; exact h3
  ·exact .inr (.inr h)
/-! #### what is done to a thing -/
section
variable {i : Int} (hg : X.Bq = true) (h0 : 0 ≤ i) (h9 : i < 9)
include hg h0 h9
theorem QA {v : Bool} {a : Int} (ha : 0 ≤ a ∧ a < 6) (hv : (X.AX.at i).kind = 0 → v = false) (hc : ¬ ((X.AX.at i).kind = 2 ∧ v = true)) : (X.Jt i { X.AX.at i with on := v, Ck := 0, at_ := a }).Bq = true := by
 have q := K8 hg h0 h9
 refine UI hg h0 h9 (by rfl) ?_ ⟨0, by show ((X.Jt i _).AX.at i).Ck ≠ 2; rw [MJ h0 h9]; intro hc; cases hc⟩
 refine ⟨?_, ?_, ?_, ?_, ?_⟩ <;> rw [MJ h0 h9]
 ·exact q.k0
 ·exact q.k3
 ·exact hv
 ·exact ha.1
 ·exact .inl ⟨rfl, ha.2, hc⟩
end
end AH
end Go.Ing
/- What beings do keeps the land good: a turn. -/
namespace Go.Ing
open Go
namespace AH
end AH
namespace AF
structure Fit (T : AF) : Prop where
 b : 0 ≤ T.b ∧ T.b < 6
 br : T.w.Dw
 gd : T.w.Bq = true
 here : (T.w.AV.at T.b).here = true
structure Step (b : Int) (X Y : AH) : Prop where
 th : ∀ i, 0 ≤ i → i < 9 → (Y.AX.at i).name = (X.AX.at i).name ∧ (Y.AX.at i).kind = (X.AX.at i).kind
 own : ∀ i, 0 ≤ i → i < 9 → (X.AX.at i).Ck = 1 → (X.AX.at i).at_ ≠ b → Y.AX.at i = X.AX.at i
 be : ∀ c, 0 ≤ c → c < 6 → c ≠ b → { Y.AV.at c with B1 := 0 } = { X.AV.at c with B1 := 0 }
 ro : ∀ r, 0 ≤ r → r < 6 → (Y.Bv.at r).name = (X.Bv.at r).name ∧ (Y.Bv.at r).LQ = (X.Bv.at r).LQ ∧ (Y.Bv.at r).DS = (X.Bv.at r).DS
theorem Step.refl (b : Int) (X : AH) : Step b X X := ⟨fun _ _ _ => ⟨rfl, rfl⟩, fun _ _ _ _ _ => rfl, fun _ _ _ _ => rfl, fun _ _ _ => ⟨rfl, rfl, rfl⟩⟩
theorem Step.trans {b : Int} {X Y Z : AH} (h : Step b X Y) (k : Step b Y Z) : Step b X Z :=
  ⟨fun i h0 h9 => ⟨(k.th i h0 h9).1.trans (h.th i h0 h9).1, (k.th i h0 h9).2.trans (h.th i h0 h9).2⟩,
   fun i h0 h9 h1 h2 => by
    have e := h.own i h0 h9 h1 h2
    exact (k.own i h0 h9 (by rw [e]; exact h1) (by rw [e]; exact h2)).trans e,
   fun c h0 h6 hn => (k.be c h0 h6 hn).trans (h.be c h0 h6 hn),
   fun r h0 h6 => ⟨(k.ro r h0 h6).1.trans (h.ro r h0 h6).1, (k.ro r h0 h6).2.1.trans (h.ro r h0 h6).2.1, (k.ro r h0 h6).2.2.trans (h.ro r h0 h6).2.2⟩⟩
theorem Fit.O1 {T T' : AF} (h : T.Fit) (hw : T'.w = T.w) (hb : T'.b = T.b) : T'.Fit := ⟨by rw [hb]; exact h.b, by rw [hw]; exact h.br, by rw [hw]; exact h.gd, by rw [hw, hb]; exact h.here⟩
theorem Fit.Bj {T : AF} (h : T.Fit) (e : Event) : (T.Bj e).Fit := h.O1 rfl rfl
theorem Fit.tell {T : AF} (h : T.Fit) (s : Aq) : (T.tell s).Fit := h.O1 rfl rfl
theorem Fit.room {T : AF} (h : T.Fit) : 0 ≤ (T.w.AV.at T.b).room ∧ (T.w.AV.at T.b).room < 6 := by
 have := AH.Fg h.gd h.b.1 h.b.2
 simp only [AH.DQ, Bool.or_eq_false_iff, decide_eq_false_iff_not] at this
 omega
theorem Fit.exit {T : AF} (h : T.Fit) {d : Int} (d0 : 0 ≤ d) (d6 : d < 6) : 0 ≤ (T.w.Bv.at (T.w.AV.at T.b).room).DS.at d ∧ (T.w.Bv.at (T.w.AV.at T.b).room).DS.at d ≤ 6 := by
 have := AH.LP h.gd h.room.1 h.room.2 d0 d6
 simp only [AH.IE, Bool.or_eq_false_iff, decide_eq_false_iff_not] at this
 omega
theorem Ry {X : AH} (h : X.Dw) {i : Int} {t : Ak} (ht : t.name.length ≤ 140737488351232) : (X.Jt i t).Dw := ⟨fun j => by
 rcases Vector.RK X.AX i j t with e | e
 ·show ((X.AX.put i t).at j).name.length ≤ _; rw [e]; exact ht
 ·show ((X.AX.put i t).at j).name.length ≤ _; rw [e]; exact h.th j, h.be, h.ro⟩
theorem EJ {X : AH} (h : X.Dw) {i : Int} {t : Al} (ht : t.name.length ≤ 140737488351232) : (X.Cv i t).Dw := ⟨h.th, fun j => by
 rcases Vector.RK X.AV i j t with e | e
 ·show ((X.AV.put i t).at j).name.length ≤ _; rw [e]; exact ht
 ·show ((X.AV.put i t).at j).name.length ≤ _; rw [e]; exact h.be j, h.ro⟩
theorem UH {b : Int} {X : AH} {i : Int} (h0 : 0 ≤ i) (h9 : i < 9) {t : Ak} (hn : t.name = (X.AX.at i).name) (hk : t.kind = (X.AX.at i).kind) (ho : (X.AX.at i).Ck = 1 → (X.AX.at i).at_ = b) : Step b X (X.Jt i t) :=
  ⟨fun j j0 _ => by
    by_cases e : j = i
    · subst e; rw [AH.MJ h0 h9]; exact ⟨hn, hk⟩
    · rw [AH.O3 h0 h9 j0 e]; exact ⟨rfl, rfl⟩,
   fun j j0 _ h1 h2 => by
    by_cases e : j = i
    · subst e; exact absurd (ho h1) h2
    · rw [AH.O3 h0 h9 j0 e],
   fun _ _ _ _ => rfl, fun _ _ _ => ⟨rfl, rfl, rfl⟩⟩
theorem OD {b : Int} {X : AH} {i : Int} (h0 : 0 ≤ i) (h6 : i < 6) {t : Al} (hn : i ≠ b → { t with B1 := 0 } = { X.AV.at i with B1 := 0 }) : Step b X (X.Cv i t) :=
 ⟨fun _ _ _ => ⟨rfl, rfl⟩, fun _ _ _ _ _ => rfl, fun c c0 _ hc => by
  by_cases e : c = i
  ·subst e; rw [AH.Ed h0 h6]; exact hn hc
  ·rw [AH.HK h0 h6 c0 e], fun _ _ _ => ⟨rfl, rfl, rfl⟩⟩
structure GZ (T T' : AF) : Prop where
 b : T'.b = T.b
 fit : T'.Fit
 st : Step T.b T.w T'.w
theorem GZ.trans {T T' T'' : AF} (h : GZ T T') (k : GZ T' T'') : GZ T T'' := ⟨k.b.trans h.b, k.fit, h.st.trans (by have := k.st; rwa [h.b] at this)⟩
theorem Fit.goes {T : AF} (h : T.Fit) : GZ T T := ⟨rfl, h, .refl _ _⟩
theorem GZ.O1 {T T' T'' : AF} (h : GZ T T') (hw : T''.w = T'.w) (hb : T''.b = T'.b) : GZ T T'' := ⟨hb.trans h.b, h.fit.O1 hw hb, by rw [hw]; exact h.st⟩
theorem R0 {T : AF} (h : T.Fit) {r : Int} (hr : 0 ≤ r ∧ r < 6) : GZ T (T.Im r) := by
 have hg := AH.Fg h.gd h.b.1 h.b.2
 have hme : ((T.Im r).w.AV.at T.b) = { T.me with room := r, B1 := 0 } := Vector.CG h.b.1 h.b.2
 refine ⟨rfl, ⟨h.b, EJ h.br (h.br.be T.b), AH.JS h.gd h.b.1 h.b.2 ?_ fun _ _ _ _ _ => h.here, ?_⟩, OD h.b.1 h.b.2 fun hn => absurd rfl hn⟩
 ·unfold AH.DQ at hg ⊢
  show (decide (r < 0) || decide (6 ≤ r) || decide ((T.w.AV.at T.b).BL < 0) || decide (10 < (T.w.AV.at T.b).BL) || decide ((0 : Int) < 0) || decide (6 < (0 : Int)) || (!(T.w.AV.at T.b).here && !decide ((0 : Int) = 0)) || (T.w.AV.at T.b).here != decide (0 < (T.w.AV.at T.b).BL)) = false
  simp only [Bool.or_eq_false_iff, decide_eq_false_iff_not] at hg ⊢
  refine ⟨⟨⟨⟨⟨⟨⟨by omega, by omega⟩, hg.1.1.1.1.1.2⟩, hg.1.1.1.1.2⟩, by decide⟩, by decide⟩, by simp⟩, hg.2⟩
 ·show ((T.Im r).w.AV.at T.b).here = true
  rw [hme]; exact h.here
end AF
end Go.Ing
/- What beings do keeps the land good: each order. -/
namespace Go.Ing
open Go
namespace AH
variable {X : AH}
theorem SB {Ck at_ i : Int} (h : i ∈ X.has Ck at_) : (X.AX.at i).Ck = Ck ∧ (X.AX.at i).at_ = at_ := by
 have := (List.mem_filter.1 h).2
 rw [Bool.and_eq_true] at this
 exact ⟨of_decide_eq_true this.1, of_decide_eq_true this.2⟩
theorem TJ (Ck at_ : Int) : (X.has Ck at_).Nodup := by
 unfold has
 exact List.Pairwise.filter _ (by decide)
end AH
namespace AF
/-! #### which things are meant -/
theorem ET (w : AH) (l : List Int) (nth : Int) (name : Aq) (all : Bool) : (BO w l nth name all).Sublist l := by
 unfold BO
 split
 ·exact List.filter_sublist
 ·split
  ·exact List.nil_sublist _
  ·exact ((List.drop_sublist _ _).trans (List.take_sublist _ _)).trans List.filter_sublist
theorem EV {w : AH} {l : List Int} {nth : Int} {name : Aq} {all : Bool} {i : Int} (h : i ∈ BO w l nth name all) : i ∈ l := (ET w l nth name all).mem h
def Rq (X : AH) (b i : Int) : Prop := 0 ≤ i ∧ i < 9 ∧ ((X.AX.at i).Ck = 1 → (X.AX.at i).at_ = b)
def bK (X : AH) (b i : Int) : Prop := 0 ≤ i ∧ i < 9 ∧ (X.AX.at i).Ck = 1 ∧ (X.AX.at i).at_ = b
theorem bK.XK {X : AH} {b i : Int} (h : bK X b i) : Rq X b i := ⟨h.1, h.2.1, fun _ => h.2.2.2⟩
theorem HF {T : AF} {i : Int} (h : i ∈ T.own) : bK T.w T.b i := ⟨(AH.GS h).1, (AH.GS h).2, (AH.SB h).1, (AH.SB h).2⟩
theorem Ik {T : AF} {i : Int} (h : i ∈ T.seen) : 0 ≤ i ∧ i < 9 ∧ (T.w.AX.at i).Ck = 0 := by
 unfold seen at h
 split at h
 ·cases h
 ·exact ⟨(AH.GS h).1, (AH.GS h).2, (AH.SB h).1⟩
theorem Uc {T : AF} {i : Int} (h : i ∈ T.seen) : Rq T.w T.b i := by
 obtain ⟨h0, h9, e⟩ := Ik h
 exact ⟨h0, h9, fun e1 => by omega⟩
theorem QC {l : List Int} (h : (decide ((l.length : Int) = 0)) = false) : l.getD 0 0 ∈ l := by
 have h' : (l.length : Int) ≠ 0 := of_decide_eq_false h
 exact Bb.Ef (by omega)
theorem Ml {T : AF} {u : Aq} (h : (T.one u).2 = true) : Rq T.w T.b (T.one u).1 := by
 unfold one at h ⊢
 split at h
 ·cases h
 ·rename_i h1
  rw [if_neg h1]
  split at h
  ·cases h
  ·rename_i h2
   rw [if_neg h2]
   have hm := EV (QC (Bool.not_eq_true _ ▸ h2))
   rcases List.mem_append.1 hm with hm | hm
   ·exact (HF hm).XK
   ·exact Uc hm
/-! #### a box, somebody -/
theorem OE (T : AF) (u : Aq) : (T.box u).1.w = T.w ∧ (T.box u).1.b = T.b := by
 unfold box
 split
 ·exact ⟨rfl, rfl⟩
 ·split <;> exact ⟨rfl, rfl⟩
theorem Xu {T : AF} {u : Aq} (h : (T.box u).2.2 = true) : 0 ≤ (T.box u).2.1 ∧ (T.box u).2.1 < 9 ∧ (T.w.AX.at (T.box u).2.1).kind = 3 ∧ (T.box u).1 = T := by
 unfold box at h ⊢
 split at h
 ·cases h
 ·rename_i h1
  rw [if_neg h1]
  split at h
  ·cases h
  ·rename_i h2
   rw [if_neg h2]
   simp only [Bool.or_eq_true, Bool.not_eq_true', decide_eq_false_iff_not, not_or, Bool.not_eq_false, Decidable.not_not] at h1
   have hm := Ml h1.1
   exact ⟨hm.1, hm.2.1, h1.2, rfl⟩
theorem Km {T : AF} {name : Aq} {k : Int} : ∀ {r : Nat} {n : Int}, r ≤ 6 → T.Hg name r n = some k → 0 ≤ k ∧ k < 6 ∧ k ≠ T.b ∧ T.w.Hw T.b k = true
 | 0, _, _, h => by cases h
 | r + 1, n, hr, h => by
  unfold Hg at h
  split at h
  ·exact Km (by omega) h
  ·rename_i h1
   split at h
   ·cases h
    simp only [Bool.or_eq_true, decide_eq_true_eq, Bool.not_eq_true', not_or, Bool.not_eq_false] at h1
    exact ⟨by omega, by omega, h1.1.1, h1.2⟩
   ·exact Km (by omega) h
theorem Nq (T : AF) (u : Aq) : (T.BN u).1.w = T.w ∧ (T.BN u).1.b = T.b := by
 unfold BN
 split
 ·split <;> exact ⟨rfl, rfl⟩
 ·exact ⟨rfl, rfl⟩
theorem Qf {T : AF} {u : Aq} (h : (T.BN u).2.2 = true) : 0 ≤ (T.BN u).2.1 ∧ (T.BN u).2.1 < 6 ∧ (T.BN u).2.1 ≠ T.b ∧ T.w.Hw T.b (T.BN u).2.1 = true := by
 unfold BN at h ⊢
 split at h
 ·rename_i h1
  rw [if_pos h1]
  split at h
  ·rename_i k hk
   exact Km (Nat.le_refl _) hk
  ·cases h
 ·cases h
/-! #### taking and letting go -/
theorem Nv {T : AF} (h : T.Fit) {i : Int} (hm : Rq T.w T.b i) {t : Ak} (hn : t.name = (T.w.AX.at i).name) (hk : t.kind = (T.w.AX.at i).kind) (hg : (T.w.Jt i t).Bq = true) : GZ T (T.D5 i t) :=
 ⟨rfl, ⟨h.b, Ry h.br (by rw [hn]; exact h.br.th i), hg, h.here⟩, UH hm.1 hm.2.1 hn hk hm.2.2⟩
theorem Ka {T : AF} {i j Ck at_ : Int} (h0 : 0 ≤ i) (h9 : i < 9) (j0 : 0 ≤ j) : (T.place i Ck at_).w.AX.at j = if j = i then { T.w.AX.at i with Ck := Ck, at_ := at_ } else T.w.AX.at j := Jy _ _ _ _ h0 h9 j0
def QP (T : AF) (v to : Int) : Prop := (v = 8) ∨ (v = 10 ∧ 0 ≤ to ∧ to < 6 ∧ (T.w.AV.at to).here = true) ∨ (v ≠ 8 ∧ v ≠ 10 ∧ 0 ≤ to ∧ to < 9 ∧ (T.w.AX.at to).kind = 3)
theorem QP.next {T T' : AF} {v to : Int} (h : QP T v to) (hb : T'.w.AV = T.w.AV) (hk : ∀ i, 0 ≤ i → i < 9 → (T'.w.AX.at i).kind = (T.w.AX.at i).kind) : QP T' v to := by
 rcases h with h | ⟨h1, h2, h3, h4⟩ | ⟨h1, h2, h3, h4, h5⟩
 ·exact .inl h
 ·exact .inr (.inl ⟨h1, h2, h3, by rw [hb]; exact h4⟩)
 ·exact .inr (.inr ⟨h1, h2, h3, h4, by rw [hk _ h3 h4]; exact h5⟩)
end AF
end Go.Ing
/- What walks through a turn need. -/
namespace Go.Ing
open Go
theorem K2 {α : Type} {l : List α} {k : Int} {d : α} (h0 : 0 ≤ k) (h1 : k < l.length) : l.take (k + 1).toNat = l.take k.toNat ++ [l.getD k.toNat d] := by
 obtain ⟨m, rfl⟩ := Int.eq_ofNat_of_zero_le h0
 have hm : m < l.length := by omega
 rw [show ((m : Int) + 1).toNat = m + 1 by omega, show ((m : Int)).toNat = m by omega, List.take_add_one, List.getElem?_eq_getElem hm, List.getD_eq_getElem?_getD, List.getElem?_eq_getElem hm]
 rfl
theorem AH.Ph (d : Int) : 0 ≤ AH.opposite d ∧ AH.opposite d < 6 := by
 unfold AH.opposite
 have h := Int.tmod_nonneg (a := max 0 (min d 5) + 3) 6 (by omega)
 have h2 := Int.tmod_lt_of_pos (max 0 (min d 5) + 3) (show (0 : Int) < 6 by decide)
 exact ⟨h, h2⟩
theorem Words.QU {s : Aq} : ∀ {n : Nat}, n ≤ 6 → (Words.Nk s n).2 = true → 0 ≤ (Words.Nk s n).1 ∧ (Words.Nk s n).1 < 6
 | 0, _, h => by cases h
 | n + 1, hn, h => by
  unfold Words.Nk at h ⊢
  split
  ·rename_i c
   show 0 ≤ ((5 - n : Nat) : Int) ∧ ((5 - n : Nat) : Int) < 6
   omega
  ·rename_i c
   rw [if_neg c] at h
   exact Words.QU (by omega) h
theorem Words.Wx {s : Aq} (h : (Words.dir s).2 = true) : 0 ≤ (Words.dir s).1 ∧ (Words.dir s).1 < 6 := Words.QU (Nat.le_refl _) h
namespace AF
theorem Wl {w : AH} {u : Aq} {l : List Int} {k : Int} (h0 : 0 ≤ k) (h1 : k < l.length) (c : (decide (u = []) || decide ((w.AX.at (l.getD k.toNat 0)).name = u)) = true) : IY w u (l.take (k + 1).toNat) = IY w u (l.take k.toNat) ++ [l.getD k.toNat 0] := by
 rw [K2 (d := 0) h0 h1, IY, List.filter_append, List.filter_cons, if_pos c]; rfl
theorem Wp {w : AH} {u : Aq} {l : List Int} {k : Int} (h0 : 0 ≤ k) (h1 : k < l.length) (c : (decide (u = []) || decide ((w.AX.at (l.getD k.toNat 0)).name = u)) = false) : IY w u (l.take (k + 1).toNat) = IY w u (l.take k.toNat) := by
 rw [K2 (d := 0) h0 h1, IY, List.filter_append, List.filter_cons, if_neg (by rw [c]; decide)]; simp [IY]
theorem Tx (w : AH) (u : Aq) (l : List Int) : (IY w u l).length ≤ l.length := List.length_filter_le _ _
theorem JN (T : AF) : T.own.length ≤ 9 := AH.Ha _ _ _
theorem Hu (T : AF) : T.seen.length ≤ 9 := by
 unfold seen; split
 ·simp
 ·exact AH.Ha _ _ _
theorem O6 {T : AF} {i : Int} (h : i ∈ T.own ++ T.seen) : 0 ≤ i ∧ i < 9 := by
 rcases List.mem_append.1 h with h | h
 ·exact ⟨(HF h).1, (HF h).2.1⟩
 ·exact ⟨(Ik h).1, (Ik h).2.1⟩
theorem KU {T : AF} {i : Int} (h : i ∈ T.own) : 0 ≤ i ∧ i < 9 := ⟨(HF h).1, (HF h).2.1⟩
theorem NY {T : AF} {i : Int} (h : i ∈ T.seen) : 0 ≤ i ∧ i < 9 := ⟨(Ik h).1, (Ik h).2.1⟩
theorem Sn (T : AF) (u : Aq) : 0 ≤ (T.one u).1 ∧ (T.one u).1 < 9 := by
 by_cases h : (T.one u).2 = true
 ·exact ⟨(Ml h).1, (Ml h).2.1⟩
 ·unfold one at h ⊢
  split
  ·exact ⟨Int.le_refl _, by decide⟩
  ·rename_i h1
   rw [if_neg h1] at h
   split
   ·exact ⟨Int.le_refl _, by decide⟩
   ·rename_i h2
    rw [if_neg h2] at h
    exact absurd rfl h
theorem XG (T : AF) (u : Aq) : 0 ≤ (T.box u).2.1 ∧ (T.box u).2.1 < 9 := by
 have h := T.Sn u
 unfold box
 split
 ·exact ⟨Int.le_refl _, show (0 : Int) < 9 by decide⟩
 ·split
  ·exact ⟨Int.le_refl _, show (0 : Int) < 9 by decide⟩
  ·exact h
theorem HA (T : AF) (u : Aq) : (T.box u).1.out.length ≤ T.out.length + 1 := by
 unfold box
 split
 ·simp
 ·split <;> simp
theorem KN (T : AF) (u : Aq) : 0 ≤ (T.BN u).2.1 ∧ (T.BN u).2.1 < 6 := by
 unfold BN
 split
 ·split
  ·rename_i k hk
   have := Km (Nat.le_refl _) hk
   exact ⟨this.1, this.2.1⟩
  ·exact ⟨Int.le_refl _, show (0 : Int) < 6 by decide⟩
 ·exact ⟨Int.le_refl _, show (0 : Int) < 6 by decide⟩
theorem GX (T : AF) (u : Aq) : (T.BN u).1.out.length ≤ T.out.length + 1 := by
 unfold BN
 split
 ·split <;> simp
 ·simp
theorem VQ (T : AF) (hb : 0 ≤ T.b ∧ T.b < 6) (r : Int) : ({ T.w with AV := (T.w.AV.put T.b { T.w.AV.at T.b with room := r }).put T.b { (T.w.AV.put T.b { T.w.AV.at T.b with room := r }).at T.b with B1 := 0 } } : AH) = (T.Im r).w := by
 rw [Vector.CG hb.1 hb.2, Vector.EK]; rfl
theorem Gk (T : AF) {i : Int} (h0 : 0 ≤ i) (h9 : i < 9) (wh a : Int) : ({ T.w with AX := (T.w.AX.put i { T.w.AX.at i with Ck := wh }).put i { (T.w.AX.put i { T.w.AX.at i with Ck := wh }).at i with at_ := a } } : AH) = (T.place i wh a).w := by
 rw [Vector.CG h0 h9, Vector.EK]; rfl
theorem Dg {T : AF} {i : Int} (h0 : 0 ≤ i) (h9 : i < 9) (wh a : Int) : ((T.place i wh a).w.AX.at i).name = (T.w.AX.at i).name := by
 rw [Ka h0 h9 h0, if_pos rfl]
theorem DG {T : AF} {i j : Int} (h0 : 0 ≤ i) (h9 : i < 9) (j0 : 0 ≤ j) (wh a : Int) : ((T.place i wh a).w.AX.at j).name = (T.w.AX.at j).name := by
 rw [Ka h0 h9 j0]
 split
 ·rename_i e; subst e; rfl
 ·rfl
theorem TF (T : AF) {i : Int} (h0 : 0 ≤ i) (h9 : i < 9) (c : decide ((T.w.AX.at i).kind = 2) = true) : ({ T.w with AX := (((T.w.AX.put i { T.w.AX.at i with on := false }).put i { (T.w.AX.put i { T.w.AX.at i with on := false }).at i with Ck := 0 }).put i { ((T.w.AX.put i { T.w.AX.at i with on := false }).put i { (T.w.AX.put i { T.w.AX.at i with on := false }).at i with Ck := 0 }).at i with at_ := (T.w.AV.at T.b).room }) } : AH) = (T.Ee i).w := by
 rw [Vector.CG h0 h9, Vector.EK, Vector.CG h0 h9, Vector.EK]
 unfold Ee
 rw [if_pos c]; rfl
theorem TZ (T : AF) {i : Int} (h0 : 0 ≤ i) (h9 : i < 9) (c : decide ((T.w.AX.at i).kind = 2) = false) : ({ T.w with AX := (T.w.AX.put i { T.w.AX.at i with Ck := 0 }).put i { (T.w.AX.put i { T.w.AX.at i with Ck := 0 }).at i with at_ := (T.w.AV.at T.b).room } } : AH) = (T.Ee i).w := by
 rw [Vector.CG h0 h9, Vector.EK]
 unfold Ee
 rw [if_neg (by rw [c]; decide)]; rfl
theorem GW {X : AF} {l : List Int} {k : Int} (h0 : 0 ≤ k) (h1 : k < l.length) : X.DZ (l.drop k.toNat) = ((X.place (l.getD k.toNat 0) 1 X.b).By 3 (l.getD k.toNat 0)).DZ (l.drop (k + 1).toNat) := by
 rw [ML h0 h1]; rfl
theorem Ky {X : AF} {l : List Int} {k : Int} (h0 : 0 ≤ k) (h1 : k < l.length) : X.Ca (l.drop k.toNat) = (X.Ee (l.getD k.toNat 0)).Ca (l.drop (k + 1).toNat) := by
 rw [ML h0 h1]; rfl
theorem Ix {α : Type} {l : List α} : l.drop (l.length : Int).toNat = [] := by rw [show (l.length : Int).toNat = l.length by omega, List.drop_length]
theorem Na {T : AF} {k : Int} (h : 0 ≤ k) : T.Dr (k + 1).toNat = if decide (((T.Dr k.toNat).w.AV.at k).B1 = T.b + 1) = true then (T.Dr k.toNat).DO k 0 else T.Dr k.toNat := by
 obtain ⟨m, rfl⟩ := Int.eq_ofNat_of_zero_le h
 rfl
theorem P4 (T : AF) : ∀ k : Nat, (T.Dr k).b = T.b ∧ (T.Dr k).out = T.out
 | 0 => ⟨rfl, rfl⟩
 | k + 1 => by
  unfold Dr; split
  ·exact P4 T k
  ·exact P4 T k
theorem Ht : ∀ (l : List Int) (T : AF), (T.Ca l).b = T.b ∧ (T.Ca l).out = T.out
 | [], T => ⟨rfl, rfl⟩
 | i :: r, T => by rw [Ca]; exact Ht r _
theorem KD {T : AF} {name : Aq} {k n : Int} (h0 : 0 ≤ k) (h6 : k < 6) : T.Hg name (6 - k).toNat n = if (decide (k = T.b) || !decide ((T.w.AV.at k).name = name) || !T.w.Hw T.b k) = true then T.Hg name (6 - (k + 1)).toNat n else if decide (n - 1 = 0) = true then some k else T.Hg name (6 - (k + 1)).toNat (n - 1) := by
 obtain ⟨m, rfl⟩ := Int.eq_ofNat_of_zero_le h0
 have e : (6 - (m : Int)).toNat = (6 - ((m : Int) + 1)).toNat + 1 := by omega
 rw [e, Hg, show (((6 - ((6 - ((m : Int) + 1)).toNat + 1) : Nat)) : Int) = (m : Int) by omega]
@[simp] theorem E6 (T : AF) (k i : Int) : (T.By k i).out.length = T.out.length + 1 := by simp [By]
@[simp] theorem Ks (T : AF) (k : Int) : (T.kind k).out.length = T.out.length + 1 := by simp [kind]
theorem RI (T : AF) (b f : Int) : (T.DO b f).b = T.b ∧ (T.DO b f).out = T.out := ⟨rfl, rfl⟩
theorem SP (T : AF) : T.Fz.b = T.b ∧ T.Fz.out = T.out := by
 unfold Fz
 rw [(RI _ _ _).1, (RI _ _ _).2]
 have h1 := AF.Ht T.own T
 have h2 := AF.P4 (T.Ca T.own) 6
 exact ⟨h2.1.trans h1.1, h2.2.trans h1.2⟩
theorem DR (T : AF) (b : Int) (x : Al) : (T.C6 b x).b = T.b ∧ (T.C6 b x).out = T.out ∧ (T.C6 b x).w = { T.w with AV := T.w.AV.put b x } := ⟨rfl, rfl, rfl⟩
theorem V7 (T : AF) : T.Kp.b = (T.kind 18).b ∧ T.Kp.out = (T.kind 18).out ∧ T.Kp.w = { (T.kind 18).Fz.w with AV := (T.kind 18).Fz.w.AV.put (T.kind 18).b default } := by
 unfold Kp
 rw [(DR _ _ _).1, (DR _ _ _).2.1, (DR _ _ _).2.2]
 exact ⟨(SP _).1, (SP _).2, rfl⟩
theorem QG {l : List Int} (h : ∀ i ∈ l, 0 ≤ i ∧ i < 9) : 0 ≤ l.getD (0 : Int).toNat 0 ∧ l.getD (0 : Int).toNat 0 < 9 := by
 cases l with
 | nil => exact ⟨Int.le_refl _, show (0 : Int) < 9 by decide⟩
 | cons x r => exact h x (List.mem_cons_self ..)
theorem MX (T : AF) (v to i : Int) : (T.DN v to i).out.length ≤ T.out.length + 1 := by
 unfold DN
 split
 ·simp
 ·split
  ·rw [E6]; exact Nat.le_refl _
  ·split
   ·rw [CR]; exact Nat.le_refl _
   ·split
    ·simp
    ·rw [CR]; exact Nat.le_refl _
theorem VO (T : AF) (v to i : Int) : (T.DN v to i).b = T.b := by
 unfold DN
 split
 ·rfl
 ·split
  ·rfl
  ·split
   ·rfl
   ·split <;> rfl
theorem OW (T : AF) (o : Order) : (T.C7 o).1.out.length ≤ T.out.length + 1 := by
 unfold C7
 split
 ·exact T.HA _
 ·split
  ·exact T.GX _
  ·exact Nat.le_succ _
theorem Ty {X : AH} {b : Int} (hw : X.Dw) (c1 : (!X.Bq) = false) (c2 : (decide (b < 0) || decide (6 ≤ b) || !(X.AV.at b).here) = false) : Fit ⟨X, b, []⟩ := by
 simp only [Bool.or_eq_false_iff, decide_eq_false_iff_not, Bool.not_eq_false'] at c1 c2
 exact ⟨⟨by show 0 ≤ b; omega, by show b < 6; omega⟩, hw, c1, c2.2⟩
end AF
end Go.Ing
/- Engine: texts deep within what came in, as parts of its reading. -/
namespace Go.Ing
open Go
section
open Go.RowKit Go.ChangeShapes Go.WideShapes Go.ChangeAt
variable {H : Type} {enc : TypeId × Value → H} {P : Program} {w : World}
end
end Go.Ing
/- Laws of what beings do: doors; that rules answer at all. -/
namespace Go.Ing
open Go
theorem Vector.Nc {α : Type} [Inhabited α] {n : Nat} (v : Vector α n) (i : Int) : v.at i = default ∨ ∃ j : Int, 0 ≤ j ∧ j < n ∧ v.at i = v.at j := by
 by_cases h : i.toNat < n
 ·exact .inr ⟨(i.toNat : Int), by omega, by omega, by unfold Vector.at; rw [show ((i.toNat : Nat) : Int).toNat = i.toNat by omega]⟩
 ·refine .inl ?_
  unfold Vector.at
  rw [List.getD_eq_getElem?_getD, List.getElem?_eq_none (by simp; omega)]
  rfl
namespace AF
end AF
end Go.Ing
/- What beings do keeps the land good: all orders. -/
namespace Go.Ing
open Go
namespace AF
theorem Lp {T : AF} (h : T.Fit) {c f : Int} (c0 : 0 ≤ c) (c6 : c < 6) (f0 : 0 ≤ f) (f6 : f ≤ 6) (hh : f ≠ 0 → (T.w.AV.at c).here = true) : GZ T (T.DO c f) := by
 have hg := AH.Fg h.gd c0 c6
 have hb : ∀ a, 0 ≤ a → ((T.DO c f).w.AV.at a).here = (T.w.AV.at a).here := fun a a0 => by
  show ((T.w.AV.put c { T.w.AV.at c with B1 := f }).at a).here = _
  rw [Jy _ _ _ _ c0 c6 a0]
  split
  ·rename_i e; subst e; rfl
  ·rfl
 refine ⟨rfl, ⟨h.b, EJ h.br (h.br.be c), AH.JS h.gd c0 c6 ?_ fun i i0 i9 hw ha => ?_, (hb T.b h.b.1).trans h.here⟩, OD c0 c6 fun _ => rfl⟩
 ·unfold AH.DQ at hg ⊢
  simp only [Bool.or_eq_false_iff, decide_eq_false_iff_not, Bool.and_eq_false_iff, Bool.not_eq_false'] at hg ⊢
  obtain ⟨⟨⟨⟨⟨⟨⟨q1, q2⟩, q3⟩, q4⟩, q5⟩, q6⟩, q7⟩, q8⟩ := hg
  refine ⟨⟨⟨⟨⟨⟨⟨q1, q2⟩, q3⟩, q4⟩, by omega⟩, by omega⟩, ?_⟩, q8⟩
  by_cases e : f = 0
  ·exact .inr (by simp [e])
  ·exact .inl (hh e)
 ·show (T.w.AV.at c).here = true
  have := AH.K8 h.gd i0 i9
  rcases this.Ck with ⟨a, _⟩ | ⟨_, _, a⟩ | ⟨a, _⟩
  ·omega
  ·rw [ha] at a; exact a
  ·omega
theorem Iq {T : AF} {i j : Int} (h0 : 0 ≤ i) (h9 : i < 9) (j0 : 0 ≤ j) : (T.Ee i).w.AX.at j = if j = i then { T.w.AX.at i with on := if decide ((T.w.AX.at i).kind = 2) = true then false else (T.w.AX.at i).on, Ck := 0, at_ := T.me.room } else T.w.AX.at j := Jy _ _ _ _ h0 h9 j0
theorem P8 {T : AF} (h : T.Fit) {i : Int} (hm : Rq T.w T.b i) : GZ T (T.Ee i) :=
 Nv h hm rfl rfl (AH.QA h.gd hm.1 hm.2.1 h.room (fun e => by rw [if_neg (by rw [e]; decide)]; exact (AH.K8 h.gd hm.1 hm.2.1).plain e) (fun ⟨e1, e2⟩ => by rw [if_pos (decide_eq_true e1)] at e2; cases e2))
theorem IF : ∀ {l : List Int} {T : AF}, T.Fit → (∀ i ∈ l, Rq T.w T.b i) → GZ T (T.Ca l) ∧ ∀ j, 0 ≤ j → j < 9 → (((T.Ca l).w.AX.at j).Ck = 0 ∨ (j ∉ l ∧ (T.Ca l).w.AX.at j = T.w.AX.at j))
 | [], T, h, _ => ⟨h.goes, fun j _ _ => .inr ⟨by simp, rfl⟩⟩
 | i :: r, T, h, hm => by
  have hi := hm i (List.mem_cons_self ..)
  have g1 := P8 h hi
  obtain ⟨g2, k2⟩ := IF (l := r) g1.fit fun j hj => by
   have hj' := hm j (List.mem_cons_of_mem _ hj)
   refine ⟨hj'.1, hj'.2.1, ?_⟩
   rw [Iq hi.1 hi.2.1 hj'.1]
   split
   ·intro e; cases e
   ·exact hj'.2.2
  refine ⟨g1.trans g2, fun j j0 j9 => ?_⟩
  rcases k2 j j0 j9 with e | ⟨e1, e2⟩
  ·exact .inl e
  ·have hd := Iq (T := T) hi.1 hi.2.1 j0
   by_cases hji : j = i
   ·rw [if_pos hji] at hd
    exact .inl (by rw [show (T.Ca (i :: r)).w.AX.at j = _ from e2, hd])
   ·rw [if_neg hji] at hd
    exact .inr ⟨by simp [hji, e1], e2.trans hd⟩
theorem KJ {T : AF} (h : T.Fit) : ∀ {k : Nat}, k ≤ 6 → GZ T (T.Dr k) ∧ (T.Dr k).w.AX = T.w.AX
 | 0, _ => ⟨h.goes, rfl⟩
 | k + 1, hk => by
  obtain ⟨g, e⟩ := KJ (k := k) h (by omega)
  unfold Dr
  split
  ·exact ⟨g.trans (Lp g.fit (by omega) (by omega) (Int.le_refl _) (by decide) fun e => absurd rfl e), e⟩
  ·exact ⟨g, e⟩
theorem MF (T : AF) : T.Fz = ((T.Ca T.own).Dr 6).DO T.b 0 := by unfold Fz; rfl
theorem WW {T : AF} (h : T.Fit) : GZ T T.Fz := by
 have g1 := (IF h (l := T.own) fun i hi => (HF hi).XK).1
 have g2 := (KJ g1.fit (k := 6) (Nat.le_refl _)).1
 have g3 := g1.trans g2
 have g4 := Lp g3.fit (c := T.b) (f := 0) h.b.1 h.b.2 (Int.le_refl _) (by decide) (fun e => (e rfl).elim)
 rw [MF]
 exact g3.trans g4
theorem N8 (T : AF) (b f : Int) : (T.DO b f).w.AX = T.w.AX := rfl
theorem Qt {T : AF} (h : T.Fit) {j : Int} (j0 : 0 ≤ j) (j9 : j < 9) : ¬ ((T.Fz.w.AX.at j).Ck = 1 ∧ (T.Fz.w.AX.at j).at_ = T.b) := by
 obtain ⟨g1, k1⟩ := IF h (l := T.own) fun i hi => (HF hi).XK
 have k2 := (KJ g1.fit (k := 6) (Nat.le_refl _)).2
 rw [MF, N8, k2]
 rcases k1 j j0 j9 with e | ⟨e1, e2⟩
 ·rw [e]; exact fun h => by cases h.1
 ·rw [e2]
  intro ⟨a, b⟩
  refine e1 ?_
  unfold own AH.has
  exact List.mem_filter.2 ⟨List.mem_map.2 ⟨j.toNat, List.mem_range.2 (by omega), by show ((j.toNat : Nat) : Int) = j; omega⟩, by rw [a, b]; simp⟩
theorem TH {T : AF} (h : T.Fit) : GZ T T.Fz ∧ ∀ j, 0 ≤ j → j < 9 → ¬ ((T.Fz.w.AX.at j).Ck = 1 ∧ (T.Fz.w.AX.at j).at_ = T.b) := ⟨WW h, fun _ j0 j9 => Qt h j0 j9⟩
end AF
end Go.Ing
