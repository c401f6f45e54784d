/- What the functions that the law of this seat reaches compute, and the plain laws of it. No condition. -/
import Derived.Test.YtoidpggbbfncpaaGreatDoorTopTurnsEc3
import Derived.Test.YtoidpggbbfncpaaGreatDoorTopTurnsRa1
set_option linter.unusedSimpArgs false
set_option linter.unusedVariables false
/- What people type: plain functions, and what is known of pieces. -/
namespace Go.Ing
open Go
namespace Words
theorem Lg (c : UInt8) : ∀ s : Ap, (Lib.indexByte s c = -1 ∧ c ∉ s) ∨ ∃ i : Nat, Lib.indexByte s c = i ∧ i < s.length ∧ c ∉ s.take i ∧ s.drop i = c :: s.drop (i + 1)
 | [] => .inl ⟨rfl, by simp⟩
 | b :: r => by
  by_cases h : b = c
  ·subst h
   exact .inr ⟨0, by simp [Lib.indexByte], by simp, by simp, by simp⟩
  ·have hb : (b == c) = false := by simpa using h
   rcases Lg c r with ⟨h1, h2⟩ | ⟨i, h1, h2, h3, h4⟩
   ·exact .inl ⟨by simp [Lib.indexByte, hb, h1], by simp [Ne.symm h, h2]⟩
   ·refine .inr ⟨i + 1, ?_, by simp; omega, ?_, by simpa using h4⟩
    ·have : ((i : Int) == -1) = false := by simp
     simp [Lib.indexByte, hb, h1, this]
    ·simp [Ne.symm h, h3]
def pieces (c : UInt8) : Ap → List Ap
 | [] => [[]]
 | x :: r => if x = c then [] :: pieces c r else (x :: (pieces c r).headD []) :: (pieces c r).tail
theorem QA (c : UInt8) (s : Ap) : pieces c s ≠ [] := by
 cases s with
 | nil => simp [pieces]
 | cons x r => unfold pieces; split <;> simp
theorem Kd {c : UInt8} : ∀ {s : Ap}, c ∉ s → pieces c s = [s]
 | [], _ => rfl
 | x :: r, h => by
  simp only [List.mem_cons, not_or] at h
  rw [pieces, if_neg (Ne.symm h.1), Kd h.2]; rfl
theorem Ly {c : UInt8} (r : Ap) : ∀ {a : Ap}, c ∉ a → pieces c (a ++ c :: r) = a :: pieces c r
 | [], _ => by simp [pieces]
 | x :: a, h => by
  simp only [List.mem_cons, not_or] at h
  rw [List.cons_append, pieces, if_neg (Ne.symm h.1), Ly r h.2]; rfl
theorem FO (c : UInt8) : ∀ s : Ap, (pieces c s).length = s.count c + 1
 | [] => rfl
 | x :: r => by
  unfold pieces
  have ih := FO c r
  have hne := QA c r
  split
  ·rename_i h; simp [h, ih]
  ·rename_i h
   have : (x == c) = false := by simpa using h
   rw [List.count_cons, this]
   obtain ⟨p, q, hp⟩ := List.exists_cons_of_ne_nil hne
   rw [hp] at ih ⊢
   simpa using ih
theorem S6 {c : UInt8} {s : Ap} {i : Nat} (h3 : c ∉ s.take i) (h4 : s.drop i = c :: s.drop (i + 1)) : pieces c s = s.take i :: pieces c (s.drop (i + 1)) := by
 conv => lhs; rw [← List.take_append_drop i s, h4]
 exact Ly _ h3
/-! #### small letters -/
def Vl (c : UInt8) : UInt8 := if (decide (65 ≤ (c.toNat : Int)) && decide ((c.toNat : Int) ≤ 90)) = true then u8 ((c.toNat : Int) + 97 - 65) else c
def low (w : Ap) : Ap := w.map Vl
def words (s : Ap) : List Ap := ((pieces 32 s).filter fun w => !decide (w = [])).map low
theorem Yv {c : UInt8} (h : (decide (65 ≤ (c.toNat : Int)) && decide ((c.toNat : Int) ≤ 90)) = true) : u8 ((c.toNat : Int) + 97 - 65) = Vl c := (if_pos h).symm
theorem X8 {c : UInt8} (h : (decide (65 ≤ (c.toNat : Int)) && decide ((c.toNat : Int) ≤ 90)) = false) : Vl c = c := if_neg (by rw [h]; decide)
def Hl (w : Ap) (k : Nat) : Ap := (w.take k).map Vl ++ w.drop k
theorem N5 (w : Ap) (k : Nat) : (Hl w k).length = w.length := by simp [Hl]; omega
theorem UQ {w : Ap} {k : Int} (h0 : 0 ≤ k) (h1 : k < w.length) : (Hl w k.toNat).getD k.toNat 0 = w.getD k.toNat 0 := by
 have hk : k.toNat < w.length := by omega
 unfold Hl
 rw [List.getD_eq_getElem?_getD, List.getElem?_append_right (by simp; omega)]
 simp [List.getD_eq_getElem?_getD, Nat.min_eq_left (Nat.le_of_lt hk)]
theorem WV (w : Ap) : Hl w w.length = low w := by simp [Hl, low]
theorem SX {w : Ap} {k : Int} (h0 : 0 ≤ k) (h1 : k < w.length) : (Hl w k.toNat).set k.toNat (Vl (w.getD k.toNat 0)) = Hl w (k + 1).toNat := by
 obtain ⟨n, rfl⟩ := Int.eq_ofNat_of_zero_le h0
 have hn : n < w.length := by omega
 rw [show ((n : Int)).toNat = n by omega, show ((n : Int) + 1).toNat = n + 1 by omega]
 unfold Hl
 rw [List.drop_eq_getElem_cons hn, List.set_append_right _ _ (by simp; omega)]
 simp only [List.length_map, List.length_take, Nat.min_eq_left (Nat.le_of_lt hn), Nat.sub_self, List.set_cons_zero]
 rw [List.take_add_one, List.map_append, List.append_assoc]
 simp [List.getD_eq_getElem?_getD, hn]
theorem V6 {w : Ap} {k : Int} (h0 : 0 ≤ k) (h1 : k < w.length) (h : Vl (w.getD k.toNat 0) = w.getD k.toNat 0) : Hl w k.toNat = Hl w (k + 1).toNat := by
 rw [← SX h0 h1, h]
 have hk : k.toNat < (Hl w k.toNat).length := by rw [N5]; omega
 have e := UQ h0 h1
 rw [← e, List.getD_eq_getElem?_getD, List.getElem?_eq_getElem hk]
 simp
structure N7 (c : UInt8) (s : Ap) (i : Int) (r : Ap) (xs : List Ap) : Prop where
 i0 : 0 ≤ i
 i1 : i ≤ s.count c
 len : xs.length = s.count c + 1
 eq : pieces c s = xs.take i.toNat ++ pieces c r
 rl : r.length ≤ s.length
theorem N7.start (c : UInt8) (s : Ap) (n : Nat) (hn : n = s.count c + 1) : N7 c s 0 s (List.replicate n []) :=
 ⟨Int.le_refl _, by omega, by simp [hn], by simp, Nat.le_refl _⟩
theorem N7.left {c : UInt8} {s : Ap} {i : Int} {r : Ap} {xs : List Ap} (h : N7 c s i r xs) : (r.count c : Int) = s.count c - i := by
 have := congrArg List.length h.eq
 rw [List.length_append, FO, FO, List.length_take, h.len] at this
 have h1 := h.i0; have h2 := h.i1
 omega
theorem N7.next {c : UInt8} {s : Ap} {i : Int} {r : Ap} {xs : List Ap} (h : N7 c s i r xs) {m : Int} (hm : Lib.indexByte r c = m) (h0 : ¬ m < 0) : 0 ≤ m ∧ m < r.length ∧ N7 c s (i + 1) (r.drop (m + 1).toNat) (xs.set i.toNat (r.take m.toNat)) := by
 have hi := h.i0
 rcases Lg c r with ⟨e, _⟩ | ⟨j, e, h1, h2, h3⟩
 ·omega
 ·obtain rfl : m = j := by omega
  have hl := h.left
  have hp := S6 h2 h3
  have hc : (pieces c r).length = (pieces c (r.drop (j + 1))).length + 1 := by rw [hp]; simp
  rw [FO, FO] at hc
  have hx := h.len
  refine ⟨by omega, by omega, by omega, by omega, by simp [hx], ?_, by simp; have := h.rl; omega⟩
  rw [h.eq, hp, show (i + 1).toNat = i.toNat + 1 by omega, show ((j : Int) + 1).toNat = j + 1 by omega, show ((j : Int)).toNat = j by omega, List.take_add_one, List.getElem?_set_self (by omega), List.take_set_of_le (by omega)]
  simp
theorem N7.done {c : UInt8} {s : Ap} {i : Int} {r : Ap} {xs : List Ap} (h : N7 c s i r xs) (he : ¬ i < (s.count c : Int) ∨ Lib.indexByte r c < 0) : i = s.count c ∧ (xs.set i.toNat r).take (i + 1).toNat = pieces c s := by
 have hi := h.i0; have hi1 := h.i1; have hl := h.left; have hx := h.len
 have hc : c ∉ r := by
  rcases he with he | he
  ·intro hm; have := List.count_pos_iff.2 hm; omega
  ·rcases Lg c r with ⟨_, h2⟩ | ⟨j, e, _⟩
   ·exact h2
   ·omega
 have h0 : r.count c = 0 := List.count_eq_zero.2 hc
 refine ⟨by omega, ?_⟩
 rw [h.eq, Kd hc, show (i + 1).toNat = i.toNat + 1 by omega, List.take_add_one, List.getElem?_set_self (by omega), List.take_set_of_le (by omega)]
 rfl
theorem IC {c : UInt8} : ∀ {s : Ap} {p : Ap}, p ∈ pieces c s → p.length ≤ s.length
 | [], p, h => by simp [pieces] at h; simp [h]
 | x :: r, p, h => by
  unfold pieces at h
  obtain ⟨q, t, hq⟩ := List.exists_cons_of_ne_nil (QA c r)
  have ih := @IC c r
  rw [hq] at h ih
  split at h
  ·rcases List.mem_cons.1 h with h | h
   ·simp [h]
   ·have := ih h; simp; omega
  ·simp only [List.headD_cons, List.tail_cons] at h
   rcases List.mem_cons.1 h with h | h
   ·have := ih (p := q) (by simp); rw [h]; simp; omega
   ·have := ih (p := p) (by simp [h]); simp; omega
theorem VP {c : UInt8} {s : Ap} (i : Nat) : ((pieces c s).getD i []).length ≤ s.length := by
 rw [List.getD_eq_getElem?_getD]
 cases h : (pieces c s)[i]? with
 | none => simp
 | some p => exact IC (List.mem_of_getElem? h)
def Ix (s : Ap) (k : Nat) : List Ap := (((pieces 32 s).take k).filter fun w => !decide (w = [])).map low
theorem Of (s : Ap) : words s = Ix s ((pieces 32 s).length : Int).toNat := by
 rw [Ix, show ((pieces 32 s).length : Int).toNat = (pieces 32 s).length by omega, List.take_length]; rfl
theorem QD {α : Type} {xs : List α} {d : α} {k : Int} (h0 : 0 ≤ k) (h1 : k < xs.length) : xs.take (k + 1).toNat = xs.take k.toNat ++ [xs.getD k.toNat d] := by
 have hk : k.toNat < xs.length := by omega
 rw [show (k + 1).toNat = k.toNat + 1 by omega, List.take_add_one, List.getD_eq_getElem?_getD, List.getElem?_eq_getElem hk]
 rfl
theorem Xv {s : Ap} {k : Int} (h0 : 0 ≤ k) (h1 : k < (pieces 32 s).length) (h : (!decide ((pieces 32 s).getD k.toNat [] = [])) = true) : Ix s (k + 1).toNat = Ix s k.toNat ++ [low ((pieces 32 s).getD k.toNat [])] := by
 unfold Ix
 rw [QD (d := []) h0 h1, List.filter_append, List.map_append]
 congr 1
 rw [List.filter_cons_of_pos (p := fun w : Ap => !decide (w = [])) h]; rfl
theorem XM {s : Ap} {k : Int} (h0 : 0 ≤ k) (h1 : k < (pieces 32 s).length) (h : (!decide ((pieces 32 s).getD k.toNat [] = [])) = false) : Ix s (k + 1).toNat = Ix s k.toNat := by
 unfold Ix
 rw [QD (d := []) h0 h1, List.filter_append, List.map_append, List.filter_cons_of_neg (p := fun w : Ap => !decide (w = [])) (by rw [h]; decide)]
 simp
/-! #### verbs -/
def pre (s p : Ap) : Bool := decide ((p.length : Int) ≤ (s.length : Int)) && decide (s.take p.length = p)
def Js (w : Ap) : Nat → Int × Int
 | 0 => (0, 3)
 | n + 1 => if pre (AH.Gh.getD (20 - n) []) w = true then (((20 - n : Nat) : Int), 0) else Js w n
def verb (w : Ap) : Int × Int := if (!decide (w = [])) = true then Js w 21 else (0, 3)
theorem TP {w : Ap} {k : Int} (h0 : 0 ≤ k) (h1 : k < 21) : Js w (21 - k).toNat = if pre (AH.Gh.getD k.toNat []) w = true then (k, 0) else Js w (21 - (k + 1)).toNat := by
 rw [show (21 - k).toNat = (21 - (k + 1)).toNat + 1 by omega, Js, show 20 - (21 - (k + 1)).toNat = k.toNat by omega, show ((k.toNat : Nat) : Int) = k by omega]
def Zt : Vector Ap 21 := ⟨AH.Gh.toArray, rfl⟩
theorem TB : B3 A7 Zt = AH.DG := by kernel_rfl
/-! #### cutting and trimming -/
def M7 (s p : Ap) : Ap × Bool := if (!pre s p) = true then (s, false) else (s.drop p.length, true)
def cut (c : UInt8) (s : Ap) : Ap × Ap × Bool := if decide (0 ≤ Lib.indexByte s c) = true then (s.take (Lib.indexByte s c).toNat, s.drop (Lib.indexByte s c + 1).toNat, true) else (s, [], false)
theorem ZT {c : UInt8} {s : Ap} (h : 0 ≤ Lib.indexByte s c) : Lib.indexByte s c < s.length := by
 rcases Lg c s with ⟨e, _⟩ | ⟨i, e, h1, _⟩ <;> omega
theorem NR (c : UInt8) (s : Ap) : (cut c s).1.length ≤ s.length ∧ (cut c s).2.1.length ≤ s.length := by
 unfold cut; split <;> simp; omega
def P0 (c : UInt8) (s : Ap) : Ap := s.dropWhile (·== c)
def RM (c : UInt8) (s : Ap) : Ap := (s.reverse.dropWhile (·== c)).reverse
theorem Y4 {x c : UInt8} (h : (x.toNat : Int) = (c.toNat : Int)) : x = c := UInt8.toNat_inj.1 (by omega)
theorem bK {c : UInt8} {r : Ap} (h : (decide ((0 : Int) < (r.length : Int)) && decide (((r.getD (0 : Int).toNat 0).toNat : Int) = (c.toNat : Int))) = true) : P0 c r = P0 c (r.drop 1) := by
 cases r with
 | nil => simp at h
 | cons x r =>
  simp only [Bool.and_eq_true, decide_eq_true_eq] at h
  have : x = c := Y4 h.2
  subst this
  simp [P0]
theorem bm {c : UInt8} {r : Ap} (h : (decide ((0 : Int) < (r.length : Int)) && decide (((r.getD (0 : Int).toNat 0).toNat : Int) = (c.toNat : Int))) = false) : P0 c r = r := by
 cases r with
 | nil => rfl
 | cons x r =>
  have hx : (x == c) = false := by
   rw [Bool.eq_false_iff]
   intro e
   have : x = c := by simpa using e
   subst this
   simp at h
  simp [P0, hx]
theorem aS {c : UInt8} {r : Ap} (h : (decide ((0 : Int) < (r.length : Int)) && decide (((r.getD ((r.length : Int) - 1).toNat 0).toNat : Int) = (c.toNat : Int))) = true) : RM c r = RM c (r.take ((r.length : Int) - 1).toNat) := by
 simp only [Bool.and_eq_true, decide_eq_true_eq] at h
 have hne : r ≠ [] := by rintro rfl; simp at h
 obtain ⟨q, x, rfl⟩ : ∃ q x, r = q ++ [x] := ⟨r.dropLast, r.getLast hne, (List.dropLast_concat_getLast hne).symm⟩
 have e : (((q ++ [x]).length : Int) - 1).toNat = q.length := by simp
 rw [e] at h ⊢
 have : x = c := Y4 (by simpa [List.getD_eq_getElem?_getD] using h.2)
 subst this
 simp [RM]
theorem bI {c : UInt8} {r : Ap} (h : (decide ((0 : Int) < (r.length : Int)) && decide (((r.getD ((r.length : Int) - 1).toNat 0).toNat : Int) = (c.toNat : Int))) = false) : RM c r = r := by
 by_cases hne : r = []
 ·subst hne; rfl
 ·obtain ⟨q, x, rfl⟩ : ∃ q x, r = q ++ [x] := ⟨r.dropLast, r.getLast hne, (List.dropLast_concat_getLast hne).symm⟩
  have e : (((q ++ [x]).length : Int) - 1).toNat = q.length := by simp
  rw [e] at h
  have hx : (x == c) = false := by
   rw [Bool.eq_false_iff]
   intro e
   have : x = c := by simpa using e
   subst this
   simp [List.getD_eq_getElem?_getD] at h
  simp [RM, hx]
theorem Lk (c : UInt8) (s : Ap) : (P0 c s).length ≤ s.length := (List.dropWhile_sublist _).length_le
theorem RD (c : UInt8) (s : Ap) : (RM c s).length ≤ s.length := by
 have := (List.dropWhile_sublist (l := s.reverse) (·== c)).length_le
 simpa [RM] using this
/-! #### the rest of an order -/
def many (z : Int) : Bool := decide (z = 7) || decide (z = 8) || decide (z = 9)
def NV (z : Int) : Ap × Bool := if decide (z = 7) = true then ([102, 114, 111, 109], false) else if decide (z = 9) = true then ([105, 110], true) else if decide (z = 10) = true then ([116, 111], true) else ([], false)
def Oo (s : Ap) : Nat → Int × Bool
 | 0 => (0, false)
 | n + 1 => if decide (AH.Gh.getD (5 - n) [] = s) = true then (((5 - n : Nat) : Int), true) else Oo s n
def dir (s : Ap) : Int × Bool := Oo s 6
theorem Vx {s : Ap} {k : Int} (h0 : 0 ≤ k) (h1 : k < 6) : Oo s (6 - k).toNat = if decide (AH.Gh.getD k.toNat [] = s) = true then (k, true) else Oo s (6 - (k + 1)).toNat := by
 rw [show (6 - k).toNat = (6 - (k + 1)).toNat + 1 by omega, Oo, show 5 - (6 - (k + 1)).toNat = k.toNat by omega, show ((k.toNat : Nat) : Int) = k by omega]
/-! #### nouns -/
def PI (k rest : Ap) : Int × Ap × Bool × Int :=
 match Lib.atoiAll k with
 | .ok n => if (decide (n < 1) || decide (99 < n) || decide (((k.getD (0 : Int).toNat 0).toNat : Int) < 49) || decide (57 < ((k.getD (0 : Int).toNat 0).toNat : Int)) || decide (rest = []) || decide (0 ≤ Lib.indexByte rest 46)) = true then (0, [], false, 1) else (n, rest, false, 0)
 | _ => (0, [], false, 1)
theorem Ur {k rest : Ap} {n : Int} (h : Lib.atoiAll k = .ok n) : PI k rest = if (decide (n < 1) || decide (99 < n) || decide (((k.getD (0 : Int).toNat 0).toNat : Int) < 49) || decide (57 < ((k.getD (0 : Int).toNat 0).toNat : Int)) || decide (rest = []) || decide (0 ≤ Lib.indexByte rest 46)) = true then (0, [], false, 1) else (n, rest, false, 0) := by
 unfold PI; rw [h]
theorem WI {k rest : Ap} (h : ∀ j, Lib.atoiAll k ≠ .ok j) : PI k rest = (0, [], false, 1) := by
 unfold PI
 split
 ·rename_i n e; exact absurd e (h n)
 ·rfl
theorem Sf {k : Ap} {n : Int} (h : Lib.atoiAll k = .ok n) : 0 < k.length := by
 cases k with
 | nil => simp [Lib.atoiAll] at h
 | cons x r => simp
def EF (u : Ap) : Int × Ap × Bool × Int :=
 if decide (u = [97, 108, 108]) = true then (1, [], true, 0)
 else if ((M7 u [97, 108, 108, 46]).2 && !decide ((M7 u [97, 108, 108, 46]).1 = []) && !decide (0 ≤ Lib.indexByte (M7 u [97, 108, 108, 46]).1 46)) = true then (1, (M7 u [97, 108, 108, 46]).1, true, 0)
 else if (!(cut 46 u).2.2) = true then (if decide (u = []) = true then (0, [], false, 1) else (1, u, false, 0))
 else PI (cut 46 u).1 (cut 46 u).2.1
/-! #### orders -/
theorem PY (u : Ap) : ∀ n, n ≤ 21 → 0 ≤ (Js u n).1 ∧ (Js u n).1 ≤ 20
 | 0, _ => by simp [Js]
 | n + 1, h => by
  unfold Js
  split
  ·simp only; omega
  ·exact PY u n (by omega)
theorem XH (u : Ap) : 0 ≤ (verb u).1 ∧ (verb u).1 ≤ 20 := by
 unfold verb; split
 ·exact PY u 21 (Nat.le_refl _)
 ·simp
def said (s : Ap) : Ap := P0 32 (RM 32 (cut 32 (P0 32 s)).2.1)
def o0 (v : Int) : Order := { (default : Order) with verb := v }
def Qn (o : Order) (j : Ap × Bool) (W : List Ap) (m : Nat) : Order × Int :=
 if (decide ((m : Int) = 0) && !j.2) = true then (o, 0)
 else if (!decide ((m : Int) = 1) || decide (j.1 = [])) = true then (default, 1)
 else ({ o with second := W.getD 0 [] }, 0)
def Sv (o : Order) (j : Ap × Bool) (W : List Ap) (m : Nat) : Order × Int :=
 if (decide (0 < (m : Int)) && !decide (j.1 = []) && decide (W.getD 0 [] = j.1)) = true then (if decide (((m - 1 : Nat) : Int) = 0) = true then (default, 1) else Qn o j (W.drop 1) (m - 1))
 else Qn o j W m
def Qx (v : Int) (W : List Ap) (m : Nat) : Order × Int :=
 if (!decide ((EF (W.getD 0 [])).2.2.2 = 0) || ((EF (W.getD 0 [])).2.2.1 && !many v)) = true then (default, 1)
 else Sv ⟨v, (EF (W.getD 0 [])).1, (EF (W.getD 0 [])).2.2.1, (EF (W.getD 0 [])).2.1, [], []⟩ (NV v) (W.drop 1) (m - 1)
def Wa (s : Ap) (v : Int) (W : List Ap) (m : Nat) : Order × Int :=
 if decide (v = 11) = true then (if decide (said s = []) = true then (default, 1) else (⟨v, 0, false, [], [], said s⟩, 0))
 else if (decide (v ≤ 6) || decide (19 ≤ v)) = true then (if decide (0 < (m : Int)) = true then (default, 1) else (o0 v, 0))
 else if decide ((m : Int) = 0) = true then (default, 1)
 else if (decide (v = 12) || decide (v = 13)) = true then
  (if (decide ((verb (W.getD 0 [])).2 = 0) && decide ((verb (W.getD 0 [])).1 < 6) && decide ((m : Int) = 1)) = true then (⟨v, 1, false, AH.Gh.getD (verb (W.getD 0 [])).1.toNat [], [], []⟩, 0) else Qx v W m)
 else Qx v W m
def parse (s : Ap) : Order × Int :=
 if decide (((words s).length : Int) = 0) = true then (default, 1)
 else if (!decide ((verb ((words s).getD 0 [])).2 = 0)) = true then (default, (verb ((words s).getD 0 [])).2)
 else Wa s (verb ((words s).getD 0 [])).1 ((words s).drop 1) ((words s).length - 1)
theorem YT (w : Ap) : (low w).length = w.length := by simp [low]
theorem XU (s : Ap) (i : Nat) : ((words s).getD i []).length ≤ s.length := by
 rw [List.getD_eq_getElem?_getD]
 cases h : (words s)[i]? with
 | none => simp
 | some p =>
  have hm := List.mem_of_getElem? h
  unfold words at hm
  obtain ⟨q, hq, rfl⟩ := List.mem_map.1 hm
  rw [Option.getD_some, YT]
  exact IC (List.mem_filter.1 hq).1
theorem MF (s : Ap) (i j : Nat) : (((words s).drop j).getD i []).length ≤ s.length := by
 rw [List.getD_eq_getElem?_getD, List.getElem?_drop, ← List.getD_eq_getElem?_getD]; exact XU s _
end Words
end Go.Ing
/- What people type: plain laws. -/
namespace Go.Ing
open Go
namespace Words
/-! #### a shorter beginning -/
/-! #### what is parsed is good -/
structure Y0 (o : Order) : Prop where
 v0 : 0 ≤ o.verb
 v1 : o.verb ≤ 20
 n0 : 0 ≤ o.nth
 n1 : o.nth ≤ 99
 al : o.Bj = true → o.verb = 7 ∨ o.verb = 8 ∨ o.verb = 9
 tx : o.text ≠ [] ↔ o.verb = 11
 s1 : o.second = [] ∨ o.verb = 7 ∨ o.verb = 9 ∨ o.verb = 10
 s2 : o.second ≠ [] ∨ (o.verb ≠ 9 ∧ o.verb ≠ 10)
def JF (r : Order × Int) : Prop := (r.2 = 0 → Y0 r.1) ∧ (r.2 ≠ 0 → r.1 = default)
theorem JF.bad (e : Int) (he : e ≠ 0) : JF (default, e) := ⟨fun h => absurd h he, fun _ => rfl⟩
theorem JF.ok {o : Order} (h : Y0 o) : JF (o, 0) := ⟨fun _ => h, fun h => absurd rfl h⟩
theorem V5 (k r : Ap) : (PI k r).2.2.2 = 0 → 0 ≤ (PI k r).1 ∧ (PI k r).1 ≤ 99 := by
 unfold PI
 split
 ·split
  ·intro h; simp at h
  ·rename_i c
   intro _
   simp only [Bool.or_eq_true, decide_eq_true_eq, not_or] at c
   show 0 ≤ _ ∧ _ ≤ 99
   exact ⟨by simp only; omega, by simp only; omega⟩
 ·intro h; simp at h
theorem VI (u : Ap) : (EF u).2.2.2 = 0 → 0 ≤ (EF u).1 ∧ (EF u).1 ≤ 99 := by
 unfold EF
 split
 ·intro _; simp
 ·split
  ·intro _; simp
  ·split
   ·split
    ·intro h; simp at h
    ·intro _; simp
   ·exact V5 _ _
/-! #### spaces ahead and behind -/
def Co : Ap → Ap
 | [] => []
 | x :: r => if x = 32 then r else Co r
end Words
end Go.Ing
/- Verbs and nouns as the document has them. -/
namespace Go.Ing
open Go
namespace Words
/-! #### nouns -/
end Words
end Go.Ing
/- Orders as the document has them. -/
namespace Go.Ing
open Go
namespace Words
/-! #### what is said -/
/-! #### orders -/
def alone (v : Int) : Bool := decide (v < 7) || decide (18 < v)
end Words
end Go.Ing
/- The program's data, in Lean, and their parts. -/
namespace Go.Ing
open Go
structure Ad where
 w : AH
 b : Int
 out : Hd
instance : Inhabited Ad := ⟨⟨default, 0, ⟨none, 0, 0⟩⟩⟩
def Ad.enc (x : Ad) : List Value := AH.enc x.w ++ Au x.b ++ Ec x.out
theorem Ad.fl : Flat Ad.enc 167 := ⟨fun x => by simp [Ad.enc, AH.fl.len, PB.len, Bv.len], fun x v hv => by
 simp only [Ad.enc, List.mem_append] at hv
 rcases hv with (h | h) | h
 ·exact AH.fl.one _ v h
 ·exact Bv.one _ v h
 ·exact PB.one _ v h⟩
theorem Ad.l0 : AU Ad.enc (AH.enc) 0 165 (fun x => x.w) (fun x y => { x with w := y }) :=
 AU.Ee AH.fl (fun _ => []) (fun x => Au x.b ++ Ec x.out) (fun _ => rfl) (fun x => by simp [Ad.enc]) (fun x y => by simp [Ad.enc])
theorem Ad.l1 : AU Ad.enc (Au) 165 1 (fun x => x.b) (fun x y => { x with b := y }) :=
 AU.Ee Bv (fun x => AH.enc x.w) (fun x => Ec x.out) (fun x => by simp [AH.fl.len]) (fun x => by simp [Ad.enc]) (fun x y => by simp [Ad.enc])
theorem Ad.l2 : AU Ad.enc (Ec) 166 1 (fun x => x.out) (fun x y => { x with out := y }) :=
 AU.Ee PB (fun x => AH.enc x.w ++ Au x.b) (fun _ => []) (fun x => by simp [AH.fl.len, Bv.len]) (fun x => by simp [Ad.enc]) (fun x y => by simp [Ad.enc])
end Go.Ing
/- What comes of what beings do: plain functions. -/
namespace Go.Ing
open Go
structure AF where
 w : AH
 b : Int
 out : List Event
namespace AF
def Fk (k : Int) : Event := ⟨k, 0, 0, -1, 0, 0, [], [], [], [], default⟩
def me (T : AF) : Aj := T.w.AN.at T.b
def W4 (T : AF) (e : Event) : Event := { e with DZ := T.b, Hg := T.me.name, room := T.me.room }
def Dl (T : AF) (e : Event) : Event := if decide (0 ≤ e.other) = true then { T.W4 e with ER := (T.w.AN.at e.other).name } else T.W4 e
def BO (T : AF) (e : Event) : AF := { T with out := T.out ++ [T.w.Hm (T.Dl e) 6] }
def kind (T : AF) (k : Int) : AF := T.BO (Fk k)
def Bs (T : AF) (k i : Int) : AF := T.BO { Fk k with Bs := (T.w.AO.at i).name }
def tell (T : AF) (s : Ap) : AF := T.BO { Fk 16 with text := s }
@[simp] theorem aK (T : AF) (e : Event) : (T.BO e).w = T.w := rfl
@[simp] theorem aL (T : AF) (e : Event) : (T.BO e).b = T.b := rfl
@[simp] theorem Cb (T : AF) (e : Event) : (T.BO e).out.length = T.out.length + 1 := by simp [BO]
@[simp] theorem cx (T : AF) (s : Ap) : (T.tell s).w = T.w := rfl
@[simp] theorem cm (T : AF) (s : Ap) : (T.tell s).b = T.b := rfl
@[simp] theorem CE (T : AF) (s : Ap) : (T.tell s).out.length = T.out.length + 1 := by simp [tell]
/-! #### lists -/
def Hu (w : AH) : Ap → List Int → Ap
 | s, [] => s
 | s, i :: r => Hu w (if (w.AO.at i).on = true then s ++ [32] ++ (w.AO.at i).name ++ [42] else s ++ [32] ++ (w.AO.at i).name) r
def SY (w : AH) (s : Ap) (l : List Int) : Ap := if decide ((l.length : Int) = 0) = true then Hu w s l ++ [32, 110, 111, 116, 104, 105, 110, 103] else Hu w s l
def list (T : AF) (s : Ap) (l : List Int) : AF := T.tell (SY T.w s l ++ [46])
/-! #### what is about -/
def Ia (r : Room) : Nat → Ap
 | 0 => [87, 97, 121, 115, 58]
 | d + 1 => if decide (r.CM.at (d : Int) = 0) = true then Ia r d else if r.shut.at (d : Int) = true then Ia r d ++ ([32] ++ AH.called d) ++ [42] else Ia r d ++ ([32] ++ AH.called d)
def FX (T : AF) : Nat → AF
 | 0 => T
 | k + 1 => if (!decide ((k : Int) = T.b) && T.w.Il T.b k) = true then (FX T k).tell ((T.w.AN.at k).name ++ [32, 105, 115, 32, 104, 101, 114, 101, 46]) else FX T k
def L6 : Ap := [73, 116, 32, 105, 115, 32, 100, 97, 114, 107, 46]
def Jl (T : AF) : AF :=
 ((T.tell ([84, 104, 101, 32] ++ (T.w.BQ.at T.me.room).name ++ [46])).tell (Ia (T.w.BQ.at T.me.room) 6))
def D5 (T : AF) : AF := if decide (0 < ((T.w.has 0 T.me.room).length : Int)) = true then T.Jl.list [72, 101, 114, 101, 32, 105, 115] (T.w.has 0 T.me.room) else T.Jl
def look (T : AF) : AF := if (!T.w.HN T.me.room) = true then T.tell L6 else FX T.D5 6
def Wj : Ap := [89, 111, 117, 32, 99, 97, 110, 110, 111, 116, 32, 103, 111, 32, 116, 104, 101, 114, 101, 46]
def Tk : Ap := [73, 116, 32, 105, 115, 32, 115, 104, 117, 116, 46]
def F2 (T : AF) (r : Int) : AF := { T with w := { T.w with AN := T.w.AN.put T.b { T.me with room := r, B0 := 0 } } }
def walk (T : AF) (d : Int) : AF :=
 if decide ((T.w.BQ.at T.me.room).CM.at d = 0) = true then T.tell Wj
 else if (T.w.BQ.at T.me.room).shut.at d = true then T.tell Tk
 else (((T.BO { Fk 1 with dir := d }).F2 ((T.w.BQ.at T.me.room).CM.at d - 1)).BO { Fk 2 with dir := AH.opposite d }).look
/-! #### things that are meant -/
def JK (w : AH) (name : Ap) (l : List Int) : List Int := l.filter fun i => decide (name = []) || decide ((w.AO.at i).name = name)
def BP (w : AH) (l : List Int) (nth : Int) (name : Ap) (all : Bool) : List Int :=
 if all = true then JK w name l
 else if (decide (nth < 1) || decide (((JK w name l).length : Int) < nth)) = true then []
 else ((JK w name l).take nth.toNat).drop (nth - 1).toNat
def seen (T : AF) : List Int := if (!T.w.HN T.me.room) = true then [] else T.w.has 0 T.me.room
def own (T : AF) : List Int := T.w.has 1 T.b
def one (T : AF) (u : Ap) : Int × Bool :=
 if (!decide ((Words.EF u).2.2.2 = 0) || (Words.EF u).2.2.1) = true then (0, false)
 else if decide (((BP T.w (T.own ++ T.seen) (Words.EF u).1 (Words.EF u).2.1 false).length : Int) = 0) = true then (0, false)
 else ((BP T.w (T.own ++ T.seen) (Words.EF u).1 (Words.EF u).2.1 false).getD 0 0, true)
def KI : Ap := [84, 104, 101, 114, 101, 32, 105, 115, 32, 110, 111, 32, 115, 117, 99, 104, 32, 116, 104, 105, 110, 103, 46]
def OU : Ap := [89, 111, 117, 32, 104, 97, 118, 101, 32, 110, 111, 32, 115, 117, 99, 104, 32, 116, 104, 105, 110, 103, 46]
def Nt : Ap := [84, 104, 101, 114, 101, 32, 105, 115, 32, 110, 111, 98, 111, 100, 121, 32, 111, 102, 32, 116, 104, 97, 116, 32, 110, 97, 109, 101, 46]
def aU : Ap := [89, 111, 117, 32, 119, 101, 97, 114, 32, 105, 116, 46]
def ZK : Ap := [84, 104, 97, 116, 32, 99, 97, 110, 110, 111, 116, 32, 98, 101, 46]
def Zg : Ap := [73, 116, 32, 105, 115, 32, 115, 111, 46]
def QM : Ap := [89, 111, 117, 32, 102, 105, 103, 104, 116, 46]
def box (T : AF) (u : Ap) : AF × Int × Bool :=
 if (!(T.one u).2 || !decide ((T.w.AO.at (T.one u).1).kind = 3)) = true then (T.tell KI, 0, false)
 else if (!(T.w.AO.at (T.one u).1).on) = true then (T.tell Tk, 0, false)
 else (T, (T.one u).1, true)
def C7 (T : AF) (i : Int) (t : Ak) : AF := { T with w := { T.w with AO := T.w.AO.put i t } }
def place (T : AF) (i CW at_ : Int) : AF := T.C7 i { T.w.AO.at i with CW := CW, at_ := at_ }
def DB (T : AF) : List Int → AF
 | [] => T
 | i :: r => DB ((T.place i 1 T.b).Bs 3 i) r
def KO (T : AF) (l : List Int) (o : Order) : AF := DB (if decide (((BP T.w l o.nth o.name o.Bj).length : Int) = 0) = true then T.tell KI else T) (BP T.w l o.nth o.name o.Bj)
def get (T : AF) (o : Order) : AF :=
 if (!decide (o.second = [])) = true then
  (if (!(T.box o.second).2.2) = true then (T.box o.second).1 else (T.box o.second).1.KO ((T.box o.second).1.w.has 2 (T.box o.second).2.1) o)
 else T.KO T.seen o
def IV (T : AF) (name : Ap) : Nat → Int → Option Int
 | 0, _ => none
 | r + 1, n => if (decide (((6 - (r + 1) : Nat) : Int) = T.b) || !decide ((T.w.AN.at ((6 - (r + 1) : Nat) : Int)).name = name) || !T.w.Il T.b ((6 - (r + 1) : Nat) : Int)) = true then IV T name r n else if decide (n - 1 = 0) = true then some ((6 - (r + 1) : Nat) : Int) else IV T name r (n - 1)
def A6 (T : AF) (u : Ap) : AF × Int × Bool :=
  if (decide ((Words.EF u).2.2.2 = 0) && !(Words.EF u).2.2.1) = true then
    (match IV T (Words.EF u).2.1 6 (Words.EF u).1 with
     | some k => (T, k, true)
     | none => (T.tell Nt, 0, false))
  else (T.tell Nt, 0, false)
def Cn (T : AF) (v to i : Int) : AF :=
 if (decide ((T.w.AO.at i).kind = 2) && (T.w.AO.at i).on) = true then T.tell aU
 else if decide (v = 8) = true then (T.place i 0 T.me.room).Bs 4 i
 else if decide (v = 10) = true then (T.place i 1 to).BO { Fk 6 with other := to, Bs := (T.w.AO.at i).name }
 else if T.w.TH to i = true then T.tell ZK
 else (T.place i 2 to).BO { Fk 5 with Bs := (T.w.AO.at i).name, text := (T.w.AO.at to).name }
def Ej (T : AF) (v to : Int) : List Int → AF
 | [] => T
 | i :: r => Ej (T.Cn v to i) v to r
def RR (T : AF) (to : Int) (o : Order) : AF := Ej (if decide (((BP T.w T.own o.nth o.name o.Bj).length : Int) = 0) = true then T.tell OU else T) o.verb to (BP T.w T.own o.nth o.name o.Bj)
def Cs (T : AF) (o : Order) : AF × Int × Bool := if decide (o.verb = 9) = true then T.box o.second else if decide (o.verb = 10) = true then T.A6 o.second else (T, 0, true)
def E8 (T : AF) (o : Order) : AF := if (!(T.Cs o).2.2) = true then (T.Cs o).1 else (T.Cs o).1.RR (T.Cs o).2.1 o
def Ch (T : AF) (b f : Int) : AF := { T with w := { T.w with AN := T.w.AN.put b { T.w.AN.at b with B0 := f } } }
def E0 (T : AF) (o : Order) : AF :=
 if (!(T.A6 (if (!decide (o.nth = 1) || o.Bj) = true then [] else o.name)).2.2) = true then (T.A6 (if (!decide (o.nth = 1) || o.Bj) = true then [] else o.name)).1
 else
  let k := (T.A6 (if (!decide (o.nth = 1) || o.Bj) = true then [] else o.name)).2.1
  let T1 := (T.A6 (if (!decide (o.nth = 1) || o.Bj) = true then [] else o.name)).1.Ch (T.A6 (if (!decide (o.nth = 1) || o.Bj) = true then [] else o.name)).1.b (k + 1)
  (if decide ((T1.w.AN.at k).B0 = 0) = true then T1.Ch k ((T.A6 (if (!decide (o.nth = 1) || o.Bj) = true then [] else o.name)).1.b + 1) else T1).tell QM
/-! #### what is set -/
def before (T : AF) (first : Bool) (i : Int) (on : Bool) (ev : Int) : AF :=
 if first = true then (T.C7 i { T.w.AO.at i with on := on }).Bs ev i
 else (T.Bs ev i).C7 i { T.w.AO.at i with on := on }
def C4 (T : AF) (r d : Int) (v : Bool) : AF := { T with w := { T.w with BQ := T.w.BQ.put r { T.w.BQ.at r with shut := (T.w.BQ.at r).shut.put d v } } }
def Pb : Ap := [100, 111, 111, 114]
def Gz (T : AF) (d : Int) (on : Bool) (ev : Int) : AF :=
 if decide ((T.w.BQ.at T.me.room).CM.at d - 1 < 0) = true then T.tell KI
 else if ((T.w.BQ.at T.me.room).shut.at d != on) = true then T.tell Zg
 else
  let to := (T.w.BQ.at T.me.room).CM.at d - 1
  let T1 := T.C4 T.me.room d (!on)
  (if decide ((T1.w.BQ.at to).CM.at (AH.opposite d) = T.me.room + 1) = true then T1.C4 to (AH.opposite d) (!on) else T1).BO { Fk ev with Bs := Pb }
def HY (v : Int) : Bool := decide (v = 12) || decide (v = 14) || decide (v = 16)
def setKind (v : Int) : Int := if (decide (v = 14) || decide (v = 15)) = true then 1 else if (decide (v = 16) || decide (v = 17)) = true then 2 else 3
def O7 (v : Int) : Int := v - 4
def EO (T : AF) (o : Order) : List Int := BP T.w (if decide (setKind o.verb = 3) = true then T.own ++ T.seen else T.own) (max o.nth 1) o.name false
def set (T : AF) (o : Order) : AF :=
 if ((Words.dir o.name).2 && decide (setKind o.verb = 3)) = true then T.Gz (Words.dir o.name).1 (HY o.verb) (O7 o.verb)
 else if (decide (((T.EO o).length : Int) = 0) || !decide ((T.w.AO.at ((T.EO o).getD 0 0)).kind = setKind o.verb)) = true then T.tell KI
 else if ((T.w.AO.at ((T.EO o).getD 0 0)).on == HY o.verb) = true then T.tell Zg
 else if HY o.verb = true then T.before (!decide (setKind o.verb = 2)) ((T.EO o).getD 0 0) (HY o.verb) (O7 o.verb)
 else T.before (decide (setKind o.verb = 2)) ((T.EO o).getD 0 0) (HY o.verb) (O7 o.verb)
/-! #### who is gone -/
def Ek (T : AF) (i : Int) : AF := T.C7 i { T.w.AO.at i with on := if decide ((T.w.AO.at i).kind = 2) = true then false else (T.w.AO.at i).on, CW := 0, at_ := T.me.room }
def Ca (T : AF) : List Int → AF
 | [] => T
 | i :: r => Ca (T.Ek i) r
def DP (T : AF) : Nat → AF
 | 0 => T
 | k + 1 => if decide (((DP T k).w.AN.at (k : Int)).B0 = T.b + 1) = true then (DP T k).Ch k 0 else DP T k
def E4 (T : AF) : AF := (DP (T.Ca T.own) 6).Ch T.b 0
def DO (T : AF) (b : Int) (x : Aj) : AF := { T with w := { T.w with AN := T.w.AN.put b x } }
def Ge (T : AF) : AF := (T.kind 18).E4.DO T.b default
/-! #### what a being does -/
def act (T : AF) (o : Order) : AF :=
 if decide (o.verb < 6) = true then T.walk o.verb
 else if decide (o.verb = 6) = true then T.look
 else if decide (o.verb = 19) = true then T.list [89, 111, 117, 32, 104, 97, 118, 101] (T.w.has 1 T.b)
 else if decide (o.verb = 11) = true then T.BO { Fk 7 with text := o.text }
 else if decide (o.verb = 20) = true then T.Ge
 else if decide (o.verb = 18) = true then T.E0 o
 else if decide (o.verb = 7) = true then T.get o
 else if (decide (o.verb = 8) || decide (o.verb = 9) || decide (o.verb = 10)) = true then T.E8 o
 else T.set o
def D8 (X : AH) (b : Int) (o : Order) : AH × List Event × Int :=
 if (!X.Bg) = true then (X, [], 2)
 else if (decide (b < 0) || decide (6 ≤ b) || !(X.AN.at b).here) = true then (X, [], 3)
 else if (decide (o.verb < 0) || decide (20 < o.verb)) = true then (X, [], 5)
 else ((AF.act ⟨X, b, []⟩ o).w, (AF.act ⟨X, b, []⟩ o).out, 0)
end AF
end Go.Ing
/- Engine: the program's own variables, beside what is handed on. -/
namespace Go.Ing
open Go
section
variable {w0 w : World} {M : List Nat} {L A K : List Ac} {g : Nat} {vs : List Value}
theorem GV.lt (h : GV g vs w) : g < w.heap.size := by
 obtain ⟨t, fz, e⟩ := h
 rcases Nat.lt_or_ge g w.heap.size with h' | h'
 ·exact h'
 ·rw [Array.getElem?_eq_none h'] at e; cases e
theorem GV.stM (h : GV g vs w0) (hM : g ∉ M) (hS : St w0 M w L) : GV g vs w := by
 have hg := h.lt
 obtain ⟨t, fz, e⟩ := h
 exact ⟨t, fz, (hS.I0 g hg hM).trans e⟩
theorem Oc (hg : g < w0.heap.size) (hM : g ∉ M) (hS : St w0 M w L) (hp : Ax L A K) : g ∉ Cd A := by
 intro hf
 obtain ⟨r, hr, hb⟩ := List.mem_flatMap.1 hf
 have hm : r ∈ L := hp.perm.symm.subset (List.mem_append_left _ hr)
 exact hM ((hS.CR r hm g hb).2 hg)
theorem GV.pull (h : GV g vs w0) (hM : g ∉ M) (hS : St w0 M w L) (hp : Ax L A K) : GV g vs w ∧ g ∉ Cd A := ⟨h.stM hM hS, Oc h.lt hM hS hp⟩
theorem Gl.stM (h : Gl g w0) (hM : g ∉ M) (hS : St w0 M w L) : Gl g w := by
 obtain ⟨tp, p, h⟩ := h; exact ⟨tp, p, h.stM hM hS⟩
theorem Gl.pull (h : Gl g w0) (hM : g ∉ M) (hS : St w0 M w L) (hp : Ax L A K) : Gl g w ∧ g ∉ Cd A := by
 obtain ⟨tp, p, h⟩ := h; exact ⟨⟨tp, p, h.stM hM hS⟩, Oc h.lt hM hS hp⟩
end
section
variable {P : Program} {n : Nat} {w0 : World} {M : List Nat} {Q : Exit → Go.Act → World → Prop} {F F' : List (Nat × Value)} {L L' : List Ac} {ops : Array Oper} {rest : List Oper}
theorem Tb {α : Type} {e : α → List Value} {d T U E sz : Nat} {x y z : Operand} {pos : String} {Co : Array Edge} {h : Hd} {xs : List α} {kd kz : IntKind} {i j : Int} {Lf : Ac → List Ac} (fe : Flat e sz) (hd : Nat.blt d n = true) (hT : P.underlying T = some (.slice E)) (hs : Sz P E sz) (hx : ev F x = some h.val) (hy : ev F y = some (.int kd i)) (hz : ev F z = some (.int kz j)) (h0 : 0 ≤ i) (h1 : i ≤ j) (h2 : j ≤ (h.len : Int)) (hU : ∀ r, LA L (Ac.own h E sz (xs.flatMap e)) r (Lf r))
  (k : GL P n w0 M ops Q rest ((d, (h.cut i.toNat j.toNat sz).val) :: F) (Lf (Ac.own (h.cut i.toNat j.toNat sz) E sz (((xs.take j.toNat).drop i.toNat).flatMap e)))) : GL P n w0 M ops Q (⟨some d, .slice T x (some y) (some z) none, U, pos, Co, none⟩ :: rest) F L := by
 refine Fh (R := fun v L' => v = (h.cut i.toNat j.toNat sz).val ∧ L' = Lf (Ac.own (h.cut i.toNat j.toNat sz) E sz (((xs.take j.toNat).drop i.toNat).flatMap e))) hd ?_ (fun v L' ⟨e1, e2⟩ => by subst e1; subst e2; exact k)
 intro a w hF hS
 have hok := hS.ok _ (hU ⟨[], fun _ => True, fun _ _ _ _ => trivial⟩).mem
 have hr : Rd w h E sz (xs.flatMap e) := Kn.own (M := M) (hU ⟨[], fun _ => True, fun _ _ _ _ => trivial⟩).mem w hS
 have hcap : h.len ≤ h.cap := by
  rcases hok with ⟨rfl, _⟩ | ⟨b, o, C, fz, e1, e2, e3, e4, e5, e6, _⟩
  ·exact Nat.le_refl _
  ·exact e6
 have hil : i.toNat ≤ j.toNat := by omega
 have hjl : j.toNat ≤ h.len := by omega
 have hlc : h.len * sz ≤ h.cap * sz := Nat.mul_le_mul_right sz hcap
 have hjc : j.toNat * sz ≤ h.len * sz := Nat.mul_le_mul_right sz hjl
 have hll : i.toNat * sz ≤ j.toNat * sz := Nat.mul_le_mul_right sz hil
 have hcs : ((xs.flatMap e).take (j.toNat * sz)).drop (i.toNat * sz) = ((xs.take j.toNat).drop i.toNat).flatMap e := LL fe xs
 have hlen : (((xs.take j.toNat).drop i.toNat).flatMap e).length = j.toNat * sz - i.toNat * sz := by
  rw [← hcs, List.length_drop, List.length_take, ← hr.1, Nat.min_eq_left hjc]
 refine ⟨_, _, w, ⟨rfl, rfl⟩, ?_, ?_⟩
 ·have hs' := hs w
  have hjcap : j ≤ (h.cap : Int) := by omega
  simp only [execOp, hF.ev hx, Option.map_some, Option.map_none, hF.ev hy, hF.ev hz, Hd.val, Instr.sliceAt, Instr.slice, underlying]
  simp [hT, Instr.sliceBounds, Instr.sliceBound, asIntOf, h1, h0, hs', Hd.cut, hjcap, show 0 ≤ j by omega, show i ≤ max j 0 by omega]
 ·refine hS.D9 (hU _) rfl rfl rfl (Nat.le_refl _) (fun _ _ _ => rfl) ?_ ?_
  ·rcases hok with ⟨rfl, hn⟩ | ⟨b, o, C, fz, e1, e2, e3, e4, e5, e6, e7, e8⟩
   ·have hj0 : j.toNat = 0 := by simp at hjl; omega
    have hi0 : i.toNat = 0 := by omega
    refine .inl ⟨by simp [Hd.cut, hj0, hi0], ?_⟩
    rw [List.eq_nil_of_length_eq_zero (l := ((xs.take j.toNat).drop i.toNat).flatMap e) (by rw [hlen, hj0]; simp)]
   ·by_cases hci : h.cap = i.toNat
    ·have hji : j.toNat = i.toNat := by omega
     refine .inr ⟨b, o, C, fz, by simp only [Hd.cut]; rw [if_pos hci]; exact e1, e2, e3, e4, ?_, ?_, ?_, ?_⟩
     ·simp only [Hd.cut]; rw [hci, Nat.sub_self, Nat.zero_mul]; omega
     ·simp only [Hd.cut]; omega
     ·simp only [Hd.cut]; rw [hlen, Nat.sub_mul]
     ·have hl0 : (((xs.take j.toNat).drop i.toNat).flatMap e).length = 0 := by rw [hlen, hji]; omega
      rw [List.eq_nil_of_length_eq_zero hl0]; simp
    ·refine .inr ⟨b, o + i.toNat * sz, C, fz, by simp only [Hd.cut]; rw [if_neg hci, e1]; simp [EV], e2, e3, fun j hj h => e4 j (by omega) h, ?_, ?_, ?_, ?_⟩
     ·simp only [Hd.cut]; rw [Nat.sub_mul]; omega
     ·simp only [Hd.cut]; omega
     ·simp only [Hd.cut]; rw [hlen, Nat.sub_mul]
     ·have hX : xs.flatMap e = (C.drop o).take (h.len * sz) := by rw [hr.1]; exact e8.symm
      have hY : ((xs.take j.toNat).drop i.toNat).flatMap e = ((C.drop o).take (j.toNat * sz)).drop (i.toNat * sz) := by rw [← hcs, hX, List.take_take, Nat.min_eq_left hjc]
      rw [hlen, hY, List.drop_take, List.drop_drop]
  ·intro b hb
   have hb' : b ∈ (Ac.own h E sz (xs.flatMap e)).CR := by
    revert hb
    simp only [Ac.own, Hd.cut]
    cases ha : h.a with
    | none => by_cases hc : h.cap = i.toNat <;> simp [hc]
    | some a =>
     by_cases hc : h.cap = i.toNat
     ·simp [hc]
     ·simp only [hc, if_false, Option.map_some]
      unfold Addr.add
      split <;> simp
   exact ⟨(hS.CR _ (hU ⟨[], fun _ => True, fun _ _ _ _ => trivial⟩).mem b hb').1, .inl hb'⟩
theorem LA.bt {L L' : List Ac} {r r' : Ac} (h : LA L r r' L') (e : r = r') : L' = L := by
 induction h with
 | head => subst e; rfl
 | tail _ ih => rw [ih e]
theorem GC {cd : Code} {b T : Nat} {c c' : List Value} {Lf : Ac → List Ac} (hU : ∀ r, LA L (Ac.box b T c) r (Lf r)) (e : c = c') (k : G P n w0 M cd Q F (Lf (Ac.box b T c'))) : G P n w0 M cd Q F L := by
 subst e
 rwa [(hU (Ac.box b T c)).bt rfl] at k
theorem Zl {Pr : Prop} {cd : Code} (hp : ∀ w, St w0 M w L → Pr) (k : Pr → G P n w0 M cd Q F L) : G P n w0 M cd Q F L := fun a w hF hS => k (hp w hS) a w hF hS
end
section
variable {p : Prop} [Decidable p] {a b : Bool} {m n : Int}
theorem eB : ((a || b) = true) = (a = true ∨ b = true) := Bool.or_eq_true a b
theorem du : ((a && b) = true) = (a = true ∧ b = true) := Bool.and_eq_true a b
theorem dt : ((a || b) = false) = (a = false ∧ b = false) := propext Bool.or_eq_false_iff
theorem eA : ((a && b) = false) = (a = false ∨ b = false) := propext Bool.and_eq_false_iff
end
end Go.Ing
/- What comes of what beings do: plain laws. -/
namespace Go.Ing
open Go
structure AH.DE (w : AH) : Prop where
 th : ∀ i, (w.AO.at i).name.length ≤ 140737488351232
 be : ∀ i, (w.AN.at i).name.length ≤ 140737488351232
 ro : ∀ i, (w.BQ.at i).name.length ≤ 140737488351232
namespace AF
theorem NO {l : List Int} {k : Int} (h0 : 0 ≤ k) (h1 : k < l.length) : l.drop k.toNat = l.getD k.toNat 0 :: l.drop (k + 1).toNat := by
 have hk : k.toNat < l.length := by omega
 rw [List.drop_eq_getElem_cons hk, show (k + 1).toNat = k.toNat + 1 by omega, List.getD_eq_getElem?_getD, List.getElem?_eq_getElem hk]
 rfl
theorem YK {w : AH} {s : Ap} {l : List Int} {k : Int} (h0 : 0 ≤ k) (h1 : k < l.length) (h : (w.AO.at (l.getD k.toNat 0)).on = true) : Hu w s (l.drop k.toNat) = Hu w (s ++ ([32] ++ (w.AO.at (l.getD k.toNat 0)).name) ++ [42]) (l.drop (k + 1).toNat) := by
 rw [NO h0 h1, Hu, if_pos h]; simp
theorem YM {w : AH} {s : Ap} {l : List Int} {k : Int} (h0 : 0 ≤ k) (h1 : k < l.length) (h : (w.AO.at (l.getD k.toNat 0)).on = false) : Hu w s (l.drop k.toNat) = Hu w (s ++ ([32] ++ (w.AO.at (l.getD k.toNat 0)).name)) (l.drop (k + 1).toNat) := by
 rw [NO h0 h1, Hu, if_neg (by rw [h]; decide)]; simp
theorem TX {r : Room} {k : Int} (h : 0 ≤ k) : Ia r (k + 1).toNat = if decide (r.CM.at k = 0) = true then Ia r k.toNat else if r.shut.at k = true then Ia r k.toNat ++ ([32] ++ AH.called k) ++ [42] else Ia r k.toNat ++ ([32] ++ AH.called k) := by
 obtain ⟨m, rfl⟩ := Int.eq_ofNat_of_zero_le h
 rfl
theorem ML (r : Room) : ∀ k : Nat, (Ia r k).length ≤ 5 + k * 22
 | 0 => by simp [Ia]
 | k + 1 => by
  have ih := ML r k
  have hc := AH.JC (k : Int)
  unfold Ia
  repeat' split
  all_goals (try simp only [List.length_append, List.length_cons, List.length_nil])
  all_goals omega
theorem KD (T : AF) : ∀ k : Nat, (T.FX k).w = T.w ∧ (T.FX k).b = T.b ∧ (T.FX k).out.length ≤ T.out.length + k
 | 0 => ⟨rfl, rfl, by simp [FX]⟩
 | k + 1 => by
  obtain ⟨h1, h2, h3⟩ := KD T k
  unfold FX
  split
  ·exact ⟨by simpa using h1, by simpa using h2, by rw [CE]; omega⟩
  ·exact ⟨h1, h2, by omega⟩
theorem JG {T : AF} {k : Int} (h : 0 ≤ k) : T.FX (k + 1).toNat = if (!decide (k = T.b) && T.w.Il T.b k) = true then (T.FX k.toNat).tell ((T.w.AN.at k).name ++ [32, 105, 115, 32, 104, 101, 114, 101, 46]) else T.FX k.toNat := by
 obtain ⟨m, rfl⟩ := Int.eq_ofNat_of_zero_le h
 rfl
@[simp] theorem HO (T : AF) (s : Ap) (l : List Int) : (T.list s l).w = T.w ∧ (T.list s l).b = T.b ∧ (T.list s l).out.length = T.out.length + 1 := ⟨rfl, rfl, by simp [list]⟩
theorem Tt (T : AF) : T.Jl.w = T.w ∧ T.Jl.b = T.b ∧ T.Jl.out.length = T.out.length + 2 := ⟨rfl, rfl, by simp [Jl]⟩
theorem Q7 (T : AF) : T.D5.w = T.w ∧ T.D5.b = T.b ∧ T.D5.out.length ≤ T.out.length + 3 := by
 have h := T.Tt
 unfold D5
 split
 ·have h2 := T.Jl.HO [72, 101, 114, 101, 32, 105, 115] (T.w.has 0 T.me.room)
  exact ⟨h2.1.trans h.1, h2.2.1.trans h.2.1, by omega⟩
 ·exact ⟨h.1, h.2.1, by omega⟩
theorem J4 (T : AF) : T.look.w = T.w ∧ T.look.b = T.b ∧ T.look.out.length ≤ T.out.length + 9 := by
 unfold look
 split
 ·exact ⟨rfl, rfl, by rw [CE]; omega⟩
 ·have h := T.Q7
  have h2 := T.D5.KD 6
  exact ⟨h2.1.trans h.1, h2.2.1.trans h.2.1, by omega⟩
end AF
theorem Bb.Ep {xs : List Int} {i : Nat} (h : i < xs.length) : xs.getD i 0 ∈ xs := by
 rw [List.getD_eq_getElem?_getD, List.getElem?_eq_getElem h]
 exact List.getElem_mem h
theorem AH.To {w : AH} {r : Int} (h : (!w.HN r) = false) : 0 ≤ r ∧ r < 6 := by
 unfold AH.HN at h
 split at h
 ·simp at h
 ·rename_i c; simp at c; omega
theorem AH.Fp {w : AH} {CW at_ i : Int} (h : i ∈ w.has CW at_) : 0 ≤ i ∧ i < 9 := by
 unfold AH.has at h
 have := (List.mem_filter.1 h).1
 obtain ⟨n, hn, rfl⟩ := List.mem_map.1 this
 have := List.mem_range.1 hn
 exact ⟨by simp, by show ((n : Nat) : Int) < 9; omega⟩
theorem AH.H6 (w : AH) (CW at_ : Int) : (w.has CW at_).length ≤ 9 := by
 rw [AH.TF]; exact AH.Ra w CW at_ _
end Go.Ing
/- What beings do keeps the land good: plain laws. -/
namespace Go.Ing
open Go
theorem Vector.D4 {α : Type} [Inhabited α] {n : Nat} (v : Vector α n) (k : Int) (x y : α) : (v.put k x).put k y = v.put k y := by
 unfold Vector.put
 apply Vector.ext
 intro i hi
 simp only [Vector.getElem_setIfInBounds]
 split <;> rfl
theorem Vector.CD {α : Type} [Inhabited α] {n : Nat} {v : Vector α n} {k : Int} {x : α} (h0 : 0 ≤ k) (h1 : k < n) : (v.put k x).at k = x := by rw [IF v k k x h0 h1 h0, if_pos rfl]
theorem Vector.EZ {α : Type} [Inhabited α] {n : Nat} {v : Vector α n} {k i : Int} {x : α} (h0 : 0 ≤ k) (h1 : k < n) (hi : 0 ≤ i) (hn : i ≠ k) : (v.put k x).at i = v.at i := by rw [IF v k i x h0 h1 hi, if_neg hn]
namespace AH
variable {X Y : AH}
theorem Out.path : ∀ {m : Nat} {i : Int}, 0 ≤ i → i < 9 → Out X m i → ∃ s : List Int, Sb s + s.length = 9 ∧ s.length = m + 1 ∧ ∀ j ∈ s, ∃ k, k ≤ m ∧ Out X k j
 | 0, i, h0, h9, h => ⟨[] ++ [i], by have := Nn (s := []) (i := i) (by simp) h0 h9; simp only [List.length_append, List.length_cons, List.length_nil]; have : Sb [] = 9 := rfl; omega, rfl, fun j hj => by
   have : j = i := by simpa using hj
   subst this; exact ⟨0, Nat.le_refl _, h⟩⟩
 | m + 1, i, h0, h9, h => by
  obtain ⟨s, h1, h2, h3⟩ := Out.path h.2.1 h.2.2.1 h.2.2.2
  have hn : i ∉ s := fun hm => by
   obtain ⟨k, hk, ho⟩ := h3 i hm
   have := h.uniq ho
   omega
  have hl := Nn hn h0 h9
  refine ⟨s ++ [i], by simp only [List.length_append, List.length_cons, List.length_nil]; omega, by simp only [List.length_append, List.length_cons, List.length_nil]; omega, fun j hj => ?_⟩
  rcases List.mem_append.1 hj with hj | hj
  ·obtain ⟨k, hk, ho⟩ := h3 j hj
   exact ⟨k, by omega, ho⟩
  ·have : j = i := by simpa using hj
   subst this; exact ⟨m + 1, Nat.le_refl _, h⟩
theorem Out.eD {m : Nat} {i : Int} (h0 : 0 ≤ i) (h9 : i < 9) (h : Out X m i) : m ≤ 8 := by
 obtain ⟨s, h1, h2, _⟩ := h.path h0 h9
 omega
theorem LU : ∀ {m n : Nat} {i : Int}, Out X m i → m < n → X.JU n (X.AO.at i) = true
 | _, 0, _, _, h => absurd h (Nat.not_lt_zero _)
 | 0, n + 1, i, h, _ => by
  unfold JU
  rw [if_pos (by simpa using (show (X.AO.at i).CW ≠ 2 from h))]
 | m + 1, n + 1, i, h, hl => by
  unfold JU
  rw [if_neg (by simp [h.1]), if_neg (by have := h.2.1; have := h.2.2.1; simp; omega)]
  exact LU h.2.2.2 (by omega)
structure Nq (X : AH) (i : Int) : Prop where
 k0 : 0 ≤ (X.AO.at i).kind
 k3 : (X.AO.at i).kind ≤ 3
 plain : (X.AO.at i).kind = 0 → (X.AO.at i).on = false
 a0 : 0 ≤ (X.AO.at i).at_
 CW : ((X.AO.at i).CW = 0 ∧ (X.AO.at i).at_ < 6 ∧ ¬ ((X.AO.at i).kind = 2 ∧ (X.AO.at i).on = true)) ∨
  ((X.AO.at i).CW = 1 ∧ (X.AO.at i).at_ < 6 ∧ (X.AN.at (X.AO.at i).at_).here = true) ∨
  ((X.AO.at i).CW = 2 ∧ (X.AO.at i).at_ < 9 ∧ (X.AO.at (X.AO.at i).at_).kind = 3 ∧ ¬ ((X.AO.at i).kind = 2 ∧ (X.AO.at i).on = true))
theorem Qs.p {i : Int} (h : Qs X i) : Nq X i := ⟨h.k0, h.k3, h.plain, h.a0, by
 rcases h.CW with h | h | ⟨h1, h2, h3, h4, _⟩
 ·exact .inl h
 ·exact .inr (.inl h)
 ·exact .inr (.inr ⟨h1, h2, h3, h4⟩)⟩
theorem QU {i : Int} (h : Nq X i) (h0 : 0 ≤ i) (h9 : i < 9) {m : Nat} (ho : Out X m i) : X.Cf i = true := by
 have hc := LU ho (show m < 10 by have := ho.eD h0 h9; omega)
 have := h.k0; have := h.k3; have := h.a0
 unfold Cf
 rw [if_neg (by
  simp only [Bool.or_eq_true, Bool.and_eq_true, decide_eq_true_eq]
  rintro (((h1 | h1) | ⟨h1, h2⟩) | h1)
  ·omega
  ·omega
  ·rw [h.plain h1] at h2; cases h2
  ·omega)]
 rcases h.CW with ⟨w, a, b⟩ | ⟨w, a, b⟩ | ⟨w, a, k, b⟩
 ·rw [if_pos (by simp [w])]
  simp only [Bool.and_eq_true, decide_eq_true_eq, Bool.not_eq_true']
  refine ⟨a, ?_⟩
  cases hh : (decide ((X.AO.at i).kind = 2) && (X.AO.at i).on) with
  | false => rfl
  | true => rw [Bool.and_eq_true] at hh; exact absurd ⟨of_decide_eq_true hh.1, hh.2⟩ b
 ·rw [if_neg (by simp [w]), if_pos (by simp [w])]
  simp [a, b]
 ·rw [if_neg (by simp [w]), if_neg (by simp [w]), if_pos (by simp [w]), if_neg (by
   simp only [Bool.or_eq_true, Bool.and_eq_true, decide_eq_true_eq, Bool.not_eq_true', decide_eq_false_iff_not]
   rintro ((h1 | h1) | ⟨h1, h2⟩)
   ·omega
   ·exact h1 k
   ·exact b ⟨h1, h2⟩)]
  exact hc
theorem RG (hr : ∀ r d, 0 ≤ r → r < 6 → 0 ≤ d → d < 6 → Hz (X.BQ.at r) d = false) (hb : ∀ b, 0 ≤ b → b < 6 → Df (X.AN.at b) = false) (ht : ∀ i, 0 ≤ i → i < 9 → Nq X i ∧ ∃ m, Out X m i) : X.Bg = true := by
 unfold Bg
 rw [Bool.and_eq_true, Bool.and_eq_true]
 refine ⟨(DY 6).2 fun r h0 h1 => ?_, (DY 6).2 fun b h0 h1 => ?_, (DY 9).2 fun i h0 h1 => ?_⟩
 ·exact (DY 6).2 fun d d0 d1 => by rw [hr r d (by omega) h1 (by omega) d1]; rfl
 ·rw [hb b (by omega) h1]; rfl
 ·obtain ⟨hp, m, ho⟩ := ht i (by omega) h1
  exact QU hp (by omega) h1 ho
theorem Out.same (h : ∀ i, 0 ≤ i → i < 9 → (Y.AO.at i).CW = (X.AO.at i).CW ∧ (Y.AO.at i).at_ = (X.AO.at i).at_) : ∀ {m : Nat} {i : Int}, 0 ≤ i → i < 9 → Out X m i → Out Y m i
 | 0, i, h0, h9, ho => by show (Y.AO.at i).CW ≠ 2; rw [(h i h0 h9).1]; exact ho
 | m + 1, i, h0, h9, ho => by
  refine ⟨(h i h0 h9).1.trans ho.1, ?_⟩
  rw [(h i h0 h9).2]
  exact ⟨ho.2.1, ho.2.2.1, Out.same h ho.2.1 ho.2.2.1 ho.2.2.2⟩
theorem Out.other {k : Int} (h : ∀ i, 0 ≤ i → i < 9 → i ≠ k → Y.AO.at i = X.AO.at i) (hk : ∃ m, Out Y m k) : ∀ {m : Nat} {i : Int}, 0 ≤ i → i < 9 → Out X m i → ∃ m', Out Y m' i
 | 0, i, h0, h9, ho => by
  by_cases e : i = k
  ·subst e; exact hk
  ·exact ⟨0, by show (Y.AO.at i).CW ≠ 2; rw [h i h0 h9 e]; exact ho⟩
 | m + 1, i, h0, h9, ho => by
  by_cases e : i = k
  ·subst e; exact hk
  ·obtain ⟨m', h'⟩ := Out.other h hk ho.2.1 ho.2.2.1 ho.2.2.2
   exact ⟨m' + 1, by rw [Out, h i h0 h9 e]; exact ⟨ho.1, ho.2.1, ho.2.2.1, h'⟩⟩
theorem Out.bM {k : Int} (h : ∀ i, 0 ≤ i → i < 9 → i ≠ k → Y.AO.at i = X.AO.at i) : ∀ {m n : Nat} {i : Int}, 0 ≤ i → i < 9 → Out X m i → m < n → X.inside k n i = false → Out Y m i
 | 0, 0, _, _, _, _, hl, _ => absurd hl (Nat.not_lt_zero _)
 | _ + 1, 0, _, _, _, _, hl, _ => absurd hl (Nat.not_lt_zero _)
 | 0, n + 1, i, h0, h9, ho, hl, hi => by
  have e : i ≠ k := fun e => by unfold inside at hi; rw [if_pos (by simp [e])] at hi; cases hi
  show (Y.AO.at i).CW ≠ 2; rw [h i h0 h9 e]; exact ho
 | m + 1, n + 1, i, h0, h9, ho, hl, hi => by
  have e : i ≠ k := fun e => by unfold inside at hi; rw [if_pos (by simp [e])] at hi; cases hi
  unfold inside at hi
  rw [if_neg (by simp [e]), if_neg (by simp [ho.1]; omega)] at hi
  rw [Out, h i h0 h9 e]
  exact ⟨ho.1, ho.2.1, ho.2.2.1, Out.bM h ho.2.1 ho.2.2.1 ho.2.2.2 (by omega) hi⟩
end AH
end Go.Ing
/- What beings do keeps the land good: the parts of a turn. -/
namespace Go.Ing
open Go
theorem Vector.QG {α : Type} [Inhabited α] {n : Nat} (v : Vector α n) (k i : Int) (x : α) : (v.put k x).at i = x ∨ (v.put k x).at i = v.at i := by
 unfold Vector.put Vector.at
 rw [List.getD_eq_getElem?_getD, List.getD_eq_getElem?_getD]
 simp only [Vector.toList_setIfInBounds]
 rw [List.getElem?_set]
 split
 ·split
  ·exact .inl rfl
  ·rename_i h1 h2
   exact .inr (by rw [← h1, List.getElem?_eq_none (by omega)])
 ·exact .inr rfl
namespace AH
variable {X : AH}
def Gi (X : AH) (i : Int) (t : Ak) : AH := { X with AO := X.AO.put i t }
def C3 (X : AH) (b : Int) (x : Aj) : AH := { X with AN := X.AN.put b x }
def Mw (X : AH) (r d : Int) (v : Bool) : AH := { X with BQ := X.BQ.put r { X.BQ.at r with shut := (X.BQ.at r).shut.put d v } }
theorem HL (hg : X.Bg = true) {i : Int} (h0 : 0 ≤ i) (h9 : i < 9) : Nq X i := (SK (OK hg h0 h9)).p
theorem KF (hg : X.Bg = true) {i : Int} (h0 : 0 ≤ i) (h9 : i < 9) : ∃ m, Out X m i := by
 obtain ⟨m, _, h⟩ := RU hg h0 h9; exact ⟨m, h⟩
theorem KH {i j : Int} (h0 : 0 ≤ i) (h9 : i < 9) (j0 : 0 ≤ j) (hn : j ≠ i) (t : Ak) : (X.Gi i t).AO.at j = X.AO.at j := Vector.EZ h0 h9 j0 hn
theorem Fx {i : Int} (h0 : 0 ≤ i) (h9 : i < 9) (t : Ak) : (X.Gi i t).AO.at i = t := Vector.CD h0 h9
theorem GM {i j : Int} (h0 : 0 ≤ i) (h9 : i < 6) (j0 : 0 ≤ j) (hn : j ≠ i) (t : Aj) : (X.C3 i t).AN.at j = X.AN.at j := Vector.EZ h0 h9 j0 hn
theorem EH {i : Int} (h0 : 0 ≤ i) (h9 : i < 6) (t : Aj) : (X.C3 i t).AN.at i = t := Vector.CD h0 h9
theorem J7 (hg : X.Bg = true) {i : Int} (h0 : 0 ≤ i) (h9 : i < 9) {t : Ak} (hk : t.kind = (X.AO.at i).kind) (hp : Nq (X.Gi i t) i) (ho : ∃ m, Out (X.Gi i t) m i) : (X.Gi i t).Bg = true := by
 have hs : ∀ j, 0 ≤ j → j < 9 → j ≠ i → (X.Gi i t).AO.at j = X.AO.at j := fun j j0 _ hn => KH h0 h9 j0 hn t
 refine RG (fun r d r0 r6 d0 d6 => J8 hg r0 r6 d0 d6) (fun b b0 b6 => FK hg b0 b6) fun j j0 j9 => ?_
 obtain ⟨m, hm⟩ := KF hg j0 j9
 refine ⟨?_, Out.other hs ho j0 j9 hm⟩
 by_cases e : j = i
 ·subst e; exact hp
 ·have q := HL hg j0 j9
  have hkk : ∀ a, 0 ≤ a → a < 9 → ((X.Gi i t).AO.at a).kind = (X.AO.at a).kind := fun a a0 a9 => by
   by_cases ea : a = i
   ·subst ea; rw [Fx h0 h9, hk]
   ·rw [hs a a0 a9 ea]
  have ej := hs j j0 j9 e
  refine ⟨by rw [ej]; exact q.k0, by rw [ej]; exact q.k3, by rw [ej]; exact q.plain, by rw [ej]; exact q.a0, ?_⟩
  rw [ej]
  rcases q.CW with h | h | ⟨h1, h2, h3, h4⟩
  ·exact .inl h
  ·exact .inr (.inl h)
  ·exact .inr (.inr ⟨h1, h2, by rw [hkk _ q.a0 h2]; exact h3, h4⟩)
theorem Ii (hg : X.Bg = true) {b : Int} (h0 : 0 ≤ b) (h6 : b < 6) {x : Aj} (hx : Df x = false) (hh : ∀ i, 0 ≤ i → i < 9 → (X.AO.at i).CW = 1 → (X.AO.at i).at_ = b → x.here = true) : (X.C3 b x).Bg = true := by
 refine RG (fun r d r0 r6 d0 d6 => J8 hg r0 r6 d0 d6) (fun c c0 c6 => ?_) fun j j0 j9 => ?_
 ·by_cases e : c = b
  ·subst e; rw [EH h0 h6]; exact hx
  ·rw [GM h0 h6 c0 e]; exact FK hg c0 c6
 ·obtain ⟨m, hm⟩ := KF hg j0 j9
  refine ⟨?_, m, Out.same (X := X) (Y := X.C3 b x) (fun _ _ _ => ⟨rfl, rfl⟩) j0 j9 hm⟩
  have q := HL hg j0 j9
  refine ⟨q.k0, q.k3, q.plain, q.a0, ?_⟩
  rcases q.CW with h | ⟨h1, h2, h3⟩ | h
  ·exact .inl h
  ·refine .inr (.inl ⟨h1, h2, ?_⟩)
   show ((X.C3 b x).AN.at (X.AO.at j).at_).here = true
   by_cases e : (X.AO.at j).at_ = b
   ·rw [e, EH h0 h6]; exact hh j j0 j9 h1 e
   ·rw [GM h0 h6 q.a0 e]; exact h3
  ·exact .inr (.inr h)
theorem Vh (hg : X.Bg = true) {r d : Int} (h0 : 0 ≤ r) (h6 : r < 6) (d0 : 0 ≤ d) (d6 : d < 6) {v : Bool} (hv : v = true → (X.BQ.at r).CM.at d ≠ 0) : (X.Mw r d v).Bg = true := by
 refine RG (fun c e c0 c6 e0 e6 => ?_) (fun b b0 b6 => FK hg b0 b6) fun j j0 j9 => ?_
 ·have q := J8 hg c0 c6 e0 e6
  by_cases ec : c = r
  ·subst ec
   have er : (X.Mw c d v).BQ.at c = { X.BQ.at c with shut := (X.BQ.at c).shut.put d v } := Vector.CD h0 h6
   rw [er]
   unfold Hz at q ⊢
   show (decide ((X.BQ.at c).CM.at e < 0) || decide (6 < (X.BQ.at c).CM.at e) || (decide ((X.BQ.at c).CM.at e = 0) && ((X.BQ.at c).shut.put d v).at e)) = false
   rw [IF _ _ _ _ d0 d6 e0]
   split
   ·rename_i ee
    subst ee
    cases v with
    | false =>
     simp only [Bool.and_false, Bool.or_false]
     rw [Bool.or_eq_false_iff] at q
     exact q.1
    | true => simpa [hv rfl] using (Bool.or_eq_false_iff.1 q).1
   ·exact q
  ·rw [show (X.Mw r d v).BQ.at c = X.BQ.at c from Vector.EZ h0 h6 c0 ec]; exact q
 ·obtain ⟨m, hm⟩ := KF hg j0 j9
  have q := HL hg j0 j9
  exact ⟨⟨q.k0, q.k3, q.plain, q.a0, q.CW⟩, m, Out.same (X := X) (Y := X.Mw r d v) (fun _ _ _ => ⟨rfl, rfl⟩) j0 j9 hm⟩
/-! #### what is done to a thing -/
section
variable {i : Int} (hg : X.Bg = true) (h0 : 0 ≤ i) (h9 : i < 9)
include hg h0 h9
theorem UP {v : Bool} (h1 : (X.AO.at i).kind ≠ 0) (h2 : (X.AO.at i).kind = 2 → (X.AO.at i).CW = 1) : (X.Gi i { X.AO.at i with on := v }).Bg = true := by
 have q := HL hg h0 h9
 obtain ⟨m, hm⟩ := KF hg h0 h9
 have hs : ∀ j, 0 ≤ j → j < 9 → ((X.Gi i { X.AO.at i with on := v }).AO.at j).CW = (X.AO.at j).CW ∧ ((X.Gi i { X.AO.at i with on := v }).AO.at j).at_ = (X.AO.at j).at_ := fun j j0 _ => by
  by_cases e : j = i
  ·subst e; rw [Fx h0 h9]; exact ⟨rfl, rfl⟩
  ·rw [KH h0 h9 j0 e]; exact ⟨rfl, rfl⟩
 have hkk : ∀ a, 0 ≤ a → ((X.Gi i { X.AO.at i with on := v }).AO.at a).kind = (X.AO.at a).kind := fun a a0 => by
  by_cases ea : a = i
  ·subst ea; rw [Fx h0 h9]
  ·rw [KH h0 h9 a0 ea]
 refine J7 hg h0 h9 (by rfl) ?_ ⟨m, Out.same hs h0 h9 hm⟩
 refine ⟨?_, ?_, ?_, ?_, ?_⟩ <;> rw [Fx h0 h9]
 ·exact q.k0
 ·exact q.k3
 ·exact fun e => absurd e h1
 ·exact q.a0
 ·rcases q.CW with ⟨a, b, c⟩ | h | ⟨a, b, c, d⟩
  ·exact .inl ⟨a, b, fun ⟨e, _⟩ => by have := h2 e; omega⟩
  ·exact .inr (.inl h)
  ·refine .inr (.inr ⟨a, b, ?_, fun ⟨e, _⟩ => by have := h2 e; omega⟩)
   show ((X.Gi i { X.AO.at i with on := v }).AO.at (X.AO.at i).at_).kind = 3
   rw [hkk _ q.a0]; exact c
theorem Mh {v : Bool} {a : Int} (ha : 0 ≤ a ∧ a < 6) (hv : (X.AO.at i).kind = 0 → v = false) (hc : ¬ ((X.AO.at i).kind = 2 ∧ v = true)) : (X.Gi i { X.AO.at i with on := v, CW := 0, at_ := a }).Bg = true := by
 have q := HL hg h0 h9
 refine J7 hg h0 h9 (by rfl) ?_ ⟨0, by show ((X.Gi i _).AO.at i).CW ≠ 2; rw [Fx h0 h9]; intro hc; cases hc⟩
 refine ⟨?_, ?_, ?_, ?_, ?_⟩ <;> rw [Fx h0 h9]
 ·exact q.k0
 ·exact q.k3
 ·exact hv
 ·exact ha.1
 ·exact .inl ⟨rfl, ha.2, hc⟩
theorem Rn {a : Int} (ha : 0 ≤ a ∧ a < 6) (hh : (X.AN.at a).here = true) : (X.Gi i { X.AO.at i with CW := 1, at_ := a }).Bg = true := by
 have q := HL hg h0 h9
 refine J7 hg h0 h9 (by rfl) ?_ ⟨0, by show ((X.Gi i _).AO.at i).CW ≠ 2; rw [Fx h0 h9]; intro hc; cases hc⟩
 refine ⟨?_, ?_, ?_, ?_, ?_⟩ <;> rw [Fx h0 h9]
 ·exact q.k0
 ·exact q.k3
 ·exact q.plain
 ·exact ha.1
 ·exact .inr (.inl ⟨rfl, ha.2, hh⟩)
theorem Rj {a : Int} (ha : 0 ≤ a ∧ a < 9) (hk : (X.AO.at a).kind = 3) (hc : ¬ ((X.AO.at i).kind = 2 ∧ (X.AO.at i).on = true)) (hi : X.TH a i = false) : (X.Gi i { X.AO.at i with CW := 2, at_ := a }).Bg = true := by
 have q := HL hg h0 h9
 have hs : ∀ j, 0 ≤ j → j < 9 → j ≠ i → (X.Gi i { X.AO.at i with CW := 2, at_ := a }).AO.at j = X.AO.at j := fun j j0 _ hn => KH h0 h9 j0 hn _
 have hai : a ≠ i := fun e => by subst e; rw [U3] at hi; cases hi
 obtain ⟨m, hm10, hm⟩ := RU hg ha.1 ha.2
 have hm' := Out.bM hs ha.1 ha.2 hm hm10 hi
 refine J7 hg h0 h9 (by rfl) ?_ ⟨m + 1, by rw [Out, Fx h0 h9]; exact ⟨rfl, ha.1, ha.2, hm'⟩⟩
 refine ⟨?_, ?_, ?_, ?_, ?_⟩ <;> rw [Fx h0 h9]
 ·exact q.k0
 ·exact q.k3
 ·exact q.plain
 ·exact ha.1
 ·refine .inr (.inr ⟨rfl, ha.2, ?_, hc⟩)
  show ((X.Gi i _).AO.at a).kind = 3
  rw [hs a ha.1 ha.2 hai]; exact hk
end
end AH
end Go.Ing
/- What beings do keeps the land good: a turn. -/
namespace Go.Ing
open Go
namespace AH
end AH
namespace AF
structure Fit (T : AF) : Prop where
 b : 0 ≤ T.b ∧ T.b < 6
 br : T.w.DE
 gd : T.w.Bg = true
 here : (T.w.AN.at T.b).here = true
structure Step (b : Int) (X Y : AH) : Prop where
 th : ∀ i, 0 ≤ i → i < 9 → (Y.AO.at i).name = (X.AO.at i).name ∧ (Y.AO.at i).kind = (X.AO.at i).kind
 own : ∀ i, 0 ≤ i → i < 9 → (X.AO.at i).CW = 1 → (X.AO.at i).at_ ≠ b → Y.AO.at i = X.AO.at i
 be : ∀ c, 0 ≤ c → c < 6 → c ≠ b → { Y.AN.at c with B0 := 0 } = { X.AN.at c with B0 := 0 }
 ro : ∀ r, 0 ≤ r → r < 6 → (Y.BQ.at r).name = (X.BQ.at r).name ∧ (Y.BQ.at r).L6 = (X.BQ.at r).L6 ∧ (Y.BQ.at r).CM = (X.BQ.at r).CM
theorem Step.refl (b : Int) (X : AH) : Step b X X := ⟨fun _ _ _ => ⟨rfl, rfl⟩, fun _ _ _ _ _ => rfl, fun _ _ _ _ => rfl, fun _ _ _ => ⟨rfl, rfl, rfl⟩⟩
theorem Step.trans {b : Int} {X Y Z : AH} (h : Step b X Y) (k : Step b Y Z) : Step b X Z :=
  ⟨fun i h0 h9 => ⟨(k.th i h0 h9).1.trans (h.th i h0 h9).1, (k.th i h0 h9).2.trans (h.th i h0 h9).2⟩,
   fun i h0 h9 h1 h2 => by
    have e := h.own i h0 h9 h1 h2
    exact (k.own i h0 h9 (by rw [e]; exact h1) (by rw [e]; exact h2)).trans e,
   fun c h0 h6 hn => (k.be c h0 h6 hn).trans (h.be c h0 h6 hn),
   fun r h0 h6 => ⟨(k.ro r h0 h6).1.trans (h.ro r h0 h6).1, (k.ro r h0 h6).2.1.trans (h.ro r h0 h6).2.1, (k.ro r h0 h6).2.2.trans (h.ro r h0 h6).2.2⟩⟩
theorem Fit.Ed {T T' : AF} (h : T.Fit) (hw : T'.w = T.w) (hb : T'.b = T.b) : T'.Fit := ⟨by rw [hb]; exact h.b, by rw [hw]; exact h.br, by rw [hw]; exact h.gd, by rw [hw, hb]; exact h.here⟩
theorem Fit.BO {T : AF} (h : T.Fit) (e : Event) : (T.BO e).Fit := h.Ed rfl rfl
theorem Fit.tell {T : AF} (h : T.Fit) (s : Ap) : (T.tell s).Fit := h.Ed rfl rfl
theorem Fit.room {T : AF} (h : T.Fit) : 0 ≤ (T.w.AN.at T.b).room ∧ (T.w.AN.at T.b).room < 6 := by
 have := AH.FK h.gd h.b.1 h.b.2
 simp only [AH.Df, Bool.or_eq_false_iff, decide_eq_false_iff_not] at this
 omega
theorem Fit.exit {T : AF} (h : T.Fit) {d : Int} (d0 : 0 ≤ d) (d6 : d < 6) : 0 ≤ (T.w.BQ.at (T.w.AN.at T.b).room).CM.at d ∧ (T.w.BQ.at (T.w.AN.at T.b).room).CM.at d ≤ 6 := by
 have := AH.J8 h.gd h.room.1 h.room.2 d0 d6
 simp only [AH.Hz, Bool.or_eq_false_iff, decide_eq_false_iff_not] at this
 omega
theorem TN {X : AH} (h : X.DE) {i : Int} {t : Ak} (ht : t.name.length ≤ 140737488351232) : (X.Gi i t).DE := ⟨fun j => by
 rcases Vector.QG X.AO i j t with e | e
 ·show ((X.AO.put i t).at j).name.length ≤ _; rw [e]; exact ht
 ·show ((X.AO.put i t).at j).name.length ≤ _; rw [e]; exact h.th j, h.be, h.ro⟩
theorem Eh {X : AH} (h : X.DE) {i : Int} {t : Aj} (ht : t.name.length ≤ 140737488351232) : (X.C3 i t).DE := ⟨h.th, fun j => by
 rcases Vector.QG X.AN i j t with e | e
 ·show ((X.AN.put i t).at j).name.length ≤ _; rw [e]; exact ht
 ·show ((X.AN.put i t).at j).name.length ≤ _; rw [e]; exact h.be j, h.ro⟩
theorem Sr {X : AH} (h : X.DE) {r d : Int} {v : Bool} : (X.Mw r d v).DE := ⟨h.th, h.be, fun j => by
 rcases Vector.QG X.BQ r j { X.BQ.at r with shut := (X.BQ.at r).shut.put d v } with e | e
 ·show ((X.BQ.put r _).at j).name.length ≤ _; rw [e]; exact h.ro r
 ·show ((X.BQ.put r _).at j).name.length ≤ _; rw [e]; exact h.ro j⟩
theorem VC {b : Int} {X : AH} {i : Int} (h0 : 0 ≤ i) (h9 : i < 9) {t : Ak} (hn : t.name = (X.AO.at i).name) (hk : t.kind = (X.AO.at i).kind) (ho : (X.AO.at i).CW = 1 → (X.AO.at i).at_ = b) : Step b X (X.Gi i t) :=
  ⟨fun j j0 _ => by
    by_cases e : j = i
    · subst e; rw [AH.Fx h0 h9]; exact ⟨hn, hk⟩
    · rw [AH.KH h0 h9 j0 e]; exact ⟨rfl, rfl⟩,
   fun j j0 _ h1 h2 => by
    by_cases e : j = i
    · subst e; exact absurd (ho h1) h2
    · rw [AH.KH h0 h9 j0 e],
   fun _ _ _ _ => rfl, fun _ _ _ => ⟨rfl, rfl, rfl⟩⟩
theorem MX {b : Int} {X : AH} {i : Int} (h0 : 0 ≤ i) (h6 : i < 6) {t : Aj} (hn : i ≠ b → { t with B0 := 0 } = { X.AN.at i with B0 := 0 }) : Step b X (X.C3 i t) :=
 ⟨fun _ _ _ => ⟨rfl, rfl⟩, fun _ _ _ _ _ => rfl, fun c c0 _ hc => by
  by_cases e : c = i
  ·subst e; rw [AH.EH h0 h6]; exact hn hc
  ·rw [AH.GM h0 h6 c0 e], fun _ _ _ => ⟨rfl, rfl, rfl⟩⟩
theorem V7 {b : Int} {X : AH} {r d : Int} (h0 : 0 ≤ r) (h6 : r < 6) {v : Bool} : Step b X (X.Mw r d v) :=
 ⟨fun _ _ _ => ⟨rfl, rfl⟩, fun _ _ _ _ _ => rfl, fun _ _ _ _ => rfl, fun j j0 _ => by
  by_cases e : j = r
  ·subst e
   rw [show (X.Mw j d v).BQ.at j = { X.BQ.at j with shut := (X.BQ.at j).shut.put d v } from Vector.CD h0 h6]
   exact ⟨rfl, rfl, rfl⟩
  ·rw [show (X.Mw r d v).BQ.at j = X.BQ.at j from Vector.EZ h0 h6 j0 e]
   exact ⟨rfl, rfl, rfl⟩⟩
structure DI (T T' : AF) : Prop where
 b : T'.b = T.b
 fit : T'.Fit
 st : Step T.b T.w T'.w
theorem DI.trans {T T' T'' : AF} (h : DI T T') (k : DI T' T'') : DI T T'' := ⟨k.b.trans h.b, k.fit, h.st.trans (by have := k.st; rwa [h.b] at this)⟩
theorem Fit.goes {T : AF} (h : T.Fit) : DI T T := ⟨rfl, h, .refl _ _⟩
theorem DI.Ed {T T' T'' : AF} (h : DI T T') (hw : T''.w = T'.w) (hb : T''.b = T'.b) : DI T T'' := ⟨hb.trans h.b, h.fit.Ed hw hb, by rw [hw]; exact h.st⟩
theorem Od {T : AF} (h : T.Fit) {r : Int} (hr : 0 ≤ r ∧ r < 6) : DI T (T.F2 r) := by
 have hg := AH.FK h.gd h.b.1 h.b.2
 have hme : ((T.F2 r).w.AN.at T.b) = { T.me with room := r, B0 := 0 } := Vector.CD h.b.1 h.b.2
 refine ⟨rfl, ⟨h.b, Eh h.br (h.br.be T.b), AH.Ii h.gd h.b.1 h.b.2 ?_ fun _ _ _ _ _ => h.here, ?_⟩, MX h.b.1 h.b.2 fun hn => absurd rfl hn⟩
 ·unfold AH.Df at hg ⊢
  show (decide (r < 0) || decide (6 ≤ r) || decide ((T.w.AN.at T.b).BL < 0) || decide (10 < (T.w.AN.at T.b).BL) || decide ((0 : Int) < 0) || decide (6 < (0 : Int)) || (!(T.w.AN.at T.b).here && !decide ((0 : Int) = 0)) || (T.w.AN.at T.b).here != decide (0 < (T.w.AN.at T.b).BL)) = false
  simp only [Bool.or_eq_false_iff, decide_eq_false_iff_not] at hg ⊢
  refine ⟨⟨⟨⟨⟨⟨⟨by omega, by omega⟩, hg.1.1.1.1.1.2⟩, hg.1.1.1.1.2⟩, by decide⟩, by decide⟩, by simp⟩, hg.2⟩
 ·show ((T.F2 r).w.AN.at T.b).here = true
  rw [hme]; exact h.here
theorem Pd {T : AF} (h : T.Fit) : DI T T.look := h.goes.Ed T.J4.1 T.J4.2.1
theorem V8 {T : AF} (h : T.Fit) {d : Int} (d0 : 0 ≤ d) (d6 : d < 6) : DI T (T.walk d) := by
 unfold walk
 split
 ·exact h.goes.Ed rfl rfl
 ·split
  ·exact h.goes.Ed rfl rfl
  ·rename_i h1 _
   have hx := h.exit d0 d6
   have h1' : (T.w.BQ.at (T.w.AN.at T.b).room).CM.at d ≠ 0 := fun e => h1 (decide_eq_true e)
   have g1 : DI T (T.BO { Fk 1 with dir := d }) := h.goes.Ed rfl rfl
   have g2 := g1.trans (Od g1.fit (r := (T.w.BQ.at T.me.room).CM.at d - 1) (by show 0 ≤ (T.w.BQ.at (T.w.AN.at T.b).room).CM.at d - 1 ∧ (T.w.BQ.at (T.w.AN.at T.b).room).CM.at d - 1 < 6; omega))
   have g3 := g2.Ed (T'' := ((T.BO { Fk 1 with dir := d }).F2 ((T.w.BQ.at T.me.room).CM.at d - 1)).BO { Fk 2 with dir := AH.opposite d }) rfl rfl
   exact g3.trans (Pd g3.fit)
end AF
end Go.Ing
/- What beings do keeps the land good: each order. -/
namespace Go.Ing
open Go
namespace AH
variable {X : AH}
theorem QP {CW at_ i : Int} (h : i ∈ X.has CW at_) : (X.AO.at i).CW = CW ∧ (X.AO.at i).at_ = at_ := by
 have := (List.mem_filter.1 h).2
 rw [Bool.and_eq_true] at this
 exact ⟨of_decide_eq_true this.1, of_decide_eq_true this.2⟩
theorem Pu (CW at_ : Int) : (X.has CW at_).Nodup := by
 unfold has
 exact List.Pairwise.filter _ (by decide)
end AH
namespace AF
/-! #### which things are meant -/
theorem EU (w : AH) (l : List Int) (nth : Int) (name : Ap) (all : Bool) : (BP w l nth name all).Sublist l := by
 unfold BP
 split
 ·exact List.filter_sublist
 ·split
  ·exact List.nil_sublist _
  ·exact ((List.drop_sublist _ _).trans (List.take_sublist _ _)).trans List.filter_sublist
theorem Dn {w : AH} {l : List Int} {nth : Int} {name : Ap} {all : Bool} {i : Int} (h : i ∈ BP w l nth name all) : i ∈ l := (EU w l nth name all).mem h
def Ij (X : AH) (b i : Int) : Prop := 0 ≤ i ∧ i < 9 ∧ ((X.AO.at i).CW = 1 → (X.AO.at i).at_ = b)
def cW (X : AH) (b i : Int) : Prop := 0 ≤ i ∧ i < 9 ∧ (X.AO.at i).CW = 1 ∧ (X.AO.at i).at_ = b
theorem cW.S7 {X : AH} {b i : Int} (h : cW X b i) : Ij X b i := ⟨h.1, h.2.1, fun _ => h.2.2.2⟩
theorem FH {T : AF} {i : Int} (h : i ∈ T.own) : cW T.w T.b i := ⟨(AH.Fp h).1, (AH.Fp h).2, (AH.QP h).1, (AH.QP h).2⟩
theorem XG {X : AH} {b CW at_ i : Int} (hw : CW ≠ 1) (h : i ∈ X.has CW at_) : Ij X b i := ⟨(AH.Fp h).1, (AH.Fp h).2, fun e => absurd ((AH.QP h).1.symm.trans e) hw⟩
theorem Jn {T : AF} {i : Int} (h : i ∈ T.seen) : 0 ≤ i ∧ i < 9 ∧ (T.w.AO.at i).CW = 0 := by
 unfold seen at h
 split at h
 ·cases h
 ·exact ⟨(AH.Fp h).1, (AH.Fp h).2, (AH.QP h).1⟩
theorem MN {T : AF} {i : Int} (h : i ∈ T.seen) : Ij T.w T.b i := by
 obtain ⟨h0, h9, e⟩ := Jn h
 exact ⟨h0, h9, fun e1 => by omega⟩
theorem OD {l : List Int} (h : (decide ((l.length : Int) = 0)) = false) : l.getD 0 0 ∈ l := by
 have h' : (l.length : Int) ≠ 0 := of_decide_eq_false h
 exact Bb.Ep (by omega)
theorem O4 {T : AF} {u : Ap} (h : (T.one u).2 = true) : Ij T.w T.b (T.one u).1 := by
 unfold one at h ⊢
 split at h
 ·cases h
 ·rename_i h1
  rw [if_neg h1]
  split at h
  ·cases h
  ·rename_i h2
   rw [if_neg h2]
   have hm := Dn (OD (Bool.not_eq_true _ ▸ h2))
   rcases List.mem_append.1 hm with hm | hm
   ·exact (FH hm).S7
   ·exact MN hm
/-! #### a box, somebody -/
theorem JW (T : AF) (u : Ap) : (T.box u).1.w = T.w ∧ (T.box u).1.b = T.b := by
 unfold box
 split
 ·exact ⟨rfl, rfl⟩
 ·split <;> exact ⟨rfl, rfl⟩
theorem XT {T : AF} {u : Ap} (h : (T.box u).2.2 = true) : 0 ≤ (T.box u).2.1 ∧ (T.box u).2.1 < 9 ∧ (T.w.AO.at (T.box u).2.1).kind = 3 ∧ (T.box u).1 = T := by
 unfold box at h ⊢
 split at h
 ·cases h
 ·rename_i h1
  rw [if_neg h1]
  split at h
  ·cases h
  ·rename_i h2
   rw [if_neg h2]
   simp only [Bool.or_eq_true, Bool.not_eq_true', decide_eq_false_iff_not, not_or, Bool.not_eq_false, Decidable.not_not] at h1
   have hm := O4 h1.1
   exact ⟨hm.1, hm.2.1, h1.2, rfl⟩
theorem LZ {T : AF} {name : Ap} {k : Int} : ∀ {r : Nat} {n : Int}, r ≤ 6 → T.IV name r n = some k → 0 ≤ k ∧ k < 6 ∧ k ≠ T.b ∧ T.w.Il T.b k = true
 | 0, _, _, h => by cases h
 | r + 1, n, hr, h => by
  unfold IV at h
  split at h
  ·exact LZ (by omega) h
  ·rename_i h1
   split at h
   ·cases h
    simp only [Bool.or_eq_true, decide_eq_true_eq, Bool.not_eq_true', not_or, Bool.not_eq_false] at h1
    exact ⟨by omega, by omega, h1.1.1, h1.2⟩
   ·exact LZ (by omega) h
theorem JD (T : AF) (u : Ap) : (T.A6 u).1.w = T.w ∧ (T.A6 u).1.b = T.b := by
 unfold A6
 split
 ·split <;> exact ⟨rfl, rfl⟩
 ·exact ⟨rfl, rfl⟩
theorem Jz {T : AF} {u : Ap} (h : (T.A6 u).2.2 = true) : 0 ≤ (T.A6 u).2.1 ∧ (T.A6 u).2.1 < 6 ∧ (T.A6 u).2.1 ≠ T.b ∧ T.w.Il T.b (T.A6 u).2.1 = true := by
 unfold A6 at h ⊢
 split at h
 ·rename_i h1
  rw [if_pos h1]
  split at h
  ·rename_i k hk
   exact LZ (Nat.le_refl _) hk
  ·cases h
 ·cases h
/-! #### taking and letting go -/
theorem ET {T : AF} (h : T.Fit) {i : Int} (hm : Ij T.w T.b i) {t : Ak} (hn : t.name = (T.w.AO.at i).name) (hk : t.kind = (T.w.AO.at i).kind) (hg : (T.w.Gi i t).Bg = true) : DI T (T.C7 i t) :=
 ⟨rfl, ⟨h.b, TN h.br (by rw [hn]; exact h.br.th i), hg, h.here⟩, VC hm.1 hm.2.1 hn hk hm.2.2⟩
theorem SF {T : AF} (h : T.Fit) {i : Int} (hm : Ij T.w T.b i) (hc : ¬ ((T.w.AO.at i).kind = 2 ∧ (T.w.AO.at i).on = true)) : DI T (T.place i 0 T.me.room) :=
 ET h hm rfl rfl (by
  have := AH.Mh h.gd hm.1 hm.2.1 (v := (T.w.AO.at i).on) h.room (AH.HL h.gd hm.1 hm.2.1).plain hc
  exact this)
theorem Mf {T : AF} (h : T.Fit) {i a : Int} (hm : Ij T.w T.b i) (ha : 0 ≤ a ∧ a < 6) (hh : (T.w.AN.at a).here = true) : DI T (T.place i 1 a) :=
 ET h hm rfl rfl (AH.Rn h.gd hm.1 hm.2.1 ha hh)
theorem R7 {T : AF} (h : T.Fit) {i a : Int} (hm : Ij T.w T.b i) (ha : 0 ≤ a ∧ a < 9) (hk : (T.w.AO.at a).kind = 3) (hc : ¬ ((T.w.AO.at i).kind = 2 ∧ (T.w.AO.at i).on = true)) (hi : T.w.TH a i = false) : DI T (T.place i 2 a) :=
 ET h hm rfl rfl (AH.Rj h.gd hm.1 hm.2.1 ha hk hc hi)
theorem HA {T : AF} {i j CW at_ : Int} (h0 : 0 ≤ i) (h9 : i < 9) (j0 : 0 ≤ j) : (T.place i CW at_).w.AO.at j = if j = i then { T.w.AO.at i with CW := CW, at_ := at_ } else T.w.AO.at j := IF _ _ _ _ h0 h9 j0
theorem I6 : ∀ {l : List Int} {T : AF}, T.Fit → (∀ i ∈ l, Ij T.w T.b i) → DI T (T.DB l)
 | [], T, h, _ => h.goes
 | i :: r, T, h, hm => by
  have hi := hm i (List.mem_cons_self ..)
  have g1 := Mf h hi h.b h.here
  have g2 : DI T ((T.place i 1 T.b).Bs 3 i) := g1.Ed rfl rfl
  refine g2.trans (I6 g2.fit fun j hj => ?_)
  have hj' := hm j (List.mem_cons_of_mem _ hj)
  refine ⟨hj'.1, hj'.2.1, ?_⟩
  show ((T.place i 1 T.b).w.AO.at j).CW = 1 → ((T.place i 1 T.b).w.AO.at j).at_ = T.b
  rw [HA hi.1 hi.2.1 hj'.1]
  split
  ·exact fun _ => rfl
  ·exact hj'.2.2
theorem P7 {T : AF} (h : T.Fit) {l : List Int} (hl : ∀ i ∈ l, Ij T.w T.b i) (o : Order) : DI T (T.KO l o) := by
 unfold KO
 have hp : ∀ i ∈ BP T.w l o.nth o.name o.Bj, Ij T.w T.b i := fun i hi => hl i (Dn hi)
 split
 ·have g : DI T (T.tell KI) := h.goes.Ed rfl rfl
  exact g.trans (I6 g.fit hp)
 ·exact I6 h hp
theorem Xa {T : AF} (h : T.Fit) (o : Order) : DI T (T.get o) := by
 unfold get
 have g : DI T (T.box o.second).1 := h.goes.Ed (T.JW o.second).1 (T.JW o.second).2
 split
 ·split
  ·exact g
  ·refine g.trans (P7 g.fit (fun i hi => ?_) o)
   rw [(T.JW o.second).1, (T.JW o.second).2] at *
   exact XG (by decide) hi
 ·exact P7 h (fun i hi => MN hi) o
def M1 (T : AF) (v to : Int) : Prop := (v = 8) ∨ (v = 10 ∧ 0 ≤ to ∧ to < 6 ∧ (T.w.AN.at to).here = true) ∨ (v ≠ 8 ∧ v ≠ 10 ∧ 0 ≤ to ∧ to < 9 ∧ (T.w.AO.at to).kind = 3)
theorem M1.next {T T' : AF} {v to : Int} (h : M1 T v to) (hb : T'.w.AN = T.w.AN) (hk : ∀ i, 0 ≤ i → i < 9 → (T'.w.AO.at i).kind = (T.w.AO.at i).kind) : M1 T' v to := by
 rcases h with h | ⟨h1, h2, h3, h4⟩ | ⟨h1, h2, h3, h4, h5⟩
 ·exact .inl h
 ·exact .inr (.inl ⟨h1, h2, h3, by rw [hb]; exact h4⟩)
 ·exact .inr (.inr ⟨h1, h2, h3, h4, by rw [hk _ h3 h4]; exact h5⟩)
theorem SO {T : AF} (h : T.Fit) {v to i : Int} (hm : Ij T.w T.b i) (ht : M1 T v to) : DI T (T.Cn v to i) ∧ (T.Cn v to i).w.AN = T.w.AN ∧ ∀ j, 0 ≤ j → j ≠ i → (T.Cn v to i).w.AO.at j = T.w.AO.at j := by
 have hpl : ∀ CW at_, (T.place i CW at_).w.AN = T.w.AN ∧ ∀ j, 0 ≤ j → j ≠ i → (T.place i CW at_).w.AO.at j = T.w.AO.at j := fun CW at_ => ⟨rfl, fun j j0 hn => by rw [HA hm.1 hm.2.1 j0, if_neg hn]⟩
 unfold Cn
 split
 ·exact ⟨h.goes.Ed rfl rfl, rfl, fun _ _ _ => rfl⟩
 ·rename_i h1
  have hc : ¬ ((T.w.AO.at i).kind = 2 ∧ (T.w.AO.at i).on = true) := fun e => h1 (by rw [Bool.and_eq_true]; exact ⟨decide_eq_true e.1, e.2⟩)
  split
  ·exact ⟨(SF h hm hc).Ed rfl rfl, hpl 0 T.me.room⟩
  ·rename_i h2
   split
   ·rename_i h3
    rcases ht with e | ⟨_, a0, a6, hh⟩ | ⟨_, e, _⟩
    ·exact absurd (decide_eq_true e) h2
    ·exact ⟨(Mf h hm ⟨a0, a6⟩ hh).Ed rfl rfl, hpl 1 to⟩
    ·exact absurd (of_decide_eq_true h3) e
   ·rename_i h3
    split
    ·exact ⟨h.goes.Ed rfl rfl, rfl, fun _ _ _ => rfl⟩
    ·rename_i h4
     rcases ht with e | ⟨e, _⟩ | ⟨_, _, a0, a9, hk⟩
     ·exact absurd (decide_eq_true e) h2
     ·exact absurd (decide_eq_true e) h3
     ·exact ⟨(R7 h hm ⟨a0, a9⟩ hk hc (by simpa using h4)).Ed rfl rfl, hpl 2 to⟩
theorem J3 {v to : Int} : ∀ {l : List Int} {T : AF}, T.Fit → l.Nodup → (∀ i ∈ l, Ij T.w T.b i) → M1 T v to → DI T (T.Ej v to l)
 | [], T, h, _, _, _ => h.goes
 | i :: r, T, h, hd, hm, ht => by
  have hi := hm i (List.mem_cons_self ..)
  obtain ⟨g, gb, gt⟩ := SO h hi ht
  have hd' := List.nodup_cons.1 hd
  refine g.trans (J3 g.fit hd'.2 (fun j hj => ?_) (ht.next gb fun j j0 j9 => (g.st.th j j0 j9).2))
  have hj' := hm j (List.mem_cons_of_mem _ hj)
  have hne : j ≠ i := fun e => hd'.1 (e ▸ hj)
  rw [Ij, gt j hj'.1 hne, g.b]
  exact hj'
theorem VJ {T : AF} (h : T.Fit) {to : Int} {o : Order} (ht : M1 T o.verb to) : DI T (T.RR to o) := by
 unfold RR
 have hp : ∀ i ∈ BP T.w T.own o.nth o.name o.Bj, Ij T.w T.b i := fun i hi => (FH (Dn hi)).S7
 have hd : (BP T.w T.own o.nth o.name o.Bj).Nodup := List.Nodup.sublist (EU ..) (AH.Pu ..)
 split
 ·have g : DI T (T.tell OU) := h.goes.Ed rfl rfl
  exact g.trans (J3 g.fit hd hp (ht.next rfl fun _ _ _ => rfl))
 ·exact J3 h hd hp ht
theorem TY {T : AF} (h : T.Fit) {o : Order} (hv : o.verb = 8 ∨ o.verb = 9 ∨ o.verb = 10) : DI T (T.E8 o) := by
 have hw : (T.Cs o).1.w = T.w ∧ (T.Cs o).1.b = T.b := by
  unfold Cs
  split
  ·exact T.JW o.second
  ·split
   ·exact T.JD o.second
   ·exact ⟨rfl, rfl⟩
 have g : DI T (T.Cs o).1 := h.goes.Ed hw.1 hw.2
 unfold E8
 split
 ·exact g
 ·rename_i h1
  refine g.trans (VJ g.fit ?_)
  have h1' : (T.Cs o).2.2 = true := by simpa using h1
  unfold M1
  rw [hw.1]
  unfold Cs at h1' ⊢
  split at h1'
  ·rename_i h2
   rw [if_pos h2]
   obtain ⟨a0, a9, hk, _⟩ := XT h1'
   have := of_decide_eq_true h2
   exact .inr (.inr ⟨by omega, by omega, a0, a9, hk⟩)
  ·rename_i h2
   rw [if_neg h2]
   split at h1'
   ·rename_i h3
    rw [if_pos h3]
    obtain ⟨a0, a6, _, hs⟩ := Jz h1'
    exact .inr (.inl ⟨of_decide_eq_true h3, a0, a6, (AH.HG (AH.Kw hs).2.1).2.2⟩)
   ·rename_i h3
    rw [if_neg h3]
    refine .inl ?_
    rcases hv with e | e | e
    ·exact e
    ·exact absurd (decide_eq_true e) h2
    ·exact absurd (decide_eq_true e) h3
end AF
end Go.Ing
/- What walks through a turn need. -/
namespace Go.Ing
open Go
theorem MK {α : Type} {l : List α} {k : Int} {d : α} (h0 : 0 ≤ k) (h1 : k < l.length) : l.take (k + 1).toNat = l.take k.toNat ++ [l.getD k.toNat d] := by
 obtain ⟨m, rfl⟩ := Int.eq_ofNat_of_zero_le h0
 have hm : m < l.length := by omega
 rw [show ((m : Int) + 1).toNat = m + 1 by omega, show ((m : Int)).toNat = m by omega, List.take_add_one, List.getElem?_eq_getElem hm, List.getD_eq_getElem?_getD, List.getElem?_eq_getElem hm]
 rfl
theorem AH.L3 (d : Int) : 0 ≤ AH.opposite d ∧ AH.opposite d < 6 := by
 unfold AH.opposite
 have h := Int.tmod_nonneg (a := max 0 (min d 5) + 3) 6 (by omega)
 have h2 := Int.tmod_lt_of_pos (max 0 (min d 5) + 3) (show (0 : Int) < 6 by decide)
 exact ⟨h, h2⟩
theorem Words.RP {s : Ap} : ∀ {n : Nat}, n ≤ 6 → (Words.Oo s n).2 = true → 0 ≤ (Words.Oo s n).1 ∧ (Words.Oo s n).1 < 6
 | 0, _, h => by cases h
 | n + 1, hn, h => by
  unfold Words.Oo at h ⊢
  split
  ·rename_i c
   show 0 ≤ ((5 - n : Nat) : Int) ∧ ((5 - n : Nat) : Int) < 6
   omega
  ·rename_i c
   rw [if_neg c] at h
   exact Words.RP (by omega) h
theorem Words.UK {s : Ap} (h : (Words.dir s).2 = true) : 0 ≤ (Words.dir s).1 ∧ (Words.dir s).1 < 6 := Words.RP (Nat.le_refl _) h
namespace AF
theorem YA {w : AH} {u : Ap} {l : List Int} {k : Int} (h0 : 0 ≤ k) (h1 : k < l.length) (c : (decide (u = []) || decide ((w.AO.at (l.getD k.toNat 0)).name = u)) = true) : JK w u (l.take (k + 1).toNat) = JK w u (l.take k.toNat) ++ [l.getD k.toNat 0] := by
 rw [MK (d := 0) h0 h1, JK, List.filter_append, List.filter_cons, if_pos c]; rfl
theorem YZ {w : AH} {u : Ap} {l : List Int} {k : Int} (h0 : 0 ≤ k) (h1 : k < l.length) (c : (decide (u = []) || decide ((w.AO.at (l.getD k.toNat 0)).name = u)) = false) : JK w u (l.take (k + 1).toNat) = JK w u (l.take k.toNat) := by
 rw [MK (d := 0) h0 h1, JK, List.filter_append, List.filter_cons, if_neg (by rw [c]; decide)]; simp [JK]
theorem Us (w : AH) (u : Ap) (l : List Int) : (JK w u l).length ≤ l.length := List.length_filter_le _ _
theorem KN (T : AF) : T.own.length ≤ 9 := AH.H6 _ _ _
theorem Ip (T : AF) : T.seen.length ≤ 9 := by
 unfold seen; split
 ·simp
 ·exact AH.H6 _ _ _
theorem Qf {T : AF} {i : Int} (h : i ∈ T.own ++ T.seen) : 0 ≤ i ∧ i < 9 := by
 rcases List.mem_append.1 h with h | h
 ·exact ⟨(FH h).1, (FH h).2.1⟩
 ·exact ⟨(Jn h).1, (Jn h).2.1⟩
theorem Ld {T : AF} {i : Int} (h : i ∈ T.own) : 0 ≤ i ∧ i < 9 := ⟨(FH h).1, (FH h).2.1⟩
theorem N2 {T : AF} {i : Int} (h : i ∈ T.seen) : 0 ≤ i ∧ i < 9 := ⟨(Jn h).1, (Jn h).2.1⟩
theorem Uc (T : AF) (u : Ap) : 0 ≤ (T.one u).1 ∧ (T.one u).1 < 9 := by
 by_cases h : (T.one u).2 = true
 ·exact ⟨(O4 h).1, (O4 h).2.1⟩
 ·unfold one at h ⊢
  split
  ·exact ⟨Int.le_refl _, by decide⟩
  ·rename_i h1
   rw [if_neg h1] at h
   split
   ·exact ⟨Int.le_refl _, by decide⟩
   ·rename_i h2
    rw [if_neg h2] at h
    exact absurd rfl h
theorem YG (T : AF) (u : Ap) : 0 ≤ (T.box u).2.1 ∧ (T.box u).2.1 < 9 := by
 have h := T.Uc u
 unfold box
 split
 ·exact ⟨Int.le_refl _, show (0 : Int) < 9 by decide⟩
 ·split
  ·exact ⟨Int.le_refl _, show (0 : Int) < 9 by decide⟩
  ·exact h
theorem Hw (T : AF) (u : Ap) : (T.box u).1.out.length ≤ T.out.length + 1 := by
 unfold box
 split
 ·simp
 ·split <;> simp
theorem Lz (T : AF) (u : Ap) : 0 ≤ (T.A6 u).2.1 ∧ (T.A6 u).2.1 < 6 := by
 unfold A6
 split
 ·split
  ·rename_i k hk
   have := LZ (Nat.le_refl _) hk
   exact ⟨this.1, this.2.1⟩
  ·exact ⟨Int.le_refl _, show (0 : Int) < 6 by decide⟩
 ·exact ⟨Int.le_refl _, show (0 : Int) < 6 by decide⟩
theorem G9 (T : AF) (u : Ap) : (T.A6 u).1.out.length ≤ T.out.length + 1 := by
 unfold A6
 split
 ·split <;> simp
 ·simp
theorem Xj (T : AF) (hb : 0 ≤ T.b ∧ T.b < 6) (r : Int) : ({ T.w with AN := (T.w.AN.put T.b { T.w.AN.at T.b with room := r }).put T.b { (T.w.AN.put T.b { T.w.AN.at T.b with room := r }).at T.b with B0 := 0 } } : AH) = (T.F2 r).w := by
 rw [Vector.CD hb.1 hb.2, Vector.D4]; rfl
theorem HM (T : AF) {i : Int} (h0 : 0 ≤ i) (h9 : i < 9) (wh a : Int) : ({ T.w with AO := (T.w.AO.put i { T.w.AO.at i with CW := wh }).put i { (T.w.AO.put i { T.w.AO.at i with CW := wh }).at i with at_ := a } } : AH) = (T.place i wh a).w := by
 rw [Vector.CD h0 h9, Vector.D4]; rfl
theorem Du {T : AF} {i : Int} (h0 : 0 ≤ i) (h9 : i < 9) (wh a : Int) : ((T.place i wh a).w.AO.at i).name = (T.w.AO.at i).name := by
 rw [HA h0 h9 h0, if_pos rfl]
theorem Db {T : AF} {i j : Int} (h0 : 0 ≤ i) (h9 : i < 9) (j0 : 0 ≤ j) (wh a : Int) : ((T.place i wh a).w.AO.at j).name = (T.w.AO.at j).name := by
 rw [HA h0 h9 j0]
 split
 ·rename_i e; subst e; rfl
 ·rfl
theorem VL (T : AF) {i : Int} (h0 : 0 ≤ i) (h9 : i < 9) (c : decide ((T.w.AO.at i).kind = 2) = true) : ({ T.w with AO := (((T.w.AO.put i { T.w.AO.at i with on := false }).put i { (T.w.AO.put i { T.w.AO.at i with on := false }).at i with CW := 0 }).put i { ((T.w.AO.put i { T.w.AO.at i with on := false }).put i { (T.w.AO.put i { T.w.AO.at i with on := false }).at i with CW := 0 }).at i with at_ := (T.w.AN.at T.b).room }) } : AH) = (T.Ek i).w := by
 rw [Vector.CD h0 h9, Vector.D4, Vector.CD h0 h9, Vector.D4]
 unfold Ek
 rw [if_pos c]; rfl
theorem Vy (T : AF) {i : Int} (h0 : 0 ≤ i) (h9 : i < 9) (c : decide ((T.w.AO.at i).kind = 2) = false) : ({ T.w with AO := (T.w.AO.put i { T.w.AO.at i with CW := 0 }).put i { (T.w.AO.put i { T.w.AO.at i with CW := 0 }).at i with at_ := (T.w.AN.at T.b).room } } : AH) = (T.Ek i).w := by
 rw [Vector.CD h0 h9, Vector.D4]
 unfold Ek
 rw [if_neg (by rw [c]; decide)]; rfl
theorem G8 {X : AF} {l : List Int} {k : Int} (h0 : 0 ≤ k) (h1 : k < l.length) : X.DB (l.drop k.toNat) = ((X.place (l.getD k.toNat 0) 1 X.b).Bs 3 (l.getD k.toNat 0)).DB (l.drop (k + 1).toNat) := by
 rw [NO h0 h1]; rfl
theorem L1 {X : AF} {l : List Int} {k : Int} (h0 : 0 ≤ k) (h1 : k < l.length) : X.Ca (l.drop k.toNat) = (X.Ek (l.getD k.toNat 0)).Ca (l.drop (k + 1).toNat) := by
 rw [NO h0 h1]; rfl
theorem JX {α : Type} {l : List α} : l.drop (l.length : Int).toNat = [] := by rw [show (l.length : Int).toNat = l.length by omega, List.drop_length]
theorem NW {T : AF} {k : Int} (h : 0 ≤ k) : T.DP (k + 1).toNat = if decide (((T.DP k.toNat).w.AN.at k).B0 = T.b + 1) = true then (T.DP k.toNat).Ch k 0 else T.DP k.toNat := by
 obtain ⟨m, rfl⟩ := Int.eq_ofNat_of_zero_le h
 rfl
theorem Q2 (T : AF) : ∀ k : Nat, (T.DP k).b = T.b ∧ (T.DP k).out = T.out
 | 0 => ⟨rfl, rfl⟩
 | k + 1 => by
  unfold DP; split
  ·exact Q2 T k
  ·exact Q2 T k
theorem IX : ∀ (l : List Int) (T : AF), (T.Ca l).b = T.b ∧ (T.Ca l).out = T.out
 | [], T => ⟨rfl, rfl⟩
 | i :: r, T => by rw [Ca]; exact IX r _
theorem Kp {T : AF} {name : Ap} {k n : Int} (h0 : 0 ≤ k) (h6 : k < 6) : T.IV name (6 - k).toNat n = if (decide (k = T.b) || !decide ((T.w.AN.at k).name = name) || !T.w.Il T.b k) = true then T.IV name (6 - (k + 1)).toNat n else if decide (n - 1 = 0) = true then some k else T.IV name (6 - (k + 1)).toNat (n - 1) := by
 obtain ⟨m, rfl⟩ := Int.eq_ofNat_of_zero_le h0
 have e : (6 - (m : Int)).toNat = (6 - ((m : Int) + 1)).toNat + 1 := by omega
 rw [e, IV, show (((6 - ((6 - ((m : Int) + 1)).toNat + 1) : Nat)) : Int) = (m : Int) by omega]
@[simp] theorem FV (T : AF) (k i : Int) : (T.Bs k i).out.length = T.out.length + 1 := by simp [Bs]
@[simp] theorem LN (T : AF) (k : Int) : (T.kind k).out.length = T.out.length + 1 := by simp [kind]
theorem RZ (T : AF) (b f : Int) : (T.Ch b f).b = T.b ∧ (T.Ch b f).out = T.out := ⟨rfl, rfl⟩
theorem Q1 (T : AF) : T.E4.b = T.b ∧ T.E4.out = T.out := by
 unfold E4
 rw [(RZ _ _ _).1, (RZ _ _ _).2]
 have h1 := AF.IX T.own T
 have h2 := AF.Q2 (T.Ca T.own) 6
 exact ⟨h2.1.trans h1.1, h2.2.trans h1.2⟩
theorem C9 (T : AF) (b : Int) (x : Aj) : (T.DO b x).b = T.b ∧ (T.DO b x).out = T.out ∧ (T.DO b x).w = { T.w with AN := T.w.AN.put b x } := ⟨rfl, rfl, rfl⟩
theorem Nf (T : AF) : T.Ge.b = (T.kind 18).b ∧ T.Ge.out = (T.kind 18).out ∧ T.Ge.w = { (T.kind 18).E4.w with AN := (T.kind 18).E4.w.AN.put (T.kind 18).b default } := by
 unfold Ge
 rw [(C9 _ _ _).1, (C9 _ _ _).2.1, (C9 _ _ _).2.2]
 exact ⟨(Q1 _).1, (Q1 _).2, rfl⟩
theorem SW {l : List Int} (h : ∀ i ∈ l, 0 ≤ i ∧ i < 9) : 0 ≤ l.getD (0 : Int).toNat 0 ∧ l.getD (0 : Int).toNat 0 < 9 := by
 cases l with
 | nil => exact ⟨Int.le_refl _, show (0 : Int) < 9 by decide⟩
 | cons x r => exact h x (List.mem_cons_self ..)
theorem NT (T : AF) (v to i : Int) : (T.Cn v to i).out.length ≤ T.out.length + 1 := by
 unfold Cn
 split
 ·simp
 ·split
  ·rw [FV]; exact Nat.le_refl _
  ·split
   ·rw [Cb]; exact Nat.le_refl _
   ·split
    ·simp
    ·rw [Cb]; exact Nat.le_refl _
theorem WZ (T : AF) (v to i : Int) : (T.Cn v to i).b = T.b := by
 unfold Cn
 split
 ·rfl
 ·split
  ·rfl
  ·split
   ·rfl
   ·split <;> rfl
theorem P5 (T : AF) (o : Order) : (T.Cs o).1.out.length ≤ T.out.length + 1 := by
 unfold Cs
 split
 ·exact T.Hw _
 ·split
  ·exact T.G9 _
  ·exact Nat.le_succ _
theorem Vt {X : AH} {b : Int} (hw : X.DE) (c1 : (!X.Bg) = false) (c2 : (decide (b < 0) || decide (6 ≤ b) || !(X.AN.at b).here) = false) : Fit ⟨X, b, []⟩ := by
 simp only [Bool.or_eq_false_iff, decide_eq_false_iff_not, Bool.not_eq_false'] at c1 c2
 exact ⟨⟨by show 0 ≤ b; omega, by show b < 6; omega⟩, hw, c1, c2.2⟩
end AF
end Go.Ing
/- Engine: texts deep within what came in, as parts of its reading. -/
namespace Go.Ing
open Go
section
open Go.RowKit Go.ChangeShapes Go.WideShapes Go.ChangeAt
variable {H : Type} {enc : TypeId × Value → H} {P : Program} {w : World}
end
end Go.Ing
/- Laws of what beings do: doors; that rules answer at all. -/
namespace Go.Ing
open Go
theorem Vector.Oy {α : Type} [Inhabited α] {n : Nat} (v : Vector α n) (i : Int) : v.at i = default ∨ ∃ j : Int, 0 ≤ j ∧ j < n ∧ v.at i = v.at j := by
 by_cases h : i.toNat < n
 ·exact .inr ⟨(i.toNat : Int), by omega, by omega, by unfold Vector.at; rw [show ((i.toNat : Nat) : Int).toNat = i.toNat by omega]⟩
 ·refine .inl ?_
  unfold Vector.at
  rw [List.getD_eq_getElem?_getD, List.getElem?_eq_none (by simp; omega)]
  rfl
namespace AF
structure Xc (X : AH) (b : Int) (o : Order) : Prop where
 gd : X.Bg = true
 br : 0 ≤ b ∧ b < 6
 here : (X.AN.at b).here = true
 v : 0 ≤ o.verb ∧ o.verb ≤ 20
 w : (D8 X b o).1 = (AF.act ⟨X, b, []⟩ o).w
 out : (D8 X b o).2.1 = (AF.act ⟨X, b, []⟩ o).out
theorem ao {X : AH} {b : Int} {o : Order} (h : (D8 X b o).2.2 = 0) : Xc X b o := by
 unfold D8 at h
 split at h
 ·cases h
 ·rename_i h1
  split at h
  ·cases h
  ·rename_i h2
   split at h
   ·cases h
   ·rename_i h3
    have h2' := h2
    have h3' := h3
    have hd : D8 X b o = ((AF.act ⟨X, b, []⟩ o).w, (AF.act ⟨X, b, []⟩ o).out, 0) := (if_neg h1).trans ((if_neg h2).trans (if_neg h3))
    simp only [Bool.or_eq_true, decide_eq_true_eq, Bool.not_eq_true', not_or, Bool.not_eq_false] at h1 h2' h3'
    exact ⟨h1, ⟨by omega, by omega⟩, h2'.2, ⟨by omega, by omega⟩, by rw [hd], by rw [hd]⟩
theorem Xc.fit {X : AH} {b : Int} {o : Order} (h : Xc X b o) (hw : X.DE) : Fit ⟨X, b, []⟩ := ⟨h.br, hw, h.gd, h.here⟩
end AF
end Go.Ing
/- What beings do keeps the land good: all orders. -/
namespace Go.Ing
open Go
namespace AF
theorem Ho {T : AF} (h : T.Fit) {c f : Int} (c0 : 0 ≤ c) (c6 : c < 6) (f0 : 0 ≤ f) (f6 : f ≤ 6) (hh : f ≠ 0 → (T.w.AN.at c).here = true) : DI T (T.Ch c f) := by
 have hg := AH.FK h.gd c0 c6
 have hb : ∀ a, 0 ≤ a → ((T.Ch c f).w.AN.at a).here = (T.w.AN.at a).here := fun a a0 => by
  show ((T.w.AN.put c { T.w.AN.at c with B0 := f }).at a).here = _
  rw [IF _ _ _ _ c0 c6 a0]
  split
  ·rename_i e; subst e; rfl
  ·rfl
 refine ⟨rfl, ⟨h.b, Eh h.br (h.br.be c), AH.Ii h.gd c0 c6 ?_ fun i i0 i9 hw ha => ?_, (hb T.b h.b.1).trans h.here⟩, MX c0 c6 fun _ => rfl⟩
 ·unfold AH.Df at hg ⊢
  simp only [Bool.or_eq_false_iff, decide_eq_false_iff_not, Bool.and_eq_false_iff, Bool.not_eq_false'] at hg ⊢
  obtain ⟨⟨⟨⟨⟨⟨⟨q1, q2⟩, q3⟩, q4⟩, q5⟩, q6⟩, q7⟩, q8⟩ := hg
  refine ⟨⟨⟨⟨⟨⟨⟨q1, q2⟩, q3⟩, q4⟩, by omega⟩, by omega⟩, ?_⟩, q8⟩
  by_cases e : f = 0
  ·exact .inr (by simp [e])
  ·exact .inl (hh e)
 ·show (T.w.AN.at c).here = true
  have := AH.HL h.gd i0 i9
  rcases this.CW with ⟨a, _⟩ | ⟨_, _, a⟩ | ⟨a, _⟩
  ·omega
  ·rw [ha] at a; exact a
  ·omega
theorem Si {T : AF} (h : T.Fit) (o : Order) : DI T (T.E0 o) := by
 unfold E0
 generalize (if (!decide (o.nth = 1) || o.Bj) = true then [] else o.name) = nm
 have hw := T.JD nm
 have g : DI T (T.A6 nm).1 := h.goes.Ed hw.1 hw.2
 split
 ·exact g
 ·rename_i h1
  have hs := Jz (T := T) (u := nm) (by simpa using h1)
  have hk : (T.w.AN.at (T.A6 nm).2.1).here = true := (AH.HG (AH.Kw hs.2.2.2).2.1).2.2
  have hgb := g.fit.b
  have g1 := g.trans (Ho g.fit (c := (T.A6 nm).1.b) (f := (T.A6 nm).2.1 + 1) g.fit.b.1 g.fit.b.2 (by omega) (by omega) fun _ => g.fit.here)
  have key : DI T (if decide ((((T.A6 nm).1.Ch (T.A6 nm).1.b ((T.A6 nm).2.1 + 1)).w.AN.at (T.A6 nm).2.1).B0 = 0) = true then ((T.A6 nm).1.Ch (T.A6 nm).1.b ((T.A6 nm).2.1 + 1)).Ch (T.A6 nm).2.1 ((T.A6 nm).1.b + 1) else (T.A6 nm).1.Ch (T.A6 nm).1.b ((T.A6 nm).2.1 + 1)) := by
   split
   ·refine g1.trans (Ho g1.fit hs.1 hs.2.1 (by omega) (by omega) fun _ => ?_)
    show (((T.A6 nm).1.w.AN.put (T.A6 nm).1.b _).at _).here = true
    rw [IF _ _ _ _ g.fit.b.1 g.fit.b.2 hs.1, if_neg (by rw [hw.2]; exact hs.2.2.1), hw.1]
    exact hk
   ·exact g1
  exact key.Ed rfl rfl
theorem Mk {T : AF} (h : T.Fit) {first : Bool} {i : Int} {v : Bool} {ev : Int} (hm : Ij T.w T.b i) (h1 : (T.w.AO.at i).kind ≠ 0) (h2 : (T.w.AO.at i).kind = 2 → (T.w.AO.at i).CW = 1) : DI T (T.before first i v ev) := by
 unfold before
 split
 ·have g := ET h hm (t := { T.w.AO.at i with on := v }) rfl rfl (AH.UP h.gd hm.1 hm.2.1 h1 h2)
  exact g.Ed rfl rfl
 ·have g : DI T (T.Bs ev i) := h.goes.Ed rfl rfl
  exact g.trans (ET g.fit hm rfl rfl (AH.UP h.gd hm.1 hm.2.1 h1 h2))
theorem Lu {T : AF} (h : T.Fit) {r d : Int} {v : Bool} (r0 : 0 ≤ r) (r6 : r < 6) (d0 : 0 ≤ d) (d6 : d < 6) (hv : v = true → (T.w.BQ.at r).CM.at d ≠ 0) : DI T (T.C4 r d v) :=
 ⟨rfl, ⟨h.b, Sr h.br, AH.Vh h.gd r0 r6 d0 d6 hv, h.here⟩, V7 r0 r6⟩
theorem Ve {T : AF} (h : T.Fit) {d : Int} {on : Bool} {ev : Int} (d0 : 0 ≤ d) (d6 : d < 6) : DI T (T.Gz d on ev) := by
 have hx := h.exit d0 d6
 have hr := h.room
 unfold Gz
 split
 ·exact h.goes.Ed rfl rfl
 ·rename_i h1
  split
  ·exact h.goes.Ed rfl rfl
  ·have h1' : ¬ (T.w.BQ.at (T.w.AN.at T.b).room).CM.at d - 1 < 0 := fun e => h1 (decide_eq_true e)
   have g1 := Lu h (v := !on) hr.1 hr.2 d0 d6 fun _ => by omega
   have ho := AH.L3 d
   have key : DI T (if decide (((T.C4 T.me.room d (!on)).w.BQ.at ((T.w.BQ.at T.me.room).CM.at d - 1)).CM.at (AH.opposite d) = T.me.room + 1) = true then (T.C4 T.me.room d (!on)).C4 ((T.w.BQ.at T.me.room).CM.at d - 1) (AH.opposite d) (!on) else T.C4 T.me.room d (!on)) := by
    split
    ·rename_i h3
     refine g1.trans (Lu g1.fit (v := !on) (r := (T.w.BQ.at (T.w.AN.at T.b).room).CM.at d - 1) (d := AH.opposite d) (by omega) (by omega) ho.1 ho.2 fun _ => ?_)
     have h3' := of_decide_eq_true h3
     intro e
     have h3'' : ((T.C4 T.me.room d (!on)).w.BQ.at ((T.w.BQ.at (T.w.AN.at T.b).room).CM.at d - 1)).CM.at (AH.opposite d) = (T.w.AN.at T.b).room + 1 := h3'
     have e' : ((T.C4 T.me.room d (!on)).w.BQ.at ((T.w.BQ.at (T.w.AN.at T.b).room).CM.at d - 1)).CM.at (AH.opposite d) = 0 := e
     omega
    ·exact g1
   exact key.Ed rfl rfl
theorem SJ {v : Int} : setKind v = 1 ∨ setKind v = 2 ∨ setKind v = 3 := by
 unfold setKind
 split
 ·exact .inl rfl
 ·split
  ·exact .inr (.inl rfl)
  ·exact .inr (.inr rfl)
theorem WQ {T : AF} (h : T.Fit) (o : Order) : DI T (T.set o) := by
 unfold set
 split
 ·rename_i h1
  have := Words.UK (Bool.and_eq_true_iff.1 h1).1
  exact Ve h this.1 this.2
 ·split
  ·exact h.goes.Ed rfl rfl
  ·rename_i h2
   split
   ·exact h.goes.Ed rfl rfl
   ·simp only [Bool.or_eq_true, decide_eq_true_eq, Bool.not_eq_true', decide_eq_false_iff_not, not_or, Decidable.not_not] at h2
    have hm : (T.EO o).getD 0 0 ∈ T.EO o := OD (decide_eq_false h2.1)
    have hm2 := Dn hm
    have hk := SJ (v := o.verb)
    have hmine : Ij T.w T.b ((T.EO o).getD 0 0) ∧ (setKind o.verb = 2 → (T.w.AO.at ((T.EO o).getD 0 0)).CW = 1) := by
     split at hm2
     ·rename_i h3
      have h3' := of_decide_eq_true h3
      rcases List.mem_append.1 hm2 with hq | hq
      ·exact ⟨(FH hq).S7, fun e => by omega⟩
      ·exact ⟨MN hq, fun e => by omega⟩
     ·exact ⟨(FH hm2).S7, fun _ => (FH hm2).2.2.1⟩
    have hk0 : (T.w.AO.at ((T.EO o).getD 0 0)).kind ≠ 0 := by rw [h2.2]; omega
    have hk2 : (T.w.AO.at ((T.EO o).getD 0 0)).kind = 2 → (T.w.AO.at ((T.EO o).getD 0 0)).CW = 1 := fun e => hmine.2 (by rw [← h2.2]; exact e)
    split
    ·exact Mk h hmine.1 hk0 hk2
    ·exact Mk h hmine.1 hk0 hk2
theorem Je {T : AF} {i j : Int} (h0 : 0 ≤ i) (h9 : i < 9) (j0 : 0 ≤ j) : (T.Ek i).w.AO.at j = if j = i then { T.w.AO.at i with on := if decide ((T.w.AO.at i).kind = 2) = true then false else (T.w.AO.at i).on, CW := 0, at_ := T.me.room } else T.w.AO.at j := IF _ _ _ _ h0 h9 j0
theorem Qj {T : AF} (h : T.Fit) {i : Int} (hm : Ij T.w T.b i) : DI T (T.Ek i) :=
 ET h hm rfl rfl (AH.Mh h.gd hm.1 hm.2.1 h.room (fun e => by rw [if_neg (by rw [e]; decide)]; exact (AH.HL h.gd hm.1 hm.2.1).plain e) (fun ⟨e1, e2⟩ => by rw [if_pos (decide_eq_true e1)] at e2; cases e2))
theorem Iv : ∀ {l : List Int} {T : AF}, T.Fit → (∀ i ∈ l, Ij T.w T.b i) → DI T (T.Ca l) ∧ ∀ j, 0 ≤ j → j < 9 → (((T.Ca l).w.AO.at j).CW = 0 ∨ (j ∉ l ∧ (T.Ca l).w.AO.at j = T.w.AO.at j))
 | [], T, h, _ => ⟨h.goes, fun j _ _ => .inr ⟨by simp, rfl⟩⟩
 | i :: r, T, h, hm => by
  have hi := hm i (List.mem_cons_self ..)
  have g1 := Qj h hi
  obtain ⟨g2, k2⟩ := Iv (l := r) g1.fit fun j hj => by
   have hj' := hm j (List.mem_cons_of_mem _ hj)
   refine ⟨hj'.1, hj'.2.1, ?_⟩
   rw [Je hi.1 hi.2.1 hj'.1]
   split
   ·intro e; cases e
   ·exact hj'.2.2
  refine ⟨g1.trans g2, fun j j0 j9 => ?_⟩
  rcases k2 j j0 j9 with e | ⟨e1, e2⟩
  ·exact .inl e
  ·have hd := Je (T := T) hi.1 hi.2.1 j0
   by_cases hji : j = i
   ·rw [if_pos hji] at hd
    exact .inl (by rw [show (T.Ca (i :: r)).w.AO.at j = _ from e2, hd])
   ·rw [if_neg hji] at hd
    exact .inr ⟨by simp [hji, e1], e2.trans hd⟩
theorem Kg {T : AF} (h : T.Fit) : ∀ {k : Nat}, k ≤ 6 → DI T (T.DP k) ∧ (T.DP k).w.AO = T.w.AO
 | 0, _ => ⟨h.goes, rfl⟩
 | k + 1, hk => by
  obtain ⟨g, e⟩ := Kg (k := k) h (by omega)
  unfold DP
  split
  ·exact ⟨g.trans (Ho g.fit (by omega) (by omega) (Int.le_refl _) (by decide) fun e => absurd rfl e), e⟩
  ·exact ⟨g, e⟩
theorem L0 (T : AF) : T.E4 = ((T.Ca T.own).DP 6).Ch T.b 0 := by unfold E4; rfl
theorem Ye {T : AF} (h : T.Fit) : DI T T.E4 := by
 have g1 := (Iv h (l := T.own) fun i hi => (FH hi).S7).1
 have g2 := (Kg g1.fit (k := 6) (Nat.le_refl _)).1
 have g3 := g1.trans g2
 have g4 := Ho g3.fit (c := T.b) (f := 0) h.b.1 h.b.2 (Int.le_refl _) (by decide) (fun e => (e rfl).elim)
 rw [L0]
 exact g3.trans g4
theorem PG (T : AF) (b f : Int) : (T.Ch b f).w.AO = T.w.AO := rfl
theorem SL {T : AF} (h : T.Fit) {j : Int} (j0 : 0 ≤ j) (j9 : j < 9) : ¬ ((T.E4.w.AO.at j).CW = 1 ∧ (T.E4.w.AO.at j).at_ = T.b) := by
 obtain ⟨g1, k1⟩ := Iv h (l := T.own) fun i hi => (FH hi).S7
 have k2 := (Kg g1.fit (k := 6) (Nat.le_refl _)).2
 rw [L0, PG, k2]
 rcases k1 j j0 j9 with e | ⟨e1, e2⟩
 ·rw [e]; exact fun h => by cases h.1
 ·rw [e2]
  intro ⟨a, b⟩
  refine e1 ?_
  unfold own AH.has
  exact List.mem_filter.2 ⟨List.mem_map.2 ⟨j.toNat, List.mem_range.2 (by omega), by show ((j.toNat : Nat) : Int) = j; omega⟩, by rw [a, b]; simp⟩
theorem Pq {T : AF} (h : T.Fit) : DI T T.E4 ∧ ∀ j, 0 ≤ j → j < 9 → ¬ ((T.E4.w.AO.at j).CW = 1 ∧ (T.E4.w.AO.at j).at_ = T.b) := ⟨Ye h, fun _ j0 j9 => SL h j0 j9⟩
theorem Td {T : AF} (h : T.Fit) : T.Ge.w.Bg = true ∧ Step T.b T.w T.Ge.w := by
 have g1 : DI T (T.kind 18) := h.goes.Ed rfl rfl
 obtain ⟨g2, k⟩ := Pq g1.fit
 have g := g1.trans g2
 rw [(T.Nf).2.2]
 exact ⟨AH.Ii (X := (T.kind 18).E4.w) g.fit.gd h.b.1 h.b.2 (by decide) fun i i0 i9 e1 e2 => absurd ⟨e1, e2⟩ (k i i0 i9), g.st.trans (MX h.b.1 h.b.2 fun e => absurd rfl e)⟩
theorem VX {T : AF} (h : T.Fit) (o : Order) (h0 : 0 ≤ o.verb) (h1 : o.verb ≤ 20) : (T.act o).w.Bg = true ∧ Step T.b T.w (T.act o).w := by
 have k : ∀ {T' : AF}, DI T T' → T'.w.Bg = true ∧ Step T.b T.w T'.w := fun g => ⟨g.fit.gd, g.st⟩
 unfold act
 split
 ·rename_i c; exact k (V8 h h0 (of_decide_eq_true c))
 ·split
  ·exact k (Pd h)
  ·split
   ·exact k (h.goes.Ed (T.HO _ _).1 (T.HO _ _).2.1)
   ·split
    ·exact k (h.goes.Ed rfl rfl)
    ·split
     ·exact Td h
     ·split
      ·exact k (Si h o)
      ·split
       ·exact k (Xa h o)
       ·split
        ·rename_i c
         simp only [Bool.or_eq_true, decide_eq_true_eq] at c
         exact k (TY h (by omega))
        ·exact k (WQ h o)
theorem keeps {X : AH} {b : Int} {o : Order} (hw : X.DE) (h : (D8 X b o).2.2 = 0) : (D8 X b o).1.Bg = true ∧ Step b X (D8 X b o).1 := by
 have k := ao h
 rw [k.w]
 exact VX (k.fit hw) o k.v.1 k.v.2
end AF
end Go.Ing
