/- What the functions that the law of this seat reaches compute, and the plain laws of it. No condition. -/
import Derived.Test.YtoidpggbbfncpaaGreatDoorTopThingsEc3
import Derived.Test.YtoidpggbbfncpaaGreatDoorTopThingsRa1
set_option linter.unusedSimpArgs false
set_option linter.unusedVariables false
/- What people type: plain functions, and what is known of pieces. -/
namespace Go.Ing
open Go
namespace Words
theorem LQ (c : UInt8) : ∀ s : Ap, (Lib.indexByte s c = -1 ∧ c ∉ s) ∨ ∃ i : Nat, Lib.indexByte s c = i ∧ i < s.length ∧ c ∉ s.take i ∧ s.drop i = c :: s.drop (i + 1)
 | [] => .inl ⟨rfl, by simp⟩
 | b :: r => by
  by_cases h : b = c
  ·subst h
   exact .inr ⟨0, by simp [Lib.indexByte], by simp, by simp, by simp⟩
  ·have hb : (b == c) = false := by simpa using h
   rcases LQ c r with ⟨h1, h2⟩ | ⟨i, h1, h2, h3, h4⟩
   ·exact .inl ⟨by simp [Lib.indexByte, hb, h1], by simp [Ne.symm h, h2]⟩
   ·refine .inr ⟨i + 1, ?_, by simp; omega, ?_, by simpa using h4⟩
    ·have : ((i : Int) == -1) = false := by simp
     simp [Lib.indexByte, hb, h1, this]
    ·simp [Ne.symm h, h3]
def pieces (c : UInt8) : Ap → List Ap
 | [] => [[]]
 | x :: r => if x = c then [] :: pieces c r else (x :: (pieces c r).headD []) :: (pieces c r).tail
theorem P6 (c : UInt8) (s : Ap) : pieces c s ≠ [] := by
 cases s with
 | nil => simp [pieces]
 | cons x r => unfold pieces; split <;> simp
theorem Kb {c : UInt8} : ∀ {s : Ap}, c ∉ s → pieces c s = [s]
 | [], _ => rfl
 | x :: r, h => by
  simp only [List.mem_cons, not_or] at h
  rw [pieces, if_neg (Ne.symm h.1), Kb h.2]; rfl
theorem L2 {c : UInt8} (r : Ap) : ∀ {a : Ap}, c ∉ a → pieces c (a ++ c :: r) = a :: pieces c r
 | [], _ => by simp [pieces]
 | x :: a, h => by
  simp only [List.mem_cons, not_or] at h
  rw [List.cons_append, pieces, if_neg (Ne.symm h.1), L2 r h.2]; rfl
theorem FF (c : UInt8) : ∀ s : Ap, (pieces c s).length = s.count c + 1
 | [] => rfl
 | x :: r => by
  unfold pieces
  have ih := FF c r
  have hne := P6 c r
  split
  ·rename_i h; simp [h, ih]
  ·rename_i h
   have : (x == c) = false := by simpa using h
   rw [List.count_cons, this]
   obtain ⟨p, q, hp⟩ := List.exists_cons_of_ne_nil hne
   rw [hp] at ih ⊢
   simpa using ih
theorem S9 {c : UInt8} {s : Ap} {i : Nat} (h3 : c ∉ s.take i) (h4 : s.drop i = c :: s.drop (i + 1)) : pieces c s = s.take i :: pieces c (s.drop (i + 1)) := by
 conv => lhs; rw [← List.take_append_drop i s, h4]
 exact L2 _ h3
/-! #### small letters -/
def VK (c : UInt8) : UInt8 := if (decide (65 ≤ (c.toNat : Int)) && decide ((c.toNat : Int) ≤ 90)) = true then u8 ((c.toNat : Int) + 97 - 65) else c
def low (w : Ap) : Ap := w.map VK
def words (s : Ap) : List Ap := ((pieces 32 s).filter fun w => !decide (w = [])).map low
theorem X5 {c : UInt8} (h : (decide (65 ≤ (c.toNat : Int)) && decide ((c.toNat : Int) ≤ 90)) = true) : u8 ((c.toNat : Int) + 97 - 65) = VK c := (if_pos h).symm
theorem YC {c : UInt8} (h : (decide (65 ≤ (c.toNat : Int)) && decide ((c.toNat : Int) ≤ 90)) = false) : VK c = c := if_neg (by rw [h]; decide)
def Hf (w : Ap) (k : Nat) : Ap := (w.take k).map VK ++ w.drop k
theorem N4 (w : Ap) (k : Nat) : (Hf w k).length = w.length := by simp [Hf]; omega
theorem Tv {w : Ap} {k : Int} (h0 : 0 ≤ k) (h1 : k < w.length) : (Hf w k.toNat).getD k.toNat 0 = w.getD k.toNat 0 := by
 have hk : k.toNat < w.length := by omega
 unfold Hf
 rw [List.getD_eq_getElem?_getD, List.getElem?_append_right (by simp; omega)]
 simp [List.getD_eq_getElem?_getD, Nat.min_eq_left (Nat.le_of_lt hk)]
theorem XG (w : Ap) : Hf w w.length = low w := by simp [Hf, low]
theorem RO {w : Ap} {k : Int} (h0 : 0 ≤ k) (h1 : k < w.length) : (Hf w k.toNat).set k.toNat (VK (w.getD k.toNat 0)) = Hf w (k + 1).toNat := by
 obtain ⟨n, rfl⟩ := Int.eq_ofNat_of_zero_le h0
 have hn : n < w.length := by omega
 rw [show ((n : Int)).toNat = n by omega, show ((n : Int) + 1).toNat = n + 1 by omega]
 unfold Hf
 rw [List.drop_eq_getElem_cons hn, List.set_append_right _ _ (by simp; omega)]
 simp only [List.length_map, List.length_take, Nat.min_eq_left (Nat.le_of_lt hn), Nat.sub_self, List.set_cons_zero]
 rw [List.take_add_one, List.map_append, List.append_assoc]
 simp [List.getD_eq_getElem?_getD, hn]
theorem U3 {w : Ap} {k : Int} (h0 : 0 ≤ k) (h1 : k < w.length) (h : VK (w.getD k.toNat 0) = w.getD k.toNat 0) : Hf w k.toNat = Hf w (k + 1).toNat := by
 rw [← RO h0 h1, h]
 have hk : k.toNat < (Hf w k.toNat).length := by rw [N4]; omega
 have e := Tv h0 h1
 rw [← e, List.getD_eq_getElem?_getD, List.getElem?_eq_getElem hk]
 simp
structure Oq (c : UInt8) (s : Ap) (i : Int) (r : Ap) (xs : List Ap) : Prop where
 i0 : 0 ≤ i
 i1 : i ≤ s.count c
 len : xs.length = s.count c + 1
 eq : pieces c s = xs.take i.toNat ++ pieces c r
 rl : r.length ≤ s.length
theorem Oq.start (c : UInt8) (s : Ap) (n : Nat) (hn : n = s.count c + 1) : Oq c s 0 s (List.replicate n []) :=
 ⟨Int.le_refl _, by omega, by simp [hn], by simp, Nat.le_refl _⟩
theorem Oq.left {c : UInt8} {s : Ap} {i : Int} {r : Ap} {xs : List Ap} (h : Oq c s i r xs) : (r.count c : Int) = s.count c - i := by
 have := congrArg List.length h.eq
 rw [List.length_append, FF, FF, List.length_take, h.len] at this
 have h1 := h.i0; have h2 := h.i1
 omega
theorem Oq.next {c : UInt8} {s : Ap} {i : Int} {r : Ap} {xs : List Ap} (h : Oq c s i r xs) {m : Int} (hm : Lib.indexByte r c = m) (h0 : ¬ m < 0) : 0 ≤ m ∧ m < r.length ∧ Oq c s (i + 1) (r.drop (m + 1).toNat) (xs.set i.toNat (r.take m.toNat)) := by
 have hi := h.i0
 rcases LQ c r with ⟨e, _⟩ | ⟨j, e, h1, h2, h3⟩
 ·omega
 ·obtain rfl : m = j := by omega
  have hl := h.left
  have hp := S9 h2 h3
  have hc : (pieces c r).length = (pieces c (r.drop (j + 1))).length + 1 := by rw [hp]; simp
  rw [FF, FF] at hc
  have hx := h.len
  refine ⟨by omega, by omega, by omega, by omega, by simp [hx], ?_, by simp; have := h.rl; omega⟩
  rw [h.eq, hp, show (i + 1).toNat = i.toNat + 1 by omega, show ((j : Int) + 1).toNat = j + 1 by omega, show ((j : Int)).toNat = j by omega, List.take_add_one, List.getElem?_set_self (by omega), List.take_set_of_le (by omega)]
  simp
theorem Oq.done {c : UInt8} {s : Ap} {i : Int} {r : Ap} {xs : List Ap} (h : Oq c s i r xs) (he : ¬ i < (s.count c : Int) ∨ Lib.indexByte r c < 0) : i = s.count c ∧ (xs.set i.toNat r).take (i + 1).toNat = pieces c s := by
 have hi := h.i0; have hi1 := h.i1; have hl := h.left; have hx := h.len
 have hc : c ∉ r := by
  rcases he with he | he
  ·intro hm; have := List.count_pos_iff.2 hm; omega
  ·rcases LQ c r with ⟨_, h2⟩ | ⟨j, e, _⟩
   ·exact h2
   ·omega
 have h0 : r.count c = 0 := List.count_eq_zero.2 hc
 refine ⟨by omega, ?_⟩
 rw [h.eq, Kb hc, show (i + 1).toNat = i.toNat + 1 by omega, List.take_add_one, List.getElem?_set_self (by omega), List.take_set_of_le (by omega)]
 rfl
theorem IE {c : UInt8} : ∀ {s : Ap} {p : Ap}, p ∈ pieces c s → p.length ≤ s.length
 | [], p, h => by simp [pieces] at h; simp [h]
 | x :: r, p, h => by
  unfold pieces at h
  obtain ⟨q, t, hq⟩ := List.exists_cons_of_ne_nil (P6 c r)
  have ih := @IE c r
  rw [hq] at h ih
  split at h
  ·rcases List.mem_cons.1 h with h | h
   ·simp [h]
   ·have := ih h; simp; omega
  ·simp only [List.headD_cons, List.tail_cons] at h
   rcases List.mem_cons.1 h with h | h
   ·have := ih (p := q) (by simp); rw [h]; simp; omega
   ·have := ih (p := p) (by simp [h]); simp; omega
theorem Us {c : UInt8} {s : Ap} (i : Nat) : ((pieces c s).getD i []).length ≤ s.length := by
 rw [List.getD_eq_getElem?_getD]
 cases h : (pieces c s)[i]? with
 | none => simp
 | some p => exact IE (List.mem_of_getElem? h)
def It (s : Ap) (k : Nat) : List Ap := (((pieces 32 s).take k).filter fun w => !decide (w = [])).map low
theorem Ov (s : Ap) : words s = It s ((pieces 32 s).length : Int).toNat := by
 rw [It, show ((pieces 32 s).length : Int).toNat = (pieces 32 s).length by omega, List.take_length]; rfl
theorem Pl {α : Type} {xs : List α} {d : α} {k : Int} (h0 : 0 ≤ k) (h1 : k < xs.length) : xs.take (k + 1).toNat = xs.take k.toNat ++ [xs.getD k.toNat d] := by
 have hk : k.toNat < xs.length := by omega
 rw [show (k + 1).toNat = k.toNat + 1 by omega, List.take_add_one, List.getD_eq_getElem?_getD, List.getElem?_eq_getElem hk]
 rfl
theorem WK {s : Ap} {k : Int} (h0 : 0 ≤ k) (h1 : k < (pieces 32 s).length) (h : (!decide ((pieces 32 s).getD k.toNat [] = [])) = true) : It s (k + 1).toNat = It s k.toNat ++ [low ((pieces 32 s).getD k.toNat [])] := by
 unfold It
 rw [Pl (d := []) h0 h1, List.filter_append, List.map_append]
 congr 1
 rw [List.filter_cons_of_pos (p := fun w : Ap => !decide (w = [])) h]; rfl
theorem WS {s : Ap} {k : Int} (h0 : 0 ≤ k) (h1 : k < (pieces 32 s).length) (h : (!decide ((pieces 32 s).getD k.toNat [] = [])) = false) : It s (k + 1).toNat = It s k.toNat := by
 unfold It
 rw [Pl (d := []) h0 h1, List.filter_append, List.map_append, List.filter_cons_of_neg (p := fun w : Ap => !decide (w = [])) (by rw [h]; decide)]
 simp
/-! #### verbs -/
def pre (s p : Ap) : Bool := decide ((p.length : Int) ≤ (s.length : Int)) && decide (s.take p.length = p)
def JO (w : Ap) : Nat → Int × Int
 | 0 => (0, 3)
 | n + 1 => if pre (AG.GS.getD (20 - n) []) w = true then (((20 - n : Nat) : Int), 0) else JO w n
def verb (w : Ap) : Int × Int := if (!decide (w = [])) = true then JO w 21 else (0, 3)
theorem Sm {w : Ap} {k : Int} (h0 : 0 ≤ k) (h1 : k < 21) : JO w (21 - k).toNat = if pre (AG.GS.getD k.toNat []) w = true then (k, 0) else JO w (21 - (k + 1)).toNat := by
 rw [show (21 - k).toNat = (21 - (k + 1)).toNat + 1 by omega, JO, show 20 - (21 - (k + 1)).toNat = k.toNat by omega, show ((k.toNat : Nat) : Int) = k by omega]
def ZJ : Vector Ap 21 := ⟨AG.GS.toArray, rfl⟩
theorem TT : CE A7 ZJ = AG.DD := by kernel_rfl
/-! #### cutting and trimming -/
def Mq (s p : Ap) : Ap × Bool := if (!pre s p) = true then (s, false) else (s.drop p.length, true)
def cut (c : UInt8) (s : Ap) : Ap × Ap × Bool := if decide (0 ≤ Lib.indexByte s c) = true then (s.take (Lib.indexByte s c).toNat, s.drop (Lib.indexByte s c + 1).toNat, true) else (s, [], false)
theorem Zp {c : UInt8} {s : Ap} (h : 0 ≤ Lib.indexByte s c) : Lib.indexByte s c < s.length := by
 rcases LQ c s with ⟨e, _⟩ | ⟨i, e, h1, _⟩ <;> omega
theorem ND (c : UInt8) (s : Ap) : (cut c s).1.length ≤ s.length ∧ (cut c s).2.1.length ≤ s.length := by
 unfold cut; split <;> simp; omega
def P5 (c : UInt8) (s : Ap) : Ap := s.dropWhile (·== c)
def Re (c : UInt8) (s : Ap) : Ap := (s.reverse.dropWhile (·== c)).reverse
theorem Y5 {x c : UInt8} (h : (x.toNat : Int) = (c.toNat : Int)) : x = c := UInt8.toNat_inj.1 (by omega)
theorem bd {c : UInt8} {r : Ap} (h : (decide ((0 : Int) < (r.length : Int)) && decide (((r.getD (0 : Int).toNat 0).toNat : Int) = (c.toNat : Int))) = true) : P5 c r = P5 c (r.drop 1) := by
 cases r with
 | nil => simp at h
 | cons x r =>
  simp only [Bool.and_eq_true, decide_eq_true_eq] at h
  have : x = c := Y5 h.2
  subst this
  simp [P5]
theorem aU {c : UInt8} {r : Ap} (h : (decide ((0 : Int) < (r.length : Int)) && decide (((r.getD (0 : Int).toNat 0).toNat : Int) = (c.toNat : Int))) = false) : P5 c r = r := by
 cases r with
 | nil => rfl
 | cons x r =>
  have hx : (x == c) = false := by
   rw [Bool.eq_false_iff]
   intro e
   have : x = c := by simpa using e
   subst this
   simp at h
  simp [P5, hx]
theorem aW {c : UInt8} {r : Ap} (h : (decide ((0 : Int) < (r.length : Int)) && decide (((r.getD ((r.length : Int) - 1).toNat 0).toNat : Int) = (c.toNat : Int))) = true) : Re c r = Re c (r.take ((r.length : Int) - 1).toNat) := by
 simp only [Bool.and_eq_true, decide_eq_true_eq] at h
 have hne : r ≠ [] := by rintro rfl; simp at h
 obtain ⟨q, x, rfl⟩ : ∃ q x, r = q ++ [x] := ⟨r.dropLast, r.getLast hne, (List.dropLast_concat_getLast hne).symm⟩
 have e : (((q ++ [x]).length : Int) - 1).toNat = q.length := by simp
 rw [e] at h ⊢
 have : x = c := Y5 (by simpa [List.getD_eq_getElem?_getD] using h.2)
 subst this
 simp [Re]
theorem aV {c : UInt8} {r : Ap} (h : (decide ((0 : Int) < (r.length : Int)) && decide (((r.getD ((r.length : Int) - 1).toNat 0).toNat : Int) = (c.toNat : Int))) = false) : Re c r = r := by
 by_cases hne : r = []
 ·subst hne; rfl
 ·obtain ⟨q, x, rfl⟩ : ∃ q x, r = q ++ [x] := ⟨r.dropLast, r.getLast hne, (List.dropLast_concat_getLast hne).symm⟩
  have e : (((q ++ [x]).length : Int) - 1).toNat = q.length := by simp
  rw [e] at h
  have hx : (x == c) = false := by
   rw [Bool.eq_false_iff]
   intro e
   have : x = c := by simpa using e
   subst this
   simp [List.getD_eq_getElem?_getD] at h
  simp [Re, hx]
theorem Lv (c : UInt8) (s : Ap) : (P5 c s).length ≤ s.length := (List.dropWhile_sublist _).length_le
theorem QO (c : UInt8) (s : Ap) : (Re c s).length ≤ s.length := by
 have := (List.dropWhile_sublist (l := s.reverse) (·== c)).length_le
 simpa [Re] using this
/-! #### the rest of an order -/
def many (z : Int) : Bool := decide (z = 7) || decide (z = 8) || decide (z = 9)
def NK (z : Int) : Ap × Bool := if decide (z = 7) = true then ([102, 114, 111, 109], false) else if decide (z = 9) = true then ([105, 110], true) else if decide (z = 10) = true then ([116, 111], true) else ([], false)
def Na (s : Ap) : Nat → Int × Bool
 | 0 => (0, false)
 | n + 1 => if decide (AG.GS.getD (5 - n) [] = s) = true then (((5 - n : Nat) : Int), true) else Na s n
def dir (s : Ap) : Int × Bool := Na s 6
theorem VV {s : Ap} {k : Int} (h0 : 0 ≤ k) (h1 : k < 6) : Na s (6 - k).toNat = if decide (AG.GS.getD k.toNat [] = s) = true then (k, true) else Na s (6 - (k + 1)).toNat := by
 rw [show (6 - k).toNat = (6 - (k + 1)).toNat + 1 by omega, Na, show 5 - (6 - (k + 1)).toNat = k.toNat by omega, show ((k.toNat : Nat) : Int) = k by omega]
/-! #### nouns -/
def PN (k rest : Ap) : Int × Ap × Bool × Int :=
 match Lib.atoiAll k with
 | .ok n => if (decide (n < 1) || decide (99 < n) || decide (((k.getD (0 : Int).toNat 0).toNat : Int) < 49) || decide (57 < ((k.getD (0 : Int).toNat 0).toNat : Int)) || decide (rest = []) || decide (0 ≤ Lib.indexByte rest 46)) = true then (0, [], false, 1) else (n, rest, false, 0)
 | _ => (0, [], false, 1)
theorem Tu {k rest : Ap} {n : Int} (h : Lib.atoiAll k = .ok n) : PN k rest = if (decide (n < 1) || decide (99 < n) || decide (((k.getD (0 : Int).toNat 0).toNat : Int) < 49) || decide (57 < ((k.getD (0 : Int).toNat 0).toNat : Int)) || decide (rest = []) || decide (0 ≤ Lib.indexByte rest 46)) = true then (0, [], false, 1) else (n, rest, false, 0) := by
 unfold PN; rw [h]
theorem XI {k rest : Ap} (h : ∀ j, Lib.atoiAll k ≠ .ok j) : PN k rest = (0, [], false, 1) := by
 unfold PN
 split
 ·rename_i n e; exact absurd e (h n)
 ·rfl
theorem SP {k : Ap} {n : Int} (h : Lib.atoiAll k = .ok n) : 0 < k.length := by
 cases k with
 | nil => simp [Lib.atoiAll] at h
 | cons x r => simp
def ED (u : Ap) : Int × Ap × Bool × Int :=
 if decide (u = [97, 108, 108]) = true then (1, [], true, 0)
 else if ((Mq u [97, 108, 108, 46]).2 && !decide ((Mq u [97, 108, 108, 46]).1 = []) && !decide (0 ≤ Lib.indexByte (Mq u [97, 108, 108, 46]).1 46)) = true then (1, (Mq u [97, 108, 108, 46]).1, true, 0)
 else if (!(cut 46 u).2.2) = true then (if decide (u = []) = true then (0, [], false, 1) else (1, u, false, 0))
 else PN (cut 46 u).1 (cut 46 u).2.1
/-! #### orders -/
theorem Pq (u : Ap) : ∀ n, n ≤ 21 → 0 ≤ (JO u n).1 ∧ (JO u n).1 ≤ 20
 | 0, _ => by simp [JO]
 | n + 1, h => by
  unfold JO
  split
  ·simp only; omega
  ·exact Pq u n (by omega)
theorem XD (u : Ap) : 0 ≤ (verb u).1 ∧ (verb u).1 ≤ 20 := by
 unfold verb; split
 ·exact Pq u 21 (Nat.le_refl _)
 ·simp
def said (s : Ap) : Ap := P5 32 (Re 32 (cut 32 (P5 32 s)).2.1)
def o0 (v : Int) : Order := { (default : Order) with verb := v }
def Q7 (o : Order) (j : Ap × Bool) (W : List Ap) (m : Nat) : Order × Int :=
 if (decide ((m : Int) = 0) && !j.2) = true then (o, 0)
 else if (!decide ((m : Int) = 1) || decide (j.1 = [])) = true then (default, 1)
 else ({ o with second := W.getD 0 [] }, 0)
def To (o : Order) (j : Ap × Bool) (W : List Ap) (m : Nat) : Order × Int :=
 if (decide (0 < (m : Int)) && !decide (j.1 = []) && decide (W.getD 0 [] = j.1)) = true then (if decide (((m - 1 : Nat) : Int) = 0) = true then (default, 1) else Q7 o j (W.drop 1) (m - 1))
 else Q7 o j W m
def QP (v : Int) (W : List Ap) (m : Nat) : Order × Int :=
 if (!decide ((ED (W.getD 0 [])).2.2.2 = 0) || ((ED (W.getD 0 [])).2.2.1 && !many v)) = true then (default, 1)
 else To ⟨v, (ED (W.getD 0 [])).1, (ED (W.getD 0 [])).2.2.1, (ED (W.getD 0 [])).2.1, [], []⟩ (NK v) (W.drop 1) (m - 1)
def Xj (s : Ap) (v : Int) (W : List Ap) (m : Nat) : Order × Int :=
 if decide (v = 11) = true then (if decide (said s = []) = true then (default, 1) else (⟨v, 0, false, [], [], said s⟩, 0))
 else if (decide (v ≤ 6) || decide (19 ≤ v)) = true then (if decide (0 < (m : Int)) = true then (default, 1) else (o0 v, 0))
 else if decide ((m : Int) = 0) = true then (default, 1)
 else if (decide (v = 12) || decide (v = 13)) = true then
  (if (decide ((verb (W.getD 0 [])).2 = 0) && decide ((verb (W.getD 0 [])).1 < 6) && decide ((m : Int) = 1)) = true then (⟨v, 1, false, AG.GS.getD (verb (W.getD 0 [])).1.toNat [], [], []⟩, 0) else QP v W m)
 else QP v W m
def parse (s : Ap) : Order × Int :=
 if decide (((words s).length : Int) = 0) = true then (default, 1)
 else if (!decide ((verb ((words s).getD 0 [])).2 = 0)) = true then (default, (verb ((words s).getD 0 [])).2)
 else Xj s (verb ((words s).getD 0 [])).1 ((words s).drop 1) ((words s).length - 1)
theorem Yg (w : Ap) : (low w).length = w.length := by simp [low]
theorem XJ (s : Ap) (i : Nat) : ((words s).getD i []).length ≤ s.length := by
 rw [List.getD_eq_getElem?_getD]
 cases h : (words s)[i]? with
 | none => simp
 | some p =>
  have hm := List.mem_of_getElem? h
  unfold words at hm
  obtain ⟨q, hq, rfl⟩ := List.mem_map.1 hm
  rw [Option.getD_some, Yg]
  exact IE (List.mem_filter.1 hq).1
theorem MU (s : Ap) (i j : Nat) : (((words s).drop j).getD i []).length ≤ s.length := by
 rw [List.getD_eq_getElem?_getD, List.getElem?_drop, ← List.getD_eq_getElem?_getD]; exact XJ s _
end Words
end Go.Ing
/- What people type: plain laws. -/
namespace Go.Ing
open Go
namespace Words
/-! #### a shorter beginning -/
/-! #### what is parsed is good -/
structure Yp (o : Order) : Prop where
 v0 : 0 ≤ o.verb
 v1 : o.verb ≤ 20
 n0 : 0 ≤ o.nth
 n1 : o.nth ≤ 99
 al : o.Bi = true → o.verb = 7 ∨ o.verb = 8 ∨ o.verb = 9
 tx : o.text ≠ [] ↔ o.verb = 11
 s1 : o.second = [] ∨ o.verb = 7 ∨ o.verb = 9 ∨ o.verb = 10
 s2 : o.second ≠ [] ∨ (o.verb ≠ 9 ∧ o.verb ≠ 10)
def K5 (r : Order × Int) : Prop := (r.2 = 0 → Yp r.1) ∧ (r.2 ≠ 0 → r.1 = default)
theorem K5.bad (e : Int) (he : e ≠ 0) : K5 (default, e) := ⟨fun h => absurd h he, fun _ => rfl⟩
theorem K5.ok {o : Order} (h : Yp o) : K5 (o, 0) := ⟨fun _ => h, fun h => absurd rfl h⟩
theorem Vu (k r : Ap) : (PN k r).2.2.2 = 0 → 0 ≤ (PN k r).1 ∧ (PN k r).1 ≤ 99 := by
 unfold PN
 split
 ·split
  ·intro h; simp at h
  ·rename_i c
   intro _
   simp only [Bool.or_eq_true, decide_eq_true_eq, not_or] at c
   show 0 ≤ _ ∧ _ ≤ 99
   exact ⟨by simp only; omega, by simp only; omega⟩
 ·intro h; simp at h
theorem Uv (u : Ap) : (ED u).2.2.2 = 0 → 0 ≤ (ED u).1 ∧ (ED u).1 ≤ 99 := by
 unfold ED
 split
 ·intro _; simp
 ·split
  ·intro _; simp
  ·split
   ·split
    ·intro h; simp at h
    ·intro _; simp
   ·exact Vu _ _
/-! #### spaces ahead and behind -/
def Co : Ap → Ap
 | [] => []
 | x :: r => if x = 32 then r else Co r
end Words
end Go.Ing
/- Verbs and nouns as the document has them. -/
namespace Go.Ing
open Go
namespace Words
/-! #### nouns -/
end Words
end Go.Ing
/- Orders as the document has them. -/
namespace Go.Ing
open Go
namespace Words
/-! #### what is said -/
/-! #### orders -/
def alone (v : Int) : Bool := decide (v < 7) || decide (18 < v)
end Words
end Go.Ing
/- The program's data, in Lean, and their parts. -/
namespace Go.Ing
open Go
structure Ac where
 w : AG
 b : Int
 out : Hd
instance : Inhabited Ac := ⟨⟨default, 0, ⟨none, 0, 0⟩⟩⟩
def Ac.enc (x : Ac) : List Value := AG.enc x.w ++ Av x.b ++ Ea x.out
theorem Ac.fl : Flat Ac.enc 167 := ⟨fun x => by simp [Ac.enc, AG.fl.len, PB.len, B1.len], fun x v hv => by
 simp only [Ac.enc, List.mem_append] at hv
 rcases hv with (h | h) | h
 ·exact AG.fl.one _ v h
 ·exact B1.one _ v h
 ·exact PB.one _ v h⟩
theorem Ac.l0 : AU Ac.enc (AG.enc) 0 165 (fun x => x.w) (fun x y => { x with w := y }) :=
 AU.Eb AG.fl (fun _ => []) (fun x => Av x.b ++ Ea x.out) (fun _ => rfl) (fun x => by simp [Ac.enc]) (fun x y => by simp [Ac.enc])
theorem Ac.l1 : AU Ac.enc (Av) 165 1 (fun x => x.b) (fun x y => { x with b := y }) :=
 AU.Eb B1 (fun x => AG.enc x.w) (fun x => Ea x.out) (fun x => by simp [AG.fl.len]) (fun x => by simp [Ac.enc]) (fun x y => by simp [Ac.enc])
theorem Ac.l2 : AU Ac.enc (Ea) 166 1 (fun x => x.out) (fun x y => { x with out := y }) :=
 AU.Eb PB (fun x => AG.enc x.w ++ Av x.b) (fun _ => []) (fun x => by simp [AG.fl.len, B1.len]) (fun x => by simp [Ac.enc]) (fun x y => by simp [Ac.enc])
end Go.Ing
/- What comes of what beings do: plain functions. -/
namespace Go.Ing
open Go
structure AE where
 w : AG
 b : Int
 out : List Event
namespace AE
def Fj (k : Int) : Event := ⟨k, 0, 0, -1, 0, 0, [], [], [], [], default⟩
def me (T : AE) : Ak := T.w.AN.at T.b
def Wc (T : AE) (e : Event) : Event := { e with DV := T.b, Hj := T.me.name, room := T.me.room }
def Di (T : AE) (e : Event) : Event := if decide (0 ≤ e.other) = true then { T.Wc e with EM := (T.w.AN.at e.other).name } else T.Wc e
def BO (T : AE) (e : Event) : AE := { T with out := T.out ++ [T.w.Hi (T.Di e) 6] }
def kind (T : AE) (k : Int) : AE := T.BO (Fj k)
def Bs (T : AE) (k i : Int) : AE := T.BO { Fj k with Bs := (T.w.AL.at i).name }
def tell (T : AE) (s : Ap) : AE := T.BO { Fj 16 with text := s }
@[simp] theorem Z9 (T : AE) (e : Event) : (T.BO e).w = T.w := rfl
@[simp] theorem aB (T : AE) (e : Event) : (T.BO e).b = T.b := rfl
@[simp] theorem CZ (T : AE) (e : Event) : (T.BO e).out.length = T.out.length + 1 := by simp [BO]
@[simp] theorem cn (T : AE) (s : Ap) : (T.tell s).w = T.w := rfl
@[simp] theorem cb (T : AE) (s : Ap) : (T.tell s).b = T.b := rfl
@[simp] theorem CC (T : AE) (s : Ap) : (T.tell s).out.length = T.out.length + 1 := by simp [tell]
/-! #### lists -/
def H2 (w : AG) : Ap → List Int → Ap
 | s, [] => s
 | s, i :: r => H2 w (if (w.AL.at i).on = true then s ++ [32] ++ (w.AL.at i).name ++ [42] else s ++ [32] ++ (w.AL.at i).name) r
def SR (w : AG) (s : Ap) (l : List Int) : Ap := if decide ((l.length : Int) = 0) = true then H2 w s l ++ [32, 110, 111, 116, 104, 105, 110, 103] else H2 w s l
def list (T : AE) (s : Ap) (l : List Int) : AE := T.tell (SR T.w s l ++ [46])
/-! #### what is about -/
def IU (r : Room) : Nat → Ap
 | 0 => [87, 97, 121, 115, 58]
 | d + 1 => if decide (r.CK.at (d : Int) = 0) = true then IU r d else if r.shut.at (d : Int) = true then IU r d ++ ([32] ++ AG.called d) ++ [42] else IU r d ++ ([32] ++ AG.called d)
def FQ (T : AE) : Nat → AE
 | 0 => T
 | k + 1 => if (!decide ((k : Int) = T.b) && T.w.Il T.b k) = true then (FQ T k).tell ((T.w.AN.at k).name ++ [32, 105, 115, 32, 104, 101, 114, 101, 46]) else FQ T k
def MH : Ap := [73, 116, 32, 105, 115, 32, 100, 97, 114, 107, 46]
def JZ (T : AE) : AE :=
 ((T.tell ([84, 104, 101, 32] ++ (T.w.BR.at T.me.room).name ++ [46])).tell (IU (T.w.BR.at T.me.room) 6))
def D4 (T : AE) : AE := if decide (0 < ((T.w.has 0 T.me.room).length : Int)) = true then T.JZ.list [72, 101, 114, 101, 32, 105, 115] (T.w.has 0 T.me.room) else T.JZ
def look (T : AE) : AE := if (!T.w.HJ T.me.room) = true then T.tell MH else FQ T.D4 6
def Wz : Ap := [89, 111, 117, 32, 99, 97, 110, 110, 111, 116, 32, 103, 111, 32, 116, 104, 101, 114, 101, 46]
def Tb : Ap := [73, 116, 32, 105, 115, 32, 115, 104, 117, 116, 46]
def F2 (T : AE) (r : Int) : AE := { T with w := { T.w with AN := T.w.AN.put T.b { T.me with room := r, Bx := 0 } } }
def walk (T : AE) (d : Int) : AE :=
 if decide ((T.w.BR.at T.me.room).CK.at d = 0) = true then T.tell Wz
 else if (T.w.BR.at T.me.room).shut.at d = true then T.tell Tb
 else (((T.BO { Fj 1 with dir := d }).F2 ((T.w.BR.at T.me.room).CK.at d - 1)).BO { Fj 2 with dir := AG.opposite d }).look
/-! #### things that are meant -/
def JF (w : AG) (name : Ap) (l : List Int) : List Int := l.filter fun i => decide (name = []) || decide ((w.AL.at i).name = name)
def BP (w : AG) (l : List Int) (nth : Int) (name : Ap) (all : Bool) : List Int :=
 if all = true then JF w name l
 else if (decide (nth < 1) || decide (((JF w name l).length : Int) < nth)) = true then []
 else ((JF w name l).take nth.toNat).drop (nth - 1).toNat
def seen (T : AE) : List Int := if (!T.w.HJ T.me.room) = true then [] else T.w.has 0 T.me.room
def own (T : AE) : List Int := T.w.has 1 T.b
def one (T : AE) (u : Ap) : Int × Bool :=
 if (!decide ((Words.ED u).2.2.2 = 0) || (Words.ED u).2.2.1) = true then (0, false)
 else if decide (((BP T.w (T.own ++ T.seen) (Words.ED u).1 (Words.ED u).2.1 false).length : Int) = 0) = true then (0, false)
 else ((BP T.w (T.own ++ T.seen) (Words.ED u).1 (Words.ED u).2.1 false).getD 0 0, true)
def KC : Ap := [84, 104, 101, 114, 101, 32, 105, 115, 32, 110, 111, 32, 115, 117, 99, 104, 32, 116, 104, 105, 110, 103, 46]
def OP : Ap := [89, 111, 117, 32, 104, 97, 118, 101, 32, 110, 111, 32, 115, 117, 99, 104, 32, 116, 104, 105, 110, 103, 46]
def NM : Ap := [84, 104, 101, 114, 101, 32, 105, 115, 32, 110, 111, 98, 111, 100, 121, 32, 111, 102, 32, 116, 104, 97, 116, 32, 110, 97, 109, 101, 46]
def ay : Ap := [89, 111, 117, 32, 119, 101, 97, 114, 32, 105, 116, 46]
def Y4 : Ap := [84, 104, 97, 116, 32, 99, 97, 110, 110, 111, 116, 32, 98, 101, 46]
def ZL : Ap := [73, 116, 32, 105, 115, 32, 115, 111, 46]
def Qy : Ap := [89, 111, 117, 32, 102, 105, 103, 104, 116, 46]
def box (T : AE) (u : Ap) : AE × Int × Bool :=
 if (!(T.one u).2 || !decide ((T.w.AL.at (T.one u).1).kind = 3)) = true then (T.tell KC, 0, false)
 else if (!(T.w.AL.at (T.one u).1).on) = true then (T.tell Tb, 0, false)
 else (T, (T.one u).1, true)
def C3 (T : AE) (i : Int) (t : Ag) : AE := { T with w := { T.w with AL := T.w.AL.put i t } }
def place (T : AE) (i CJ at_ : Int) : AE := T.C3 i { T.w.AL.at i with CJ := CJ, at_ := at_ }
def DA (T : AE) : List Int → AE
 | [] => T
 | i :: r => DA ((T.place i 1 T.b).Bs 3 i) r
def KU (T : AE) (l : List Int) (o : Order) : AE := DA (if decide (((BP T.w l o.nth o.name o.Bi).length : Int) = 0) = true then T.tell KC else T) (BP T.w l o.nth o.name o.Bi)
def get (T : AE) (o : Order) : AE :=
 if (!decide (o.second = [])) = true then
  (if (!(T.box o.second).2.2) = true then (T.box o.second).1 else (T.box o.second).1.KU ((T.box o.second).1.w.has 2 (T.box o.second).2.1) o)
 else T.KU T.seen o
def Io (T : AE) (name : Ap) : Nat → Int → Option Int
 | 0, _ => none
 | r + 1, n => if (decide (((6 - (r + 1) : Nat) : Int) = T.b) || !decide ((T.w.AN.at ((6 - (r + 1) : Nat) : Int)).name = name) || !T.w.Il T.b ((6 - (r + 1) : Nat) : Int)) = true then Io T name r n else if decide (n - 1 = 0) = true then some ((6 - (r + 1) : Nat) : Int) else Io T name r (n - 1)
def A6 (T : AE) (u : Ap) : AE × Int × Bool :=
  if (decide ((Words.ED u).2.2.2 = 0) && !(Words.ED u).2.2.1) = true then
    (match Io T (Words.ED u).2.1 6 (Words.ED u).1 with
     | some k => (T, k, true)
     | none => (T.tell NM, 0, false))
  else (T.tell NM, 0, false)
def Cn (T : AE) (v to i : Int) : AE :=
 if (decide ((T.w.AL.at i).kind = 2) && (T.w.AL.at i).on) = true then T.tell ay
 else if decide (v = 8) = true then (T.place i 0 T.me.room).Bs 4 i
 else if decide (v = 10) = true then (T.place i 1 to).BO { Fj 6 with other := to, Bs := (T.w.AL.at i).name }
 else if T.w.Tf to i = true then T.tell Y4
 else (T.place i 2 to).BO { Fj 5 with Bs := (T.w.AL.at i).name, text := (T.w.AL.at to).name }
def Ee (T : AE) (v to : Int) : List Int → AE
 | [] => T
 | i :: r => Ee (T.Cn v to i) v to r
def SJ (T : AE) (to : Int) (o : Order) : AE := Ee (if decide (((BP T.w T.own o.nth o.name o.Bi).length : Int) = 0) = true then T.tell OP else T) o.verb to (BP T.w T.own o.nth o.name o.Bi)
def Cq (T : AE) (o : Order) : AE × Int × Bool := if decide (o.verb = 9) = true then T.box o.second else if decide (o.verb = 10) = true then T.A6 o.second else (T, 0, true)
def E3 (T : AE) (o : Order) : AE := if (!(T.Cq o).2.2) = true then (T.Cq o).1 else (T.Cq o).1.SJ (T.Cq o).2.1 o
def Ch (T : AE) (b f : Int) : AE := { T with w := { T.w with AN := T.w.AN.put b { T.w.AN.at b with Bx := f } } }
def Ew (T : AE) (o : Order) : AE :=
 if (!(T.A6 (if (!decide (o.nth = 1) || o.Bi) = true then [] else o.name)).2.2) = true then (T.A6 (if (!decide (o.nth = 1) || o.Bi) = true then [] else o.name)).1
 else
  let k := (T.A6 (if (!decide (o.nth = 1) || o.Bi) = true then [] else o.name)).2.1
  let T1 := (T.A6 (if (!decide (o.nth = 1) || o.Bi) = true then [] else o.name)).1.Ch (T.A6 (if (!decide (o.nth = 1) || o.Bi) = true then [] else o.name)).1.b (k + 1)
  (if decide ((T1.w.AN.at k).Bx = 0) = true then T1.Ch k ((T.A6 (if (!decide (o.nth = 1) || o.Bi) = true then [] else o.name)).1.b + 1) else T1).tell Qy
/-! #### what is set -/
def before (T : AE) (first : Bool) (i : Int) (on : Bool) (ev : Int) : AE :=
 if first = true then (T.C3 i { T.w.AL.at i with on := on }).Bs ev i
 else (T.Bs ev i).C3 i { T.w.AL.at i with on := on }
def C2 (T : AE) (r d : Int) (v : Bool) : AE := { T with w := { T.w with BR := T.w.BR.put r { T.w.BR.at r with shut := (T.w.BR.at r).shut.put d v } } }
def QC : Ap := [100, 111, 111, 114]
def Gx (T : AE) (d : Int) (on : Bool) (ev : Int) : AE :=
 if decide ((T.w.BR.at T.me.room).CK.at d - 1 < 0) = true then T.tell KC
 else if ((T.w.BR.at T.me.room).shut.at d != on) = true then T.tell ZL
 else
  let to := (T.w.BR.at T.me.room).CK.at d - 1
  let T1 := T.C2 T.me.room d (!on)
  (if decide ((T1.w.BR.at to).CK.at (AG.opposite d) = T.me.room + 1) = true then T1.C2 to (AG.opposite d) (!on) else T1).BO { Fj ev with Bs := QC }
def Hc (v : Int) : Bool := decide (v = 12) || decide (v = 14) || decide (v = 16)
def setKind (v : Int) : Int := if (decide (v = 14) || decide (v = 15)) = true then 1 else if (decide (v = 16) || decide (v = 17)) = true then 2 else 3
def PA (v : Int) : Int := v - 4
def EN (T : AE) (o : Order) : List Int := BP T.w (if decide (setKind o.verb = 3) = true then T.own ++ T.seen else T.own) (max o.nth 1) o.name false
def set (T : AE) (o : Order) : AE :=
 if ((Words.dir o.name).2 && decide (setKind o.verb = 3)) = true then T.Gx (Words.dir o.name).1 (Hc o.verb) (PA o.verb)
 else if (decide (((T.EN o).length : Int) = 0) || !decide ((T.w.AL.at ((T.EN o).getD 0 0)).kind = setKind o.verb)) = true then T.tell KC
 else if ((T.w.AL.at ((T.EN o).getD 0 0)).on == Hc o.verb) = true then T.tell ZL
 else if Hc o.verb = true then T.before (!decide (setKind o.verb = 2)) ((T.EN o).getD 0 0) (Hc o.verb) (PA o.verb)
 else T.before (decide (setKind o.verb = 2)) ((T.EN o).getD 0 0) (Hc o.verb) (PA o.verb)
/-! #### who is gone -/
def Et (T : AE) (i : Int) : AE := T.C3 i { T.w.AL.at i with on := if decide ((T.w.AL.at i).kind = 2) = true then false else (T.w.AL.at i).on, CJ := 0, at_ := T.me.room }
def CX (T : AE) : List Int → AE
 | [] => T
 | i :: r => CX (T.Et i) r
def DN (T : AE) : Nat → AE
 | 0 => T
 | k + 1 => if decide (((DN T k).w.AN.at (k : Int)).Bx = T.b + 1) = true then (DN T k).Ch k 0 else DN T k
def E0 (T : AE) : AE := (DN (T.CX T.own) 6).Ch T.b 0
def DP (T : AE) (b : Int) (x : Ak) : AE := { T with w := { T.w with AN := T.w.AN.put b x } }
def GZ (T : AE) : AE := (T.kind 18).E0.DP T.b default
/-! #### what a being does -/
def act (T : AE) (o : Order) : AE :=
 if decide (o.verb < 6) = true then T.walk o.verb
 else if decide (o.verb = 6) = true then T.look
 else if decide (o.verb = 19) = true then T.list [89, 111, 117, 32, 104, 97, 118, 101] (T.w.has 1 T.b)
 else if decide (o.verb = 11) = true then T.BO { Fj 7 with text := o.text }
 else if decide (o.verb = 20) = true then T.GZ
 else if decide (o.verb = 18) = true then T.Ew o
 else if decide (o.verb = 7) = true then T.get o
 else if (decide (o.verb = 8) || decide (o.verb = 9) || decide (o.verb = 10)) = true then T.E3 o
 else T.set o
def D7 (X : AG) (b : Int) (o : Order) : AG × List Event × Int :=
 if (!X.BZ) = true then (X, [], 2)
 else if (decide (b < 0) || decide (6 ≤ b) || !(X.AN.at b).here) = true then (X, [], 3)
 else if (decide (o.verb < 0) || decide (20 < o.verb)) = true then (X, [], 5)
 else ((AE.act ⟨X, b, []⟩ o).w, (AE.act ⟨X, b, []⟩ o).out, 0)
end AE
end Go.Ing
/- Engine: the program's own variables, beside what is handed on. -/
namespace Go.Ing
open Go
section
variable {w0 w : World} {M : List Nat} {L A K : List Ad} {g : Nat} {vs : List Value}
theorem GV.lt (h : GV g vs w) : g < w.heap.size := by
 obtain ⟨t, fz, e⟩ := h
 rcases Nat.lt_or_ge g w.heap.size with h' | h'
 ·exact h'
 ·rw [Array.getElem?_eq_none h'] at e; cases e
theorem GV.stM (h : GV g vs w0) (hM : g ∉ M) (hS : St w0 M w L) : GV g vs w := by
 have hg := h.lt
 obtain ⟨t, fz, e⟩ := h
 exact ⟨t, fz, (hS.I7 g hg hM).trans e⟩
theorem N6 (hg : g < w0.heap.size) (hM : g ∉ M) (hS : St w0 M w L) (hp : As L A K) : g ∉ Cb A := by
 intro hf
 obtain ⟨r, hr, hb⟩ := List.mem_flatMap.1 hf
 have hm : r ∈ L := hp.perm.symm.subset (List.mem_append_left _ hr)
 exact hM ((hS.CP r hm g hb).2 hg)
theorem GV.pull (h : GV g vs w0) (hM : g ∉ M) (hS : St w0 M w L) (hp : As L A K) : GV g vs w ∧ g ∉ Cb A := ⟨h.stM hM hS, N6 h.lt hM hS hp⟩
theorem Gk.stM (h : Gk g w0) (hM : g ∉ M) (hS : St w0 M w L) : Gk g w := by
 obtain ⟨tp, p, h⟩ := h; exact ⟨tp, p, h.stM hM hS⟩
theorem Gk.pull (h : Gk g w0) (hM : g ∉ M) (hS : St w0 M w L) (hp : As L A K) : Gk g w ∧ g ∉ Cb A := by
 obtain ⟨tp, p, h⟩ := h; exact ⟨⟨tp, p, h.stM hM hS⟩, N6 h.lt hM hS hp⟩
end
section
variable {P : Program} {n : Nat} {w0 : World} {M : List Nat} {Q : Exit → Go.Act → World → Prop} {F F' : List (Nat × Value)} {L L' : List Ad} {ops : Array Oper} {rest : List Oper}
theorem Sl {α : Type} {e : α → List Value} {d T U E sz : Nat} {x y z : Operand} {pos : String} {Co : Array Edge} {h : Hd} {xs : List α} {kd kz : IntKind} {i j : Int} {Lf : Ad → List Ad} (fe : Flat e sz) (hd : Nat.blt d n = true) (hT : P.underlying T = some (.slice E)) (hs : Sz P E sz) (hx : ev F x = some h.val) (hy : ev F y = some (.int kd i)) (hz : ev F z = some (.int kz j)) (h0 : 0 ≤ i) (h1 : i ≤ j) (h2 : j ≤ (h.len : Int)) (hU : ∀ r, Kz L (Ad.own h E sz (xs.flatMap e)) r (Lf r))
  (k : GL P n w0 M ops Q rest ((d, (h.cut i.toNat j.toNat sz).val) :: F) (Lf (Ad.own (h.cut i.toNat j.toNat sz) E sz (((xs.take j.toNat).drop i.toNat).flatMap e)))) : GL P n w0 M ops Q (⟨some d, .slice T x (some y) (some z) none, U, pos, Co, none⟩ :: rest) F L := by
 refine Fm (R := fun v L' => v = (h.cut i.toNat j.toNat sz).val ∧ L' = Lf (Ad.own (h.cut i.toNat j.toNat sz) E sz (((xs.take j.toNat).drop i.toNat).flatMap e))) hd ?_ (fun v L' ⟨e1, e2⟩ => by subst e1; subst e2; exact k)
 intro a w hF hS
 have hok := hS.ok _ (hU ⟨[], fun _ => True, fun _ _ _ _ => trivial⟩).mem
 have hr : Rd w h E sz (xs.flatMap e) := Kn.own (M := M) (hU ⟨[], fun _ => True, fun _ _ _ _ => trivial⟩).mem w hS
 have hcap : h.len ≤ h.cap := by
  rcases hok with ⟨rfl, _⟩ | ⟨b, o, C, fz, e1, e2, e3, e4, e5, e6, _⟩
  ·exact Nat.le_refl _
  ·exact e6
 have hil : i.toNat ≤ j.toNat := by omega
 have hjl : j.toNat ≤ h.len := by omega
 have hlc : h.len * sz ≤ h.cap * sz := Nat.mul_le_mul_right sz hcap
 have hjc : j.toNat * sz ≤ h.len * sz := Nat.mul_le_mul_right sz hjl
 have hll : i.toNat * sz ≤ j.toNat * sz := Nat.mul_le_mul_right sz hil
 have hcs : ((xs.flatMap e).take (j.toNat * sz)).drop (i.toNat * sz) = ((xs.take j.toNat).drop i.toNat).flatMap e := LR fe xs
 have hlen : (((xs.take j.toNat).drop i.toNat).flatMap e).length = j.toNat * sz - i.toNat * sz := by
  rw [← hcs, List.length_drop, List.length_take, ← hr.1, Nat.min_eq_left hjc]
 refine ⟨_, _, w, ⟨rfl, rfl⟩, ?_, ?_⟩
 ·have hs' := hs w
  have hjcap : j ≤ (h.cap : Int) := by omega
  simp only [execOp, hF.ev hx, Option.map_some, Option.map_none, hF.ev hy, hF.ev hz, Hd.val, Instr.sliceAt, Instr.slice, underlying]
  simp [hT, Instr.sliceBounds, Instr.sliceBound, asIntOf, h1, h0, hs', Hd.cut, hjcap, show 0 ≤ j by omega, show i ≤ max j 0 by omega]
 ·refine hS.EI (hU _) rfl rfl rfl (Nat.le_refl _) (fun _ _ _ => rfl) ?_ ?_
  ·rcases hok with ⟨rfl, hn⟩ | ⟨b, o, C, fz, e1, e2, e3, e4, e5, e6, e7, e8⟩
   ·have hj0 : j.toNat = 0 := by simp at hjl; omega
    have hi0 : i.toNat = 0 := by omega
    refine .inl ⟨by simp [Hd.cut, hj0, hi0], ?_⟩
    rw [List.eq_nil_of_length_eq_zero (l := ((xs.take j.toNat).drop i.toNat).flatMap e) (by rw [hlen, hj0]; simp)]
   ·by_cases hci : h.cap = i.toNat
    ·have hji : j.toNat = i.toNat := by omega
     refine .inr ⟨b, o, C, fz, by simp only [Hd.cut]; rw [if_pos hci]; exact e1, e2, e3, e4, ?_, ?_, ?_, ?_⟩
     ·simp only [Hd.cut]; rw [hci, Nat.sub_self, Nat.zero_mul]; omega
     ·simp only [Hd.cut]; omega
     ·simp only [Hd.cut]; rw [hlen, Nat.sub_mul]
     ·have hl0 : (((xs.take j.toNat).drop i.toNat).flatMap e).length = 0 := by rw [hlen, hji]; omega
      rw [List.eq_nil_of_length_eq_zero hl0]; simp
    ·refine .inr ⟨b, o + i.toNat * sz, C, fz, by simp only [Hd.cut]; rw [if_neg hci, e1]; simp [ES], e2, e3, fun j hj h => e4 j (by omega) h, ?_, ?_, ?_, ?_⟩
     ·simp only [Hd.cut]; rw [Nat.sub_mul]; omega
     ·simp only [Hd.cut]; omega
     ·simp only [Hd.cut]; rw [hlen, Nat.sub_mul]
     ·have hX : xs.flatMap e = (C.drop o).take (h.len * sz) := by rw [hr.1]; exact e8.symm
      have hY : ((xs.take j.toNat).drop i.toNat).flatMap e = ((C.drop o).take (j.toNat * sz)).drop (i.toNat * sz) := by rw [← hcs, hX, List.take_take, Nat.min_eq_left hjc]
      rw [hlen, hY, List.drop_take, List.drop_drop]
  ·intro b hb
   have hb' : b ∈ (Ad.own h E sz (xs.flatMap e)).CP := by
    revert hb
    simp only [Ad.own, Hd.cut]
    cases ha : h.a with
    | none => by_cases hc : h.cap = i.toNat <;> simp [hc]
    | some a =>
     by_cases hc : h.cap = i.toNat
     ·simp [hc]
     ·simp only [hc, if_false, Option.map_some]
      unfold Addr.add
      split <;> simp
   exact ⟨(hS.CP _ (hU ⟨[], fun _ => True, fun _ _ _ _ => trivial⟩).mem b hb').1, .inl hb'⟩
theorem Kz.aK {L L' : List Ad} {r r' : Ad} (h : Kz L r r' L') (e : r = r') : L' = L := by
 induction h with
 | head => subst e; rfl
 | tail _ ih => rw [ih e]
theorem GF {cd : Code} {b T : Nat} {c c' : List Value} {Lf : Ad → List Ad} (hU : ∀ r, Kz L (Ad.box b T c) r (Lf r)) (e : c = c') (k : G P n w0 M cd Q F (Lf (Ad.box b T c'))) : G P n w0 M cd Q F L := by
 subst e
 rwa [(hU (Ad.box b T c)).aK rfl] at k
theorem Zj {Pr : Prop} {cd : Code} (hp : ∀ w, St w0 M w L → Pr) (k : Pr → G P n w0 M cd Q F L) : G P n w0 M cd Q F L := fun a w hF hS => k (hp w hS) a w hF hS
end
section
variable {p : Prop} [Decidable p] {a b : Bool} {m n : Int}
theorem dj : ((a || b) = true) = (a = true ∨ b = true) := Bool.or_eq_true a b
theorem de : ((a && b) = true) = (a = true ∧ b = true) := Bool.and_eq_true a b
theorem dW : ((a || b) = false) = (a = false ∧ b = false) := propext Bool.or_eq_false_iff
theorem dr : ((a && b) = false) = (a = false ∨ b = false) := propext Bool.and_eq_false_iff
end
end Go.Ing
/- What comes of what beings do: plain laws. -/
namespace Go.Ing
open Go
structure AG.DE (w : AG) : Prop where
 th : ∀ i, (w.AL.at i).name.length ≤ 140737488351232
 be : ∀ i, (w.AN.at i).name.length ≤ 140737488351232
 ro : ∀ i, (w.BR.at i).name.length ≤ 140737488351232
namespace AE
theorem NH {l : List Int} {k : Int} (h0 : 0 ≤ k) (h1 : k < l.length) : l.drop k.toNat = l.getD k.toNat 0 :: l.drop (k + 1).toNat := by
 have hk : k.toNat < l.length := by omega
 rw [List.drop_eq_getElem_cons hk, show (k + 1).toNat = k.toNat + 1 by omega, List.getD_eq_getElem?_getD, List.getElem?_eq_getElem hk]
 rfl
theorem YH {w : AG} {s : Ap} {l : List Int} {k : Int} (h0 : 0 ≤ k) (h1 : k < l.length) (h : (w.AL.at (l.getD k.toNat 0)).on = true) : H2 w s (l.drop k.toNat) = H2 w (s ++ ([32] ++ (w.AL.at (l.getD k.toNat 0)).name) ++ [42]) (l.drop (k + 1).toNat) := by
 rw [NH h0 h1, H2, if_pos h]; simp
theorem YQ {w : AG} {s : Ap} {l : List Int} {k : Int} (h0 : 0 ≤ k) (h1 : k < l.length) (h : (w.AL.at (l.getD k.toNat 0)).on = false) : H2 w s (l.drop k.toNat) = H2 w (s ++ ([32] ++ (w.AL.at (l.getD k.toNat 0)).name)) (l.drop (k + 1).toNat) := by
 rw [NH h0 h1, H2, if_neg (by rw [h]; decide)]; simp
theorem TE {r : Room} {k : Int} (h : 0 ≤ k) : IU r (k + 1).toNat = if decide (r.CK.at k = 0) = true then IU r k.toNat else if r.shut.at k = true then IU r k.toNat ++ ([32] ++ AG.called k) ++ [42] else IU r k.toNat ++ ([32] ++ AG.called k) := by
 obtain ⟨m, rfl⟩ := Int.eq_ofNat_of_zero_le h
 rfl
theorem MM (r : Room) : ∀ k : Nat, (IU r k).length ≤ 5 + k * 22
 | 0 => by simp [IU]
 | k + 1 => by
  have ih := MM r k
  have hc := AG.I1 (k : Int)
  unfold IU
  repeat' split
  all_goals (try simp only [List.length_append, List.length_cons, List.length_nil])
  all_goals omega
theorem KK (T : AE) : ∀ k : Nat, (T.FQ k).w = T.w ∧ (T.FQ k).b = T.b ∧ (T.FQ k).out.length ≤ T.out.length + k
 | 0 => ⟨rfl, rfl, by simp [FQ]⟩
 | k + 1 => by
  obtain ⟨h1, h2, h3⟩ := KK T k
  unfold FQ
  split
  ·exact ⟨by simpa using h1, by simpa using h2, by rw [CC]; omega⟩
  ·exact ⟨h1, h2, by omega⟩
theorem Iv {T : AE} {k : Int} (h : 0 ≤ k) : T.FQ (k + 1).toNat = if (!decide (k = T.b) && T.w.Il T.b k) = true then (T.FQ k.toNat).tell ((T.w.AN.at k).name ++ [32, 105, 115, 32, 104, 101, 114, 101, 46]) else T.FQ k.toNat := by
 obtain ⟨m, rfl⟩ := Int.eq_ofNat_of_zero_le h
 rfl
@[simp] theorem HY (T : AE) (s : Ap) (l : List Int) : (T.list s l).w = T.w ∧ (T.list s l).b = T.b ∧ (T.list s l).out.length = T.out.length + 1 := ⟨rfl, rfl, by simp [list]⟩
theorem Um (T : AE) : T.JZ.w = T.w ∧ T.JZ.b = T.b ∧ T.JZ.out.length = T.out.length + 2 := ⟨rfl, rfl, by simp [JZ]⟩
theorem QT (T : AE) : T.D4.w = T.w ∧ T.D4.b = T.b ∧ T.D4.out.length ≤ T.out.length + 3 := by
 have h := T.Um
 unfold D4
 split
 ·have h2 := T.JZ.HY [72, 101, 114, 101, 32, 105, 115] (T.w.has 0 T.me.room)
  exact ⟨h2.1.trans h.1, h2.2.1.trans h.2.1, by omega⟩
 ·exact ⟨h.1, h.2.1, by omega⟩
theorem JQ (T : AE) : T.look.w = T.w ∧ T.look.b = T.b ∧ T.look.out.length ≤ T.out.length + 9 := by
 unfold look
 split
 ·exact ⟨rfl, rfl, by rw [CC]; omega⟩
 ·have h := T.QT
  have h2 := T.D4.KK 6
  exact ⟨h2.1.trans h.1, h2.2.1.trans h.2.1, by omega⟩
end AE
theorem Bf.Ev {xs : List Int} {i : Nat} (h : i < xs.length) : xs.getD i 0 ∈ xs := by
 rw [List.getD_eq_getElem?_getD, List.getElem?_eq_getElem h]
 exact List.getElem_mem h
theorem AG.Sh {w : AG} {r : Int} (h : (!w.HJ r) = false) : 0 ≤ r ∧ r < 6 := by
 unfold AG.HJ at h
 split at h
 ·simp at h
 ·rename_i c; simp at c; omega
theorem AG.Fq {w : AG} {CJ at_ i : Int} (h : i ∈ w.has CJ at_) : 0 ≤ i ∧ i < 9 := by
 unfold AG.has at h
 have := (List.mem_filter.1 h).1
 obtain ⟨n, hn, rfl⟩ := List.mem_map.1 this
 have := List.mem_range.1 hn
 exact ⟨by simp, by show ((n : Nat) : Int) < 9; omega⟩
theorem AG.IB (w : AG) (CJ at_ : Int) : (w.has CJ at_).length ≤ 9 := by
 rw [AG.Tj]; exact AG.SL w CJ at_ _
end Go.Ing
/- What beings do keeps the land good: plain laws. -/
namespace Go.Ing
open Go
theorem Vector.Ed {α : Type} [Inhabited α] {n : Nat} (v : Vector α n) (k : Int) (x y : α) : (v.put k x).put k y = v.put k y := by
 unfold Vector.put
 apply Vector.ext
 intro i hi
 simp only [Vector.getElem_setIfInBounds]
 split <;> rfl
theorem Vector.CB {α : Type} [Inhabited α] {n : Nat} {v : Vector α n} {k : Int} {x : α} (h0 : 0 ≤ k) (h1 : k < n) : (v.put k x).at k = x := by rw [I8 v k k x h0 h1 h0, if_pos rfl]
theorem Vector.ET {α : Type} [Inhabited α] {n : Nat} {v : Vector α n} {k i : Int} {x : α} (h0 : 0 ≤ k) (h1 : k < n) (hi : 0 ≤ i) (hn : i ≠ k) : (v.put k x).at i = v.at i := by rw [I8 v k i x h0 h1 hi, if_neg hn]
namespace AG
variable {X Y : AG}
theorem Out.path : ∀ {m : Nat} {i : Int}, 0 ≤ i → i < 9 → Out X m i → ∃ s : List Int, Rn s + s.length = 9 ∧ s.length = m + 1 ∧ ∀ j ∈ s, ∃ k, k ≤ m ∧ Out X k j
 | 0, i, h0, h9, h => ⟨[] ++ [i], by have := N7 (s := []) (i := i) (by simp) h0 h9; simp only [List.length_append, List.length_cons, List.length_nil]; have : Rn [] = 9 := rfl; omega, rfl, fun j hj => by
   have : j = i := by simpa using hj
   subst this; exact ⟨0, Nat.le_refl _, h⟩⟩
 | m + 1, i, h0, h9, h => by
  obtain ⟨s, h1, h2, h3⟩ := Out.path h.2.1 h.2.2.1 h.2.2.2
  have hn : i ∉ s := fun hm => by
   obtain ⟨k, hk, ho⟩ := h3 i hm
   have := h.uniq ho
   omega
  have hl := N7 hn h0 h9
  refine ⟨s ++ [i], by simp only [List.length_append, List.length_cons, List.length_nil]; omega, by simp only [List.length_append, List.length_cons, List.length_nil]; omega, fun j hj => ?_⟩
  rcases List.mem_append.1 hj with hj | hj
  ·obtain ⟨k, hk, ho⟩ := h3 j hj
   exact ⟨k, by omega, ho⟩
  ·have : j = i := by simpa using hj
   subst this; exact ⟨m + 1, Nat.le_refl _, h⟩
theorem Out.dq {m : Nat} {i : Int} (h0 : 0 ≤ i) (h9 : i < 9) (h : Out X m i) : m ≤ 8 := by
 obtain ⟨s, h1, h2, _⟩ := h.path h0 h9
 omega
theorem Lk : ∀ {m n : Nat} {i : Int}, Out X m i → m < n → X.Ja n (X.AL.at i) = true
 | _, 0, _, _, h => absurd h (Nat.not_lt_zero _)
 | 0, n + 1, i, h, _ => by
  unfold Ja
  rw [if_pos (by simpa using (show (X.AL.at i).CJ ≠ 2 from h))]
 | m + 1, n + 1, i, h, hl => by
  unfold Ja
  rw [if_neg (by simp [h.1]), if_neg (by have := h.2.1; have := h.2.2.1; simp; omega)]
  exact Lk h.2.2.2 (by omega)
structure OL (X : AG) (i : Int) : Prop where
 k0 : 0 ≤ (X.AL.at i).kind
 k3 : (X.AL.at i).kind ≤ 3
 plain : (X.AL.at i).kind = 0 → (X.AL.at i).on = false
 a0 : 0 ≤ (X.AL.at i).at_
 CJ : ((X.AL.at i).CJ = 0 ∧ (X.AL.at i).at_ < 6 ∧ ¬ ((X.AL.at i).kind = 2 ∧ (X.AL.at i).on = true)) ∨
  ((X.AL.at i).CJ = 1 ∧ (X.AL.at i).at_ < 6 ∧ (X.AN.at (X.AL.at i).at_).here = true) ∨
  ((X.AL.at i).CJ = 2 ∧ (X.AL.at i).at_ < 9 ∧ (X.AL.at (X.AL.at i).at_).kind = 3 ∧ ¬ ((X.AL.at i).kind = 2 ∧ (X.AL.at i).on = true))
theorem Qb.p {i : Int} (h : Qb X i) : OL X i := ⟨h.k0, h.k3, h.plain, h.a0, by
 rcases h.CJ with h | h | ⟨h1, h2, h3, h4, _⟩
 ·exact .inl h
 ·exact .inr (.inl h)
 ·exact .inr (.inr ⟨h1, h2, h3, h4⟩)⟩
theorem Qr {i : Int} (h : OL X i) (h0 : 0 ≤ i) (h9 : i < 9) {m : Nat} (ho : Out X m i) : X.Cd i = true := by
 have hc := Lk ho (show m < 10 by have := ho.dq h0 h9; omega)
 have := h.k0; have := h.k3; have := h.a0
 unfold Cd
 rw [if_neg (by
  simp only [Bool.or_eq_true, Bool.and_eq_true, decide_eq_true_eq]
  rintro (((h1 | h1) | ⟨h1, h2⟩) | h1)
  ·omega
  ·omega
  ·rw [h.plain h1] at h2; cases h2
  ·omega)]
 rcases h.CJ with ⟨w, a, b⟩ | ⟨w, a, b⟩ | ⟨w, a, k, b⟩
 ·rw [if_pos (by simp [w])]
  simp only [Bool.and_eq_true, decide_eq_true_eq, Bool.not_eq_true']
  refine ⟨a, ?_⟩
  cases hh : (decide ((X.AL.at i).kind = 2) && (X.AL.at i).on) with
  | false => rfl
  | true => rw [Bool.and_eq_true] at hh; exact absurd ⟨of_decide_eq_true hh.1, hh.2⟩ b
 ·rw [if_neg (by simp [w]), if_pos (by simp [w])]
  simp [a, b]
 ·rw [if_neg (by simp [w]), if_neg (by simp [w]), if_pos (by simp [w]), if_neg (by
   simp only [Bool.or_eq_true, Bool.and_eq_true, decide_eq_true_eq, Bool.not_eq_true', decide_eq_false_iff_not]
   rintro ((h1 | h1) | ⟨h1, h2⟩)
   ·omega
   ·exact h1 k
   ·exact b ⟨h1, h2⟩)]
  exact hc
theorem QX (hr : ∀ r d, 0 ≤ r → r < 6 → 0 ≤ d → d < 6 → Hz (X.BR.at r) d = false) (hb : ∀ b, 0 ≤ b → b < 6 → DM (X.AN.at b) = false) (ht : ∀ i, 0 ≤ i → i < 9 → OL X i ∧ ∃ m, Out X m i) : X.BZ = true := by
 unfold BZ
 rw [Bool.and_eq_true, Bool.and_eq_true]
 refine ⟨(DX 6).2 fun r h0 h1 => ?_, (DX 6).2 fun b h0 h1 => ?_, (DX 9).2 fun i h0 h1 => ?_⟩
 ·exact (DX 6).2 fun d d0 d1 => by rw [hr r d (by omega) h1 (by omega) d1]; rfl
 ·rw [hb b (by omega) h1]; rfl
 ·obtain ⟨hp, m, ho⟩ := ht i (by omega) h1
  exact Qr hp (by omega) h1 ho
theorem Out.same (h : ∀ i, 0 ≤ i → i < 9 → (Y.AL.at i).CJ = (X.AL.at i).CJ ∧ (Y.AL.at i).at_ = (X.AL.at i).at_) : ∀ {m : Nat} {i : Int}, 0 ≤ i → i < 9 → Out X m i → Out Y m i
 | 0, i, h0, h9, ho => by show (Y.AL.at i).CJ ≠ 2; rw [(h i h0 h9).1]; exact ho
 | m + 1, i, h0, h9, ho => by
  refine ⟨(h i h0 h9).1.trans ho.1, ?_⟩
  rw [(h i h0 h9).2]
  exact ⟨ho.2.1, ho.2.2.1, Out.same h ho.2.1 ho.2.2.1 ho.2.2.2⟩
theorem Out.other {k : Int} (h : ∀ i, 0 ≤ i → i < 9 → i ≠ k → Y.AL.at i = X.AL.at i) (hk : ∃ m, Out Y m k) : ∀ {m : Nat} {i : Int}, 0 ≤ i → i < 9 → Out X m i → ∃ m', Out Y m' i
 | 0, i, h0, h9, ho => by
  by_cases e : i = k
  ·subst e; exact hk
  ·exact ⟨0, by show (Y.AL.at i).CJ ≠ 2; rw [h i h0 h9 e]; exact ho⟩
 | m + 1, i, h0, h9, ho => by
  by_cases e : i = k
  ·subst e; exact hk
  ·obtain ⟨m', h'⟩ := Out.other h hk ho.2.1 ho.2.2.1 ho.2.2.2
   exact ⟨m' + 1, by rw [Out, h i h0 h9 e]; exact ⟨ho.1, ho.2.1, ho.2.2.1, h'⟩⟩
theorem Out.ai {k : Int} (h : ∀ i, 0 ≤ i → i < 9 → i ≠ k → Y.AL.at i = X.AL.at i) : ∀ {m n : Nat} {i : Int}, 0 ≤ i → i < 9 → Out X m i → m < n → X.inside k n i = false → Out Y m i
 | 0, 0, _, _, _, _, hl, _ => absurd hl (Nat.not_lt_zero _)
 | _ + 1, 0, _, _, _, _, hl, _ => absurd hl (Nat.not_lt_zero _)
 | 0, n + 1, i, h0, h9, ho, hl, hi => by
  have e : i ≠ k := fun e => by unfold inside at hi; rw [if_pos (by simp [e])] at hi; cases hi
  show (Y.AL.at i).CJ ≠ 2; rw [h i h0 h9 e]; exact ho
 | m + 1, n + 1, i, h0, h9, ho, hl, hi => by
  have e : i ≠ k := fun e => by unfold inside at hi; rw [if_pos (by simp [e])] at hi; cases hi
  unfold inside at hi
  rw [if_neg (by simp [e]), if_neg (by simp [ho.1]; omega)] at hi
  rw [Out, h i h0 h9 e]
  exact ⟨ho.1, ho.2.1, ho.2.2.1, Out.ai h ho.2.1 ho.2.2.1 ho.2.2.2 (by omega) hi⟩
end AG
end Go.Ing
/- What beings do keeps the land good: the parts of a turn. -/
namespace Go.Ing
open Go
theorem Vector.Pc {α : Type} [Inhabited α] {n : Nat} (v : Vector α n) (k i : Int) (x : α) : (v.put k x).at i = x ∨ (v.put k x).at i = v.at i := by
 unfold Vector.put Vector.at
 rw [List.getD_eq_getElem?_getD, List.getD_eq_getElem?_getD]
 simp only [Vector.toList_setIfInBounds]
 rw [List.getElem?_set]
 split
 ·split
  ·exact .inl rfl
  ·rename_i h1 h2
   exact .inr (by rw [← h1, List.getElem?_eq_none (by omega)])
 ·exact .inr rfl
namespace AG
variable {X : AG}
def Gf (X : AG) (i : Int) (t : Ag) : AG := { X with AL := X.AL.put i t }
def Cz (X : AG) (b : Int) (x : Ak) : AG := { X with AN := X.AN.put b x }
def M6 (X : AG) (r d : Int) (v : Bool) : AG := { X with BR := X.BR.put r { X.BR.at r with shut := (X.BR.at r).shut.put d v } }
theorem HT (hg : X.BZ = true) {i : Int} (h0 : 0 ≤ i) (h9 : i < 9) : OL X i := (Nu (Ko hg h0 h9)).p
theorem KE (hg : X.BZ = true) {i : Int} (h0 : 0 ≤ i) (h9 : i < 9) : ∃ m, Out X m i := by
 obtain ⟨m, _, h⟩ := LL hg h0 h9; exact ⟨m, h⟩
theorem KL {i j : Int} (h0 : 0 ≤ i) (h9 : i < 9) (j0 : 0 ≤ j) (hn : j ≠ i) (t : Ag) : (X.Gf i t).AL.at j = X.AL.at j := Vector.ET h0 h9 j0 hn
theorem Fx {i : Int} (h0 : 0 ≤ i) (h9 : i < 9) (t : Ag) : (X.Gf i t).AL.at i = t := Vector.CB h0 h9
theorem GN {i j : Int} (h0 : 0 ≤ i) (h9 : i < 6) (j0 : 0 ≤ j) (hn : j ≠ i) (t : Ak) : (X.Cz i t).AN.at j = X.AN.at j := Vector.ET h0 h9 j0 hn
theorem EC {i : Int} (h0 : 0 ≤ i) (h9 : i < 6) (t : Ak) : (X.Cz i t).AN.at i = t := Vector.CB h0 h9
theorem J4 (hg : X.BZ = true) {i : Int} (h0 : 0 ≤ i) (h9 : i < 9) {t : Ag} (hk : t.kind = (X.AL.at i).kind) (hp : OL (X.Gf i t) i) (ho : ∃ m, Out (X.Gf i t) m i) : (X.Gf i t).BZ = true := by
 have hs : ∀ j, 0 ≤ j → j < 9 → j ≠ i → (X.Gf i t).AL.at j = X.AL.at j := fun j j0 _ hn => KL h0 h9 j0 hn t
 refine QX (fun r d r0 r6 d0 d6 => KF hg r0 r6 d0 d6) (fun b b0 b6 => Ei hg b0 b6) fun j j0 j9 => ?_
 obtain ⟨m, hm⟩ := KE hg j0 j9
 refine ⟨?_, Out.other hs ho j0 j9 hm⟩
 by_cases e : j = i
 ·subst e; exact hp
 ·have q := HT hg j0 j9
  have hkk : ∀ a, 0 ≤ a → a < 9 → ((X.Gf i t).AL.at a).kind = (X.AL.at a).kind := fun a a0 a9 => by
   by_cases ea : a = i
   ·subst ea; rw [Fx h0 h9, hk]
   ·rw [hs a a0 a9 ea]
  have ej := hs j j0 j9 e
  refine ⟨by rw [ej]; exact q.k0, by rw [ej]; exact q.k3, by rw [ej]; exact q.plain, by rw [ej]; exact q.a0, ?_⟩
  rw [ej]
  rcases q.CJ with h | h | ⟨h1, h2, h3, h4⟩
  ·exact .inl h
  ·exact .inr (.inl h)
  ·exact .inr (.inr ⟨h1, h2, by rw [hkk _ q.a0 h2]; exact h3, h4⟩)
theorem IZ (hg : X.BZ = true) {b : Int} (h0 : 0 ≤ b) (h6 : b < 6) {x : Ak} (hx : DM x = false) (hh : ∀ i, 0 ≤ i → i < 9 → (X.AL.at i).CJ = 1 → (X.AL.at i).at_ = b → x.here = true) : (X.Cz b x).BZ = true := by
 refine QX (fun r d r0 r6 d0 d6 => KF hg r0 r6 d0 d6) (fun c c0 c6 => ?_) fun j j0 j9 => ?_
 ·by_cases e : c = b
  ·subst e; rw [EC h0 h6]; exact hx
  ·rw [GN h0 h6 c0 e]; exact Ei hg c0 c6
 ·obtain ⟨m, hm⟩ := KE hg j0 j9
  refine ⟨?_, m, Out.same (X := X) (Y := X.Cz b x) (fun _ _ _ => ⟨rfl, rfl⟩) j0 j9 hm⟩
  have q := HT hg j0 j9
  refine ⟨q.k0, q.k3, q.plain, q.a0, ?_⟩
  rcases q.CJ with h | ⟨h1, h2, h3⟩ | h
  ·exact .inl h
  ·refine .inr (.inl ⟨h1, h2, ?_⟩)
   show ((X.Cz b x).AN.at (X.AL.at j).at_).here = true
   by_cases e : (X.AL.at j).at_ = b
   ·rw [e, EC h0 h6]; exact hh j j0 j9 h1 e
   ·rw [GN h0 h6 q.a0 e]; exact h3
  ·exact .inr (.inr h)
theorem VP (hg : X.BZ = true) {r d : Int} (h0 : 0 ≤ r) (h6 : r < 6) (d0 : 0 ≤ d) (d6 : d < 6) {v : Bool} (hv : v = true → (X.BR.at r).CK.at d ≠ 0) : (X.M6 r d v).BZ = true := by
 refine QX (fun c e c0 c6 e0 e6 => ?_) (fun b b0 b6 => Ei hg b0 b6) fun j j0 j9 => ?_
 ·have q := KF hg c0 c6 e0 e6
  by_cases ec : c = r
  ·subst ec
   have er : (X.M6 c d v).BR.at c = { X.BR.at c with shut := (X.BR.at c).shut.put d v } := Vector.CB h0 h6
   rw [er]
   unfold Hz at q ⊢
   show (decide ((X.BR.at c).CK.at e < 0) || decide (6 < (X.BR.at c).CK.at e) || (decide ((X.BR.at c).CK.at e = 0) && ((X.BR.at c).shut.put d v).at e)) = false
   rw [I8 _ _ _ _ d0 d6 e0]
   split
   ·rename_i ee
    subst ee
    cases v with
    | false =>
     simp only [Bool.and_false, Bool.or_false]
     rw [Bool.or_eq_false_iff] at q
     exact q.1
    | true => simpa [hv rfl] using (Bool.or_eq_false_iff.1 q).1
   ·exact q
  ·rw [show (X.M6 r d v).BR.at c = X.BR.at c from Vector.ET h0 h6 c0 ec]; exact q
 ·obtain ⟨m, hm⟩ := KE hg j0 j9
  have q := HT hg j0 j9
  exact ⟨⟨q.k0, q.k3, q.plain, q.a0, q.CJ⟩, m, Out.same (X := X) (Y := X.M6 r d v) (fun _ _ _ => ⟨rfl, rfl⟩) j0 j9 hm⟩
/-! #### what is done to a thing -/
section
variable {i : Int} (hg : X.BZ = true) (h0 : 0 ≤ i) (h9 : i < 9)
include hg h0 h9
theorem UH {v : Bool} (h1 : (X.AL.at i).kind ≠ 0) (h2 : (X.AL.at i).kind = 2 → (X.AL.at i).CJ = 1) : (X.Gf i { X.AL.at i with on := v }).BZ = true := by
 have q := HT hg h0 h9
 obtain ⟨m, hm⟩ := KE hg h0 h9
 have hs : ∀ j, 0 ≤ j → j < 9 → ((X.Gf i { X.AL.at i with on := v }).AL.at j).CJ = (X.AL.at j).CJ ∧ ((X.Gf i { X.AL.at i with on := v }).AL.at j).at_ = (X.AL.at j).at_ := fun j j0 _ => by
  by_cases e : j = i
  ·subst e; rw [Fx h0 h9]; exact ⟨rfl, rfl⟩
  ·rw [KL h0 h9 j0 e]; exact ⟨rfl, rfl⟩
 have hkk : ∀ a, 0 ≤ a → ((X.Gf i { X.AL.at i with on := v }).AL.at a).kind = (X.AL.at a).kind := fun a a0 => by
  by_cases ea : a = i
  ·subst ea; rw [Fx h0 h9]
  ·rw [KL h0 h9 a0 ea]
 refine J4 hg h0 h9 (by rfl) ?_ ⟨m, Out.same hs h0 h9 hm⟩
 refine ⟨?_, ?_, ?_, ?_, ?_⟩ <;> rw [Fx h0 h9]
 ·exact q.k0
 ·exact q.k3
 ·exact fun e => absurd e h1
 ·exact q.a0
 ·rcases q.CJ with ⟨a, b, c⟩ | h | ⟨a, b, c, d⟩
  ·exact .inl ⟨a, b, fun ⟨e, _⟩ => by have := h2 e; omega⟩
  ·exact .inr (.inl h)
  ·refine .inr (.inr ⟨a, b, ?_, fun ⟨e, _⟩ => by have := h2 e; omega⟩)
   show ((X.Gf i { X.AL.at i with on := v }).AL.at (X.AL.at i).at_).kind = 3
   rw [hkk _ q.a0]; exact c
theorem Ma {v : Bool} {a : Int} (ha : 0 ≤ a ∧ a < 6) (hv : (X.AL.at i).kind = 0 → v = false) (hc : ¬ ((X.AL.at i).kind = 2 ∧ v = true)) : (X.Gf i { X.AL.at i with on := v, CJ := 0, at_ := a }).BZ = true := by
 have q := HT hg h0 h9
 refine J4 hg h0 h9 (by rfl) ?_ ⟨0, by show ((X.Gf i _).AL.at i).CJ ≠ 2; rw [Fx h0 h9]; intro hc; cases hc⟩
 refine ⟨?_, ?_, ?_, ?_, ?_⟩ <;> rw [Fx h0 h9]
 ·exact q.k0
 ·exact q.k3
 ·exact hv
 ·exact ha.1
 ·exact .inl ⟨rfl, ha.2, hc⟩
theorem SZ {a : Int} (ha : 0 ≤ a ∧ a < 6) (hh : (X.AN.at a).here = true) : (X.Gf i { X.AL.at i with CJ := 1, at_ := a }).BZ = true := by
 have q := HT hg h0 h9
 refine J4 hg h0 h9 (by rfl) ?_ ⟨0, by show ((X.Gf i _).AL.at i).CJ ≠ 2; rw [Fx h0 h9]; intro hc; cases hc⟩
 refine ⟨?_, ?_, ?_, ?_, ?_⟩ <;> rw [Fx h0 h9]
 ·exact q.k0
 ·exact q.k3
 ·exact q.plain
 ·exact ha.1
 ·exact .inr (.inl ⟨rfl, ha.2, hh⟩)
theorem RR {a : Int} (ha : 0 ≤ a ∧ a < 9) (hk : (X.AL.at a).kind = 3) (hc : ¬ ((X.AL.at i).kind = 2 ∧ (X.AL.at i).on = true)) (hi : X.Tf a i = false) : (X.Gf i { X.AL.at i with CJ := 2, at_ := a }).BZ = true := by
 have q := HT hg h0 h9
 have hs : ∀ j, 0 ≤ j → j < 9 → j ≠ i → (X.Gf i { X.AL.at i with CJ := 2, at_ := a }).AL.at j = X.AL.at j := fun j j0 _ hn => KL h0 h9 j0 hn _
 have hai : a ≠ i := fun e => by subst e; rw [VJ] at hi; cases hi
 obtain ⟨m, hm10, hm⟩ := LL hg ha.1 ha.2
 have hm' := Out.ai hs ha.1 ha.2 hm hm10 hi
 refine J4 hg h0 h9 (by rfl) ?_ ⟨m + 1, by rw [Out, Fx h0 h9]; exact ⟨rfl, ha.1, ha.2, hm'⟩⟩
 refine ⟨?_, ?_, ?_, ?_, ?_⟩ <;> rw [Fx h0 h9]
 ·exact q.k0
 ·exact q.k3
 ·exact q.plain
 ·exact ha.1
 ·refine .inr (.inr ⟨rfl, ha.2, ?_, hc⟩)
  show ((X.Gf i _).AL.at a).kind = 3
  rw [hs a ha.1 ha.2 hai]; exact hk
end
end AG
end Go.Ing
/- What beings do keeps the land good: a turn. -/
namespace Go.Ing
open Go
namespace AG
end AG
namespace AE
structure Fit (T : AE) : Prop where
 b : 0 ≤ T.b ∧ T.b < 6
 br : T.w.DE
 gd : T.w.BZ = true
 here : (T.w.AN.at T.b).here = true
structure Step (b : Int) (X Y : AG) : Prop where
 th : ∀ i, 0 ≤ i → i < 9 → (Y.AL.at i).name = (X.AL.at i).name ∧ (Y.AL.at i).kind = (X.AL.at i).kind
 own : ∀ i, 0 ≤ i → i < 9 → (X.AL.at i).CJ = 1 → (X.AL.at i).at_ ≠ b → Y.AL.at i = X.AL.at i
 be : ∀ c, 0 ≤ c → c < 6 → c ≠ b → { Y.AN.at c with Bx := 0 } = { X.AN.at c with Bx := 0 }
 ro : ∀ r, 0 ≤ r → r < 6 → (Y.BR.at r).name = (X.BR.at r).name ∧ (Y.BR.at r).MH = (X.BR.at r).MH ∧ (Y.BR.at r).CK = (X.BR.at r).CK
theorem Step.refl (b : Int) (X : AG) : Step b X X := ⟨fun _ _ _ => ⟨rfl, rfl⟩, fun _ _ _ _ _ => rfl, fun _ _ _ _ => rfl, fun _ _ _ => ⟨rfl, rfl, rfl⟩⟩
theorem Step.trans {b : Int} {X Y Z : AG} (h : Step b X Y) (k : Step b Y Z) : Step b X Z :=
  ⟨fun i h0 h9 => ⟨(k.th i h0 h9).1.trans (h.th i h0 h9).1, (k.th i h0 h9).2.trans (h.th i h0 h9).2⟩,
   fun i h0 h9 h1 h2 => by
    have e := h.own i h0 h9 h1 h2
    exact (k.own i h0 h9 (by rw [e]; exact h1) (by rw [e]; exact h2)).trans e,
   fun c h0 h6 hn => (k.be c h0 h6 hn).trans (h.be c h0 h6 hn),
   fun r h0 h6 => ⟨(k.ro r h0 h6).1.trans (h.ro r h0 h6).1, (k.ro r h0 h6).2.1.trans (h.ro r h0 h6).2.1, (k.ro r h0 h6).2.2.trans (h.ro r h0 h6).2.2⟩⟩
theorem Fit.EZ {T T' : AE} (h : T.Fit) (hw : T'.w = T.w) (hb : T'.b = T.b) : T'.Fit := ⟨by rw [hb]; exact h.b, by rw [hw]; exact h.br, by rw [hw]; exact h.gd, by rw [hw, hb]; exact h.here⟩
theorem Fit.BO {T : AE} (h : T.Fit) (e : Event) : (T.BO e).Fit := h.EZ rfl rfl
theorem Fit.tell {T : AE} (h : T.Fit) (s : Ap) : (T.tell s).Fit := h.EZ rfl rfl
theorem Fit.room {T : AE} (h : T.Fit) : 0 ≤ (T.w.AN.at T.b).room ∧ (T.w.AN.at T.b).room < 6 := by
 have := AG.Ei h.gd h.b.1 h.b.2
 simp only [AG.DM, Bool.or_eq_false_iff, decide_eq_false_iff_not] at this
 omega
theorem Fit.exit {T : AE} (h : T.Fit) {d : Int} (d0 : 0 ≤ d) (d6 : d < 6) : 0 ≤ (T.w.BR.at (T.w.AN.at T.b).room).CK.at d ∧ (T.w.BR.at (T.w.AN.at T.b).room).CK.at d ≤ 6 := by
 have := AG.KF h.gd h.room.1 h.room.2 d0 d6
 simp only [AG.Hz, Bool.or_eq_false_iff, decide_eq_false_iff_not] at this
 omega
theorem Tk {X : AG} (h : X.DE) {i : Int} {t : Ag} (ht : t.name.length ≤ 140737488351232) : (X.Gf i t).DE := ⟨fun j => by
 rcases Vector.Pc X.AL i j t with e | e
 ·show ((X.AL.put i t).at j).name.length ≤ _; rw [e]; exact ht
 ·show ((X.AL.put i t).at j).name.length ≤ _; rw [e]; exact h.th j, h.be, h.ro⟩
theorem Eg {X : AG} (h : X.DE) {i : Int} {t : Ak} (ht : t.name.length ≤ 140737488351232) : (X.Cz i t).DE := ⟨h.th, fun j => by
 rcases Vector.Pc X.AN i j t with e | e
 ·show ((X.AN.put i t).at j).name.length ≤ _; rw [e]; exact ht
 ·show ((X.AN.put i t).at j).name.length ≤ _; rw [e]; exact h.be j, h.ro⟩
theorem TI {X : AG} (h : X.DE) {r d : Int} {v : Bool} : (X.M6 r d v).DE := ⟨h.th, h.be, fun j => by
 rcases Vector.Pc X.BR r j { X.BR.at r with shut := (X.BR.at r).shut.put d v } with e | e
 ·show ((X.BR.put r _).at j).name.length ≤ _; rw [e]; exact h.ro r
 ·show ((X.BR.put r _).at j).name.length ≤ _; rw [e]; exact h.ro j⟩
theorem VQ {b : Int} {X : AG} {i : Int} (h0 : 0 ≤ i) (h9 : i < 9) {t : Ag} (hn : t.name = (X.AL.at i).name) (hk : t.kind = (X.AL.at i).kind) (ho : (X.AL.at i).CJ = 1 → (X.AL.at i).at_ = b) : Step b X (X.Gf i t) :=
  ⟨fun j j0 _ => by
    by_cases e : j = i
    · subst e; rw [AG.Fx h0 h9]; exact ⟨hn, hk⟩
    · rw [AG.KL h0 h9 j0 e]; exact ⟨rfl, rfl⟩,
   fun j j0 _ h1 h2 => by
    by_cases e : j = i
    · subst e; exact absurd (ho h1) h2
    · rw [AG.KL h0 h9 j0 e],
   fun _ _ _ _ => rfl, fun _ _ _ => ⟨rfl, rfl, rfl⟩⟩
theorem MQ {b : Int} {X : AG} {i : Int} (h0 : 0 ≤ i) (h6 : i < 6) {t : Ak} (hn : i ≠ b → { t with Bx := 0 } = { X.AN.at i with Bx := 0 }) : Step b X (X.Cz i t) :=
 ⟨fun _ _ _ => ⟨rfl, rfl⟩, fun _ _ _ _ _ => rfl, fun c c0 _ hc => by
  by_cases e : c = i
  ·subst e; rw [AG.EC h0 h6]; exact hn hc
  ·rw [AG.GN h0 h6 c0 e], fun _ _ _ => ⟨rfl, rfl, rfl⟩⟩
theorem U0 {b : Int} {X : AG} {r d : Int} (h0 : 0 ≤ r) (h6 : r < 6) {v : Bool} : Step b X (X.M6 r d v) :=
 ⟨fun _ _ _ => ⟨rfl, rfl⟩, fun _ _ _ _ _ => rfl, fun _ _ _ _ => rfl, fun j j0 _ => by
  by_cases e : j = r
  ·subst e
   rw [show (X.M6 j d v).BR.at j = { X.BR.at j with shut := (X.BR.at j).shut.put d v } from Vector.CB h0 h6]
   exact ⟨rfl, rfl, rfl⟩
  ·rw [show (X.M6 r d v).BR.at j = X.BR.at j from Vector.ET h0 h6 j0 e]
   exact ⟨rfl, rfl, rfl⟩⟩
structure DB (T T' : AE) : Prop where
 b : T'.b = T.b
 fit : T'.Fit
 st : Step T.b T.w T'.w
theorem DB.trans {T T' T'' : AE} (h : DB T T') (k : DB T' T'') : DB T T'' := ⟨k.b.trans h.b, k.fit, h.st.trans (by have := k.st; rwa [h.b] at this)⟩
theorem Fit.goes {T : AE} (h : T.Fit) : DB T T := ⟨rfl, h, .refl _ _⟩
theorem DB.EZ {T T' T'' : AE} (h : DB T T') (hw : T''.w = T'.w) (hb : T''.b = T'.b) : DB T T'' := ⟨hb.trans h.b, h.fit.EZ hw hb, by rw [hw]; exact h.st⟩
theorem Oy {T : AE} (h : T.Fit) {r : Int} (hr : 0 ≤ r ∧ r < 6) : DB T (T.F2 r) := by
 have hg := AG.Ei h.gd h.b.1 h.b.2
 have hme : ((T.F2 r).w.AN.at T.b) = { T.me with room := r, Bx := 0 } := Vector.CB h.b.1 h.b.2
 refine ⟨rfl, ⟨h.b, Eg h.br (h.br.be T.b), AG.IZ h.gd h.b.1 h.b.2 ?_ fun _ _ _ _ _ => h.here, ?_⟩, MQ h.b.1 h.b.2 fun hn => absurd rfl hn⟩
 ·unfold AG.DM at hg ⊢
  show (decide (r < 0) || decide (6 ≤ r) || decide ((T.w.AN.at T.b).BH < 0) || decide (10 < (T.w.AN.at T.b).BH) || decide ((0 : Int) < 0) || decide (6 < (0 : Int)) || (!(T.w.AN.at T.b).here && !decide ((0 : Int) = 0)) || (T.w.AN.at T.b).here != decide (0 < (T.w.AN.at T.b).BH)) = false
  simp only [Bool.or_eq_false_iff, decide_eq_false_iff_not] at hg ⊢
  refine ⟨⟨⟨⟨⟨⟨⟨by omega, by omega⟩, hg.1.1.1.1.1.2⟩, hg.1.1.1.1.2⟩, by decide⟩, by decide⟩, by simp⟩, hg.2⟩
 ·show ((T.F2 r).w.AN.at T.b).here = true
  rw [hme]; exact h.here
theorem QF {T : AE} (h : T.Fit) : DB T T.look := h.goes.EZ T.JQ.1 T.JQ.2.1
theorem VB {T : AE} (h : T.Fit) {d : Int} (d0 : 0 ≤ d) (d6 : d < 6) : DB T (T.walk d) := by
 unfold walk
 split
 ·exact h.goes.EZ rfl rfl
 ·split
  ·exact h.goes.EZ rfl rfl
  ·rename_i h1 _
   have hx := h.exit d0 d6
   have h1' : (T.w.BR.at (T.w.AN.at T.b).room).CK.at d ≠ 0 := fun e => h1 (decide_eq_true e)
   have g1 : DB T (T.BO { Fj 1 with dir := d }) := h.goes.EZ rfl rfl
   have g2 := g1.trans (Oy g1.fit (r := (T.w.BR.at T.me.room).CK.at d - 1) (by show 0 ≤ (T.w.BR.at (T.w.AN.at T.b).room).CK.at d - 1 ∧ (T.w.BR.at (T.w.AN.at T.b).room).CK.at d - 1 < 6; omega))
   have g3 := g2.EZ (T'' := ((T.BO { Fj 1 with dir := d }).F2 ((T.w.BR.at T.me.room).CK.at d - 1)).BO { Fj 2 with dir := AG.opposite d }) rfl rfl
   exact g3.trans (QF g3.fit)
end AE
end Go.Ing
/- What beings do keeps the land good: each order. -/
namespace Go.Ing
open Go
namespace AG
variable {X : AG}
theorem Qw {CJ at_ i : Int} (h : i ∈ X.has CJ at_) : (X.AL.at i).CJ = CJ ∧ (X.AL.at i).at_ = at_ := by
 have := (List.mem_filter.1 h).2
 rw [Bool.and_eq_true] at this
 exact ⟨of_decide_eq_true this.1, of_decide_eq_true this.2⟩
theorem Ps (CJ at_ : Int) : (X.has CJ at_).Nodup := by
 unfold has
 exact List.Pairwise.filter _ (by decide)
end AG
namespace AE
/-! #### which things are meant -/
theorem EP (w : AG) (l : List Int) (nth : Int) (name : Ap) (all : Bool) : (BP w l nth name all).Sublist l := by
 unfold BP
 split
 ·exact List.filter_sublist
 ·split
  ·exact List.nil_sublist _
  ·exact ((List.drop_sublist _ _).trans (List.take_sublist _ _)).trans List.filter_sublist
theorem Dj {w : AG} {l : List Int} {nth : Int} {name : Ap} {all : Bool} {i : Int} (h : i ∈ BP w l nth name all) : i ∈ l := (EP w l nth name all).mem h
def Ia (X : AG) (b i : Int) : Prop := 0 ≤ i ∧ i < 9 ∧ ((X.AL.at i).CJ = 1 → (X.AL.at i).at_ = b)
def dL (X : AG) (b i : Int) : Prop := 0 ≤ i ∧ i < 9 ∧ (X.AL.at i).CJ = 1 ∧ (X.AL.at i).at_ = b
theorem dL.TY {X : AG} {b i : Int} (h : dL X b i) : Ia X b i := ⟨h.1, h.2.1, fun _ => h.2.2.2⟩
theorem FD {T : AE} {i : Int} (h : i ∈ T.own) : dL T.w T.b i := ⟨(AG.Fq h).1, (AG.Fq h).2, (AG.Qw h).1, (AG.Qw h).2⟩
theorem XU {X : AG} {b CJ at_ i : Int} (hw : CJ ≠ 1) (h : i ∈ X.has CJ at_) : Ia X b i := ⟨(AG.Fq h).1, (AG.Fq h).2, fun e => absurd ((AG.Qw h).1.symm.trans e) hw⟩
theorem JM {T : AE} {i : Int} (h : i ∈ T.seen) : 0 ≤ i ∧ i < 9 ∧ (T.w.AL.at i).CJ = 0 := by
 unfold seen at h
 split at h
 ·cases h
 ·exact ⟨(AG.Fq h).1, (AG.Fq h).2, (AG.Qw h).1⟩
theorem MY {T : AE} {i : Int} (h : i ∈ T.seen) : Ia T.w T.b i := by
 obtain ⟨h0, h9, e⟩ := JM h
 exact ⟨h0, h9, fun e1 => by omega⟩
theorem NT {l : List Int} (h : (decide ((l.length : Int) = 0)) = false) : l.getD 0 0 ∈ l := by
 have h' : (l.length : Int) ≠ 0 := of_decide_eq_false h
 exact Bf.Ev (by omega)
theorem Ol {T : AE} {u : Ap} (h : (T.one u).2 = true) : Ia T.w T.b (T.one u).1 := by
 unfold one at h ⊢
 split at h
 ·cases h
 ·rename_i h1
  rw [if_neg h1]
  split at h
  ·cases h
  ·rename_i h2
   rw [if_neg h2]
   have hm := Dj (NT (Bool.not_eq_true _ ▸ h2))
   rcases List.mem_append.1 hm with hm | hm
   ·exact (FD hm).TY
   ·exact MY hm
/-! #### a box, somebody -/
theorem JU (T : AE) (u : Ap) : (T.box u).1.w = T.w ∧ (T.box u).1.b = T.b := by
 unfold box
 split
 ·exact ⟨rfl, rfl⟩
 ·split <;> exact ⟨rfl, rfl⟩
theorem Wa {T : AE} {u : Ap} (h : (T.box u).2.2 = true) : 0 ≤ (T.box u).2.1 ∧ (T.box u).2.1 < 9 ∧ (T.w.AL.at (T.box u).2.1).kind = 3 ∧ (T.box u).1 = T := by
 unfold box at h ⊢
 split at h
 ·cases h
 ·rename_i h1
  rw [if_neg h1]
  split at h
  ·cases h
  ·rename_i h2
   rw [if_neg h2]
   simp only [Bool.or_eq_true, Bool.not_eq_true', decide_eq_false_iff_not, not_or, Bool.not_eq_false, Decidable.not_not] at h1
   have hm := Ol h1.1
   exact ⟨hm.1, hm.2.1, h1.2, rfl⟩
theorem Lw {T : AE} {name : Ap} {k : Int} : ∀ {r : Nat} {n : Int}, r ≤ 6 → T.Io name r n = some k → 0 ≤ k ∧ k < 6 ∧ k ≠ T.b ∧ T.w.Il T.b k = true
 | 0, _, _, h => by cases h
 | r + 1, n, hr, h => by
  unfold Io at h
  split at h
  ·exact Lw (by omega) h
  ·rename_i h1
   split at h
   ·cases h
    simp only [Bool.or_eq_true, decide_eq_true_eq, Bool.not_eq_true', not_or, Bool.not_eq_false] at h1
    exact ⟨by omega, by omega, h1.1.1, h1.2⟩
   ·exact Lw (by omega) h
theorem Is (T : AE) (u : Ap) : (T.A6 u).1.w = T.w ∧ (T.A6 u).1.b = T.b := by
 unfold A6
 split
 ·split <;> exact ⟨rfl, rfl⟩
 ·exact ⟨rfl, rfl⟩
theorem JR {T : AE} {u : Ap} (h : (T.A6 u).2.2 = true) : 0 ≤ (T.A6 u).2.1 ∧ (T.A6 u).2.1 < 6 ∧ (T.A6 u).2.1 ≠ T.b ∧ T.w.Il T.b (T.A6 u).2.1 = true := by
 unfold A6 at h ⊢
 split at h
 ·rename_i h1
  rw [if_pos h1]
  split at h
  ·rename_i k hk
   exact Lw (Nat.le_refl _) hk
  ·cases h
 ·cases h
/-! #### taking and letting go -/
theorem EO {T : AE} (h : T.Fit) {i : Int} (hm : Ia T.w T.b i) {t : Ag} (hn : t.name = (T.w.AL.at i).name) (hk : t.kind = (T.w.AL.at i).kind) (hg : (T.w.Gf i t).BZ = true) : DB T (T.C3 i t) :=
 ⟨rfl, ⟨h.b, Tk h.br (by rw [hn]; exact h.br.th i), hg, h.here⟩, VQ hm.1 hm.2.1 hn hk hm.2.2⟩
theorem R4 {T : AE} (h : T.Fit) {i : Int} (hm : Ia T.w T.b i) (hc : ¬ ((T.w.AL.at i).kind = 2 ∧ (T.w.AL.at i).on = true)) : DB T (T.place i 0 T.me.room) :=
 EO h hm rfl rfl (by
  have := AG.Ma h.gd hm.1 hm.2.1 (v := (T.w.AL.at i).on) h.room (AG.HT h.gd hm.1 hm.2.1).plain hc
  exact this)
theorem Ml {T : AE} (h : T.Fit) {i a : Int} (hm : Ia T.w T.b i) (ha : 0 ≤ a ∧ a < 6) (hh : (T.w.AN.at a).here = true) : DB T (T.place i 1 a) :=
 EO h hm rfl rfl (AG.SZ h.gd hm.1 hm.2.1 ha hh)
theorem RM {T : AE} (h : T.Fit) {i a : Int} (hm : Ia T.w T.b i) (ha : 0 ≤ a ∧ a < 9) (hk : (T.w.AL.at a).kind = 3) (hc : ¬ ((T.w.AL.at i).kind = 2 ∧ (T.w.AL.at i).on = true)) (hi : T.w.Tf a i = false) : DB T (T.place i 2 a) :=
 EO h hm rfl rfl (AG.RR h.gd hm.1 hm.2.1 ha hk hc hi)
theorem HD {T : AE} {i j CJ at_ : Int} (h0 : 0 ≤ i) (h9 : i < 9) (j0 : 0 ≤ j) : (T.place i CJ at_).w.AL.at j = if j = i then { T.w.AL.at i with CJ := CJ, at_ := at_ } else T.w.AL.at j := I8 _ _ _ _ h0 h9 j0
theorem Ix : ∀ {l : List Int} {T : AE}, T.Fit → (∀ i ∈ l, Ia T.w T.b i) → DB T (T.DA l)
 | [], T, h, _ => h.goes
 | i :: r, T, h, hm => by
  have hi := hm i (List.mem_cons_self ..)
  have g1 := Ml h hi h.b h.here
  have g2 : DB T ((T.place i 1 T.b).Bs 3 i) := g1.EZ rfl rfl
  refine g2.trans (Ix g2.fit fun j hj => ?_)
  have hj' := hm j (List.mem_cons_of_mem _ hj)
  refine ⟨hj'.1, hj'.2.1, ?_⟩
  show ((T.place i 1 T.b).w.AL.at j).CJ = 1 → ((T.place i 1 T.b).w.AL.at j).at_ = T.b
  rw [HD hi.1 hi.2.1 hj'.1]
  split
  ·exact fun _ => rfl
  ·exact hj'.2.2
theorem PZ {T : AE} (h : T.Fit) {l : List Int} (hl : ∀ i ∈ l, Ia T.w T.b i) (o : Order) : DB T (T.KU l o) := by
 unfold KU
 have hp : ∀ i ∈ BP T.w l o.nth o.name o.Bi, Ia T.w T.b i := fun i hi => hl i (Dj hi)
 split
 ·have g : DB T (T.tell KC) := h.goes.EZ rfl rfl
  exact g.trans (Ix g.fit hp)
 ·exact Ix h hp
theorem WT {T : AE} (h : T.Fit) (o : Order) : DB T (T.get o) := by
 unfold get
 have g : DB T (T.box o.second).1 := h.goes.EZ (T.JU o.second).1 (T.JU o.second).2
 split
 ·split
  ·exact g
  ·refine g.trans (PZ g.fit (fun i hi => ?_) o)
   rw [(T.JU o.second).1, (T.JU o.second).2] at *
   exact XU (by decide) hi
 ·exact PZ h (fun i hi => MY hi) o
def M0 (T : AE) (v to : Int) : Prop := (v = 8) ∨ (v = 10 ∧ 0 ≤ to ∧ to < 6 ∧ (T.w.AN.at to).here = true) ∨ (v ≠ 8 ∧ v ≠ 10 ∧ 0 ≤ to ∧ to < 9 ∧ (T.w.AL.at to).kind = 3)
theorem M0.next {T T' : AE} {v to : Int} (h : M0 T v to) (hb : T'.w.AN = T.w.AN) (hk : ∀ i, 0 ≤ i → i < 9 → (T'.w.AL.at i).kind = (T.w.AL.at i).kind) : M0 T' v to := by
 rcases h with h | ⟨h1, h2, h3, h4⟩ | ⟨h1, h2, h3, h4, h5⟩
 ·exact .inl h
 ·exact .inr (.inl ⟨h1, h2, h3, by rw [hb]; exact h4⟩)
 ·exact .inr (.inr ⟨h1, h2, h3, h4, by rw [hk _ h3 h4]; exact h5⟩)
theorem Rq {T : AE} (h : T.Fit) {v to i : Int} (hm : Ia T.w T.b i) (ht : M0 T v to) : DB T (T.Cn v to i) ∧ (T.Cn v to i).w.AN = T.w.AN ∧ ∀ j, 0 ≤ j → j ≠ i → (T.Cn v to i).w.AL.at j = T.w.AL.at j := by
 have hpl : ∀ CJ at_, (T.place i CJ at_).w.AN = T.w.AN ∧ ∀ j, 0 ≤ j → j ≠ i → (T.place i CJ at_).w.AL.at j = T.w.AL.at j := fun CJ at_ => ⟨rfl, fun j j0 hn => by rw [HD hm.1 hm.2.1 j0, if_neg hn]⟩
 unfold Cn
 split
 ·exact ⟨h.goes.EZ rfl rfl, rfl, fun _ _ _ => rfl⟩
 ·rename_i h1
  have hc : ¬ ((T.w.AL.at i).kind = 2 ∧ (T.w.AL.at i).on = true) := fun e => h1 (by rw [Bool.and_eq_true]; exact ⟨decide_eq_true e.1, e.2⟩)
  split
  ·exact ⟨(R4 h hm hc).EZ rfl rfl, hpl 0 T.me.room⟩
  ·rename_i h2
   split
   ·rename_i h3
    rcases ht with e | ⟨_, a0, a6, hh⟩ | ⟨_, e, _⟩
    ·exact absurd (decide_eq_true e) h2
    ·exact ⟨(Ml h hm ⟨a0, a6⟩ hh).EZ rfl rfl, hpl 1 to⟩
    ·exact absurd (of_decide_eq_true h3) e
   ·rename_i h3
    split
    ·exact ⟨h.goes.EZ rfl rfl, rfl, fun _ _ _ => rfl⟩
    ·rename_i h4
     rcases ht with e | ⟨e, _⟩ | ⟨_, _, a0, a9, hk⟩
     ·exact absurd (decide_eq_true e) h2
     ·exact absurd (decide_eq_true e) h3
     ·exact ⟨(RM h hm ⟨a0, a9⟩ hk hc (by simpa using h4)).EZ rfl rfl, hpl 2 to⟩
theorem Jf {v to : Int} : ∀ {l : List Int} {T : AE}, T.Fit → l.Nodup → (∀ i ∈ l, Ia T.w T.b i) → M0 T v to → DB T (T.Ee v to l)
 | [], T, h, _, _, _ => h.goes
 | i :: r, T, h, hd, hm, ht => by
  have hi := hm i (List.mem_cons_self ..)
  obtain ⟨g, gb, gt⟩ := Rq h hi ht
  have hd' := List.nodup_cons.1 hd
  refine g.trans (Jf g.fit hd'.2 (fun j hj => ?_) (ht.next gb fun j j0 j9 => (g.st.th j j0 j9).2))
  have hj' := hm j (List.mem_cons_of_mem _ hj)
  have hne : j ≠ i := fun e => hd'.1 (e ▸ hj)
  rw [Ia, gt j hj'.1 hne, g.b]
  exact hj'
theorem Vv {T : AE} (h : T.Fit) {to : Int} {o : Order} (ht : M0 T o.verb to) : DB T (T.SJ to o) := by
 unfold SJ
 have hp : ∀ i ∈ BP T.w T.own o.nth o.name o.Bi, Ia T.w T.b i := fun i hi => (FD (Dj hi)).TY
 have hd : (BP T.w T.own o.nth o.name o.Bi).Nodup := List.Nodup.sublist (EP ..) (AG.Ps ..)
 split
 ·have g : DB T (T.tell OP) := h.goes.EZ rfl rfl
  exact g.trans (Jf g.fit hd hp (ht.next rfl fun _ _ _ => rfl))
 ·exact Jf h hd hp ht
theorem TD {T : AE} (h : T.Fit) {o : Order} (hv : o.verb = 8 ∨ o.verb = 9 ∨ o.verb = 10) : DB T (T.E3 o) := by
 have hw : (T.Cq o).1.w = T.w ∧ (T.Cq o).1.b = T.b := by
  unfold Cq
  split
  ·exact T.JU o.second
  ·split
   ·exact T.Is o.second
   ·exact ⟨rfl, rfl⟩
 have g : DB T (T.Cq o).1 := h.goes.EZ hw.1 hw.2
 unfold E3
 split
 ·exact g
 ·rename_i h1
  refine g.trans (Vv g.fit ?_)
  have h1' : (T.Cq o).2.2 = true := by simpa using h1
  unfold M0
  rw [hw.1]
  unfold Cq at h1' ⊢
  split at h1'
  ·rename_i h2
   rw [if_pos h2]
   obtain ⟨a0, a9, hk, _⟩ := Wa h1'
   have := of_decide_eq_true h2
   exact .inr (.inr ⟨by omega, by omega, a0, a9, hk⟩)
  ·rename_i h2
   rw [if_neg h2]
   split at h1'
   ·rename_i h3
    rw [if_pos h3]
    obtain ⟨a0, a6, _, hs⟩ := JR h1'
    exact .inr (.inl ⟨of_decide_eq_true h3, a0, a6, (AG.HF (AG.Kv hs).2.1).2.2⟩)
   ·rename_i h3
    rw [if_neg h3]
    refine .inl ?_
    rcases hv with e | e | e
    ·exact e
    ·exact absurd (decide_eq_true e) h2
    ·exact absurd (decide_eq_true e) h3
end AE
end Go.Ing
/- What walks through a turn need. -/
namespace Go.Ing
open Go
theorem MX {α : Type} {l : List α} {k : Int} {d : α} (h0 : 0 ≤ k) (h1 : k < l.length) : l.take (k + 1).toNat = l.take k.toNat ++ [l.getD k.toNat d] := by
 obtain ⟨m, rfl⟩ := Int.eq_ofNat_of_zero_le h0
 have hm : m < l.length := by omega
 rw [show ((m : Int) + 1).toNat = m + 1 by omega, show ((m : Int)).toNat = m by omega, List.take_add_one, List.getElem?_eq_getElem hm, List.getD_eq_getElem?_getD, List.getElem?_eq_getElem hm]
 rfl
theorem AG.Lu (d : Int) : 0 ≤ AG.opposite d ∧ AG.opposite d < 6 := by
 unfold AG.opposite
 have h := Int.tmod_nonneg (a := max 0 (min d 5) + 3) 6 (by omega)
 have h2 := Int.tmod_lt_of_pos (max 0 (min d 5) + 3) (show (0 : Int) < 6 by decide)
 exact ⟨h, h2⟩
theorem Words.Rj {s : Ap} : ∀ {n : Nat}, n ≤ 6 → (Words.Na s n).2 = true → 0 ≤ (Words.Na s n).1 ∧ (Words.Na s n).1 < 6
 | 0, _, h => by cases h
 | n + 1, hn, h => by
  unfold Words.Na at h ⊢
  split
  ·rename_i c
   show 0 ≤ ((5 - n : Nat) : Int) ∧ ((5 - n : Nat) : Int) < 6
   omega
  ·rename_i c
   rw [if_neg c] at h
   exact Words.Rj (by omega) h
theorem Words.UQ {s : Ap} (h : (Words.dir s).2 = true) : 0 ≤ (Words.dir s).1 ∧ (Words.dir s).1 < 6 := Words.Rj (Nat.le_refl _) h
namespace AE
theorem YR {w : AG} {u : Ap} {l : List Int} {k : Int} (h0 : 0 ≤ k) (h1 : k < l.length) (c : (decide (u = []) || decide ((w.AL.at (l.getD k.toNat 0)).name = u)) = true) : JF w u (l.take (k + 1).toNat) = JF w u (l.take k.toNat) ++ [l.getD k.toNat 0] := by
 rw [MX (d := 0) h0 h1, JF, List.filter_append, List.filter_cons, if_pos c]; rfl
theorem Xx {w : AG} {u : Ap} {l : List Int} {k : Int} (h0 : 0 ≤ k) (h1 : k < l.length) (c : (decide (u = []) || decide ((w.AL.at (l.getD k.toNat 0)).name = u)) = false) : JF w u (l.take (k + 1).toNat) = JF w u (l.take k.toNat) := by
 rw [MX (d := 0) h0 h1, JF, List.filter_append, List.filter_cons, if_neg (by rw [c]; decide)]; simp [JF]
theorem VR (w : AG) (u : Ap) (l : List Int) : (JF w u l).length ≤ l.length := List.length_filter_le _ _
theorem KI (T : AE) : T.own.length ≤ 9 := AG.IB _ _ _
theorem Im (T : AE) : T.seen.length ≤ 9 := by
 unfold seen; split
 ·simp
 ·exact AG.IB _ _ _
theorem QZ {T : AE} {i : Int} (h : i ∈ T.own ++ T.seen) : 0 ≤ i ∧ i < 9 := by
 rcases List.mem_append.1 h with h | h
 ·exact ⟨(FD h).1, (FD h).2.1⟩
 ·exact ⟨(JM h).1, (JM h).2.1⟩
theorem Ln {T : AE} {i : Int} (h : i ∈ T.own) : 0 ≤ i ∧ i < 9 := ⟨(FD h).1, (FD h).2.1⟩
theorem Nq {T : AE} {i : Int} (h : i ∈ T.seen) : 0 ≤ i ∧ i < 9 := ⟨(JM h).1, (JM h).2.1⟩
theorem UU (T : AE) (u : Ap) : 0 ≤ (T.one u).1 ∧ (T.one u).1 < 9 := by
 by_cases h : (T.one u).2 = true
 ·exact ⟨(Ol h).1, (Ol h).2.1⟩
 ·unfold one at h ⊢
  split
  ·exact ⟨Int.le_refl _, by decide⟩
  ·rename_i h1
   rw [if_neg h1] at h
   split
   ·exact ⟨Int.le_refl _, by decide⟩
   ·rename_i h2
    rw [if_neg h2] at h
    exact absurd rfl h
theorem Ym (T : AE) (u : Ap) : 0 ≤ (T.box u).2.1 ∧ (T.box u).2.1 < 9 := by
 have h := T.UU u
 unfold box
 split
 ·exact ⟨Int.le_refl _, show (0 : Int) < 9 by decide⟩
 ·split
  ·exact ⟨Int.le_refl _, show (0 : Int) < 9 by decide⟩
  ·exact h
theorem Hp (T : AE) (u : Ap) : (T.box u).1.out.length ≤ T.out.length + 1 := by
 unfold box
 split
 ·simp
 ·split <;> simp
theorem Lh (T : AE) (u : Ap) : 0 ≤ (T.A6 u).2.1 ∧ (T.A6 u).2.1 < 6 := by
 unfold A6
 split
 ·split
  ·rename_i k hk
   have := Lw (Nat.le_refl _) hk
   exact ⟨this.1, this.2.1⟩
  ·exact ⟨Int.le_refl _, show (0 : Int) < 6 by decide⟩
 ·exact ⟨Int.le_refl _, show (0 : Int) < 6 by decide⟩
theorem G5 (T : AE) (u : Ap) : (T.A6 u).1.out.length ≤ T.out.length + 1 := by
 unfold A6
 split
 ·split <;> simp
 ·simp
theorem Xm (T : AE) (hb : 0 ≤ T.b ∧ T.b < 6) (r : Int) : ({ T.w with AN := (T.w.AN.put T.b { T.w.AN.at T.b with room := r }).put T.b { (T.w.AN.put T.b { T.w.AN.at T.b with room := r }).at T.b with Bx := 0 } } : AG) = (T.F2 r).w := by
 rw [Vector.CB hb.1 hb.2, Vector.Ed]; rfl
theorem HM (T : AE) {i : Int} (h0 : 0 ≤ i) (h9 : i < 9) (wh a : Int) : ({ T.w with AL := (T.w.AL.put i { T.w.AL.at i with CJ := wh }).put i { (T.w.AL.put i { T.w.AL.at i with CJ := wh }).at i with at_ := a } } : AG) = (T.place i wh a).w := by
 rw [Vector.CB h0 h9, Vector.Ed]; rfl
theorem Dt {T : AE} {i : Int} (h0 : 0 ≤ i) (h9 : i < 9) (wh a : Int) : ((T.place i wh a).w.AL.at i).name = (T.w.AL.at i).name := by
 rw [HD h0 h9 h0, if_pos rfl]
theorem DW {T : AE} {i j : Int} (h0 : 0 ≤ i) (h9 : i < 9) (j0 : 0 ≤ j) (wh a : Int) : ((T.place i wh a).w.AL.at j).name = (T.w.AL.at j).name := by
 rw [HD h0 h9 j0]
 split
 ·rename_i e; subst e; rfl
 ·rfl
theorem Vp (T : AE) {i : Int} (h0 : 0 ≤ i) (h9 : i < 9) (c : decide ((T.w.AL.at i).kind = 2) = true) : ({ T.w with AL := (((T.w.AL.put i { T.w.AL.at i with on := false }).put i { (T.w.AL.put i { T.w.AL.at i with on := false }).at i with CJ := 0 }).put i { ((T.w.AL.put i { T.w.AL.at i with on := false }).put i { (T.w.AL.put i { T.w.AL.at i with on := false }).at i with CJ := 0 }).at i with at_ := (T.w.AN.at T.b).room }) } : AG) = (T.Et i).w := by
 rw [Vector.CB h0 h9, Vector.Ed, Vector.CB h0 h9, Vector.Ed]
 unfold Et
 rw [if_pos c]; rfl
theorem Uw (T : AE) {i : Int} (h0 : 0 ≤ i) (h9 : i < 9) (c : decide ((T.w.AL.at i).kind = 2) = false) : ({ T.w with AL := (T.w.AL.put i { T.w.AL.at i with CJ := 0 }).put i { (T.w.AL.put i { T.w.AL.at i with CJ := 0 }).at i with at_ := (T.w.AN.at T.b).room } } : AG) = (T.Et i).w := by
 rw [Vector.CB h0 h9, Vector.Ed]
 unfold Et
 rw [if_neg (by rw [c]; decide)]; rfl
theorem G4 {X : AE} {l : List Int} {k : Int} (h0 : 0 ≤ k) (h1 : k < l.length) : X.DA (l.drop k.toNat) = ((X.place (l.getD k.toNat 0) 1 X.b).Bs 3 (l.getD k.toNat 0)).DA (l.drop (k + 1).toNat) := by
 rw [NH h0 h1]; rfl
theorem LO {X : AE} {l : List Int} {k : Int} (h0 : 0 ≤ k) (h1 : k < l.length) : X.CX (l.drop k.toNat) = (X.Et (l.getD k.toNat 0)).CX (l.drop (k + 1).toNat) := by
 rw [NH h0 h1]; rfl
theorem Jb {α : Type} {l : List α} : l.drop (l.length : Int).toNat = [] := by rw [show (l.length : Int).toNat = l.length by omega, List.drop_length]
theorem Nn {T : AE} {k : Int} (h : 0 ≤ k) : T.DN (k + 1).toNat = if decide (((T.DN k.toNat).w.AN.at k).Bx = T.b + 1) = true then (T.DN k.toNat).Ch k 0 else T.DN k.toNat := by
 obtain ⟨m, rfl⟩ := Int.eq_ofNat_of_zero_le h
 rfl
theorem Q9 (T : AE) : ∀ k : Nat, (T.DN k).b = T.b ∧ (T.DN k).out = T.out
 | 0 => ⟨rfl, rfl⟩
 | k + 1 => by
  unfold DN; split
  ·exact Q9 T k
  ·exact Q9 T k
theorem IG : ∀ (l : List Int) (T : AE), (T.CX l).b = T.b ∧ (T.CX l).out = T.out
 | [], T => ⟨rfl, rfl⟩
 | i :: r, T => by rw [CX]; exact IG r _
theorem Kf {T : AE} {name : Ap} {k n : Int} (h0 : 0 ≤ k) (h6 : k < 6) : T.Io name (6 - k).toNat n = if (decide (k = T.b) || !decide ((T.w.AN.at k).name = name) || !T.w.Il T.b k) = true then T.Io name (6 - (k + 1)).toNat n else if decide (n - 1 = 0) = true then some k else T.Io name (6 - (k + 1)).toNat (n - 1) := by
 obtain ⟨m, rfl⟩ := Int.eq_ofNat_of_zero_le h0
 have e : (6 - (m : Int)).toNat = (6 - ((m : Int) + 1)).toNat + 1 := by omega
 rw [e, Io, show (((6 - ((6 - ((m : Int) + 1)).toNat + 1) : Nat)) : Int) = (m : Int) by omega]
@[simp] theorem FT (T : AE) (k i : Int) : (T.Bs k i).out.length = T.out.length + 1 := by simp [Bs]
@[simp] theorem LY (T : AE) (k : Int) : (T.kind k).out.length = T.out.length + 1 := by simp [kind]
theorem R6 (T : AE) (b f : Int) : (T.Ch b f).b = T.b ∧ (T.Ch b f).out = T.out := ⟨rfl, rfl⟩
theorem Q3 (T : AE) : T.E0.b = T.b ∧ T.E0.out = T.out := by
 unfold E0
 rw [(R6 _ _ _).1, (R6 _ _ _).2]
 have h1 := AE.IG T.own T
 have h2 := AE.Q9 (T.CX T.own) 6
 exact ⟨h2.1.trans h1.1, h2.2.trans h1.2⟩
theorem C5 (T : AE) (b : Int) (x : Ak) : (T.DP b x).b = T.b ∧ (T.DP b x).out = T.out ∧ (T.DP b x).w = { T.w with AN := T.w.AN.put b x } := ⟨rfl, rfl, rfl⟩
theorem Nw (T : AE) : T.GZ.b = (T.kind 18).b ∧ T.GZ.out = (T.kind 18).out ∧ T.GZ.w = { (T.kind 18).E0.w with AN := (T.kind 18).E0.w.AN.put (T.kind 18).b default } := by
 unfold GZ
 rw [(C5 _ _ _).1, (C5 _ _ _).2.1, (C5 _ _ _).2.2]
 exact ⟨(Q3 _).1, (Q3 _).2, rfl⟩
theorem Rc {l : List Int} (h : ∀ i ∈ l, 0 ≤ i ∧ i < 9) : 0 ≤ l.getD (0 : Int).toNat 0 ∧ l.getD (0 : Int).toNat 0 < 9 := by
 cases l with
 | nil => exact ⟨Int.le_refl _, show (0 : Int) < 9 by decide⟩
 | cons x r => exact h x (List.mem_cons_self ..)
theorem Ni (T : AE) (v to i : Int) : (T.Cn v to i).out.length ≤ T.out.length + 1 := by
 unfold Cn
 split
 ·simp
 ·split
  ·rw [FT]; exact Nat.le_refl _
  ·split
   ·rw [CZ]; exact Nat.le_refl _
   ·split
    ·simp
    ·rw [CZ]; exact Nat.le_refl _
theorem XL (T : AE) (v to i : Int) : (T.Cn v to i).b = T.b := by
 unfold Cn
 split
 ·rfl
 ·split
  ·rfl
  ·split
   ·rfl
   ·split <;> rfl
theorem P2 (T : AE) (o : Order) : (T.Cq o).1.out.length ≤ T.out.length + 1 := by
 unfold Cq
 split
 ·exact T.Hp _
 ·split
  ·exact T.G5 _
  ·exact Nat.le_succ _
theorem VH {X : AG} {b : Int} (hw : X.DE) (c1 : (!X.BZ) = false) (c2 : (decide (b < 0) || decide (6 ≤ b) || !(X.AN.at b).here) = false) : Fit ⟨X, b, []⟩ := by
 simp only [Bool.or_eq_false_iff, decide_eq_false_iff_not, Bool.not_eq_false'] at c1 c2
 exact ⟨⟨by show 0 ≤ b; omega, by show b < 6; omega⟩, hw, c1, c2.2⟩
end AE
end Go.Ing
/- Engine: texts deep within what came in, as parts of its reading. -/
namespace Go.Ing
open Go
section
open Go.RowKit Go.ChangeShapes Go.WideShapes Go.ChangeAt
variable {H : Type} {enc : TypeId × Value → H} {P : Program} {w : World}
end
end Go.Ing
/- Laws of what beings do: doors; that rules answer at all. -/
namespace Go.Ing
open Go
theorem Vector.OO {α : Type} [Inhabited α] {n : Nat} (v : Vector α n) (i : Int) : v.at i = default ∨ ∃ j : Int, 0 ≤ j ∧ j < n ∧ v.at i = v.at j := by
 by_cases h : i.toNat < n
 ·exact .inr ⟨(i.toNat : Int), by omega, by omega, by unfold Vector.at; rw [show ((i.toNat : Nat) : Int).toNat = i.toNat by omega]⟩
 ·refine .inl ?_
  unfold Vector.at
  rw [List.getD_eq_getElem?_getD, List.getElem?_eq_none (by simp; omega)]
  rfl
namespace AE
structure W8 (X : AG) (b : Int) (o : Order) : Prop where
 gd : X.BZ = true
 br : 0 ≤ b ∧ b < 6
 here : (X.AN.at b).here = true
 v : 0 ≤ o.verb ∧ o.verb ≤ 20
 w : (D7 X b o).1 = (AE.act ⟨X, b, []⟩ o).w
 out : (D7 X b o).2.1 = (AE.act ⟨X, b, []⟩ o).out
theorem bh {X : AG} {b : Int} {o : Order} (h : (D7 X b o).2.2 = 0) : W8 X b o := by
 unfold D7 at h
 split at h
 ·cases h
 ·rename_i h1
  split at h
  ·cases h
  ·rename_i h2
   split at h
   ·cases h
   ·rename_i h3
    have h2' := h2
    have h3' := h3
    have hd : D7 X b o = ((AE.act ⟨X, b, []⟩ o).w, (AE.act ⟨X, b, []⟩ o).out, 0) := (if_neg h1).trans ((if_neg h2).trans (if_neg h3))
    simp only [Bool.or_eq_true, decide_eq_true_eq, Bool.not_eq_true', not_or, Bool.not_eq_false] at h1 h2' h3'
    exact ⟨h1, ⟨by omega, by omega⟩, h2'.2, ⟨by omega, by omega⟩, by rw [hd], by rw [hd]⟩
theorem W8.fit {X : AG} {b : Int} {o : Order} (h : W8 X b o) (hw : X.DE) : Fit ⟨X, b, []⟩ := ⟨h.br, hw, h.gd, h.here⟩
end AE
end Go.Ing
/- What beings do keeps the land good: all orders. -/
namespace Go.Ing
open Go
namespace AE
theorem Ho {T : AE} (h : T.Fit) {c f : Int} (c0 : 0 ≤ c) (c6 : c < 6) (f0 : 0 ≤ f) (f6 : f ≤ 6) (hh : f ≠ 0 → (T.w.AN.at c).here = true) : DB T (T.Ch c f) := by
 have hg := AG.Ei h.gd c0 c6
 have hb : ∀ a, 0 ≤ a → ((T.Ch c f).w.AN.at a).here = (T.w.AN.at a).here := fun a a0 => by
  show ((T.w.AN.put c { T.w.AN.at c with Bx := f }).at a).here = _
  rw [I8 _ _ _ _ c0 c6 a0]
  split
  ·rename_i e; subst e; rfl
  ·rfl
 refine ⟨rfl, ⟨h.b, Eg h.br (h.br.be c), AG.IZ h.gd c0 c6 ?_ fun i i0 i9 hw ha => ?_, (hb T.b h.b.1).trans h.here⟩, MQ c0 c6 fun _ => rfl⟩
 ·unfold AG.DM at hg ⊢
  simp only [Bool.or_eq_false_iff, decide_eq_false_iff_not, Bool.and_eq_false_iff, Bool.not_eq_false'] at hg ⊢
  obtain ⟨⟨⟨⟨⟨⟨⟨q1, q2⟩, q3⟩, q4⟩, q5⟩, q6⟩, q7⟩, q8⟩ := hg
  refine ⟨⟨⟨⟨⟨⟨⟨q1, q2⟩, q3⟩, q4⟩, by omega⟩, by omega⟩, ?_⟩, q8⟩
  by_cases e : f = 0
  ·exact .inr (by simp [e])
  ·exact .inl (hh e)
 ·show (T.w.AN.at c).here = true
  have := AG.HT h.gd i0 i9
  rcases this.CJ with ⟨a, _⟩ | ⟨_, _, a⟩ | ⟨a, _⟩
  ·omega
  ·rw [ha] at a; exact a
  ·omega
theorem Tp {T : AE} (h : T.Fit) (o : Order) : DB T (T.Ew o) := by
 unfold Ew
 generalize (if (!decide (o.nth = 1) || o.Bi) = true then [] else o.name) = nm
 have hw := T.Is nm
 have g : DB T (T.A6 nm).1 := h.goes.EZ hw.1 hw.2
 split
 ·exact g
 ·rename_i h1
  have hs := JR (T := T) (u := nm) (by simpa using h1)
  have hk : (T.w.AN.at (T.A6 nm).2.1).here = true := (AG.HF (AG.Kv hs.2.2.2).2.1).2.2
  have hgb := g.fit.b
  have g1 := g.trans (Ho g.fit (c := (T.A6 nm).1.b) (f := (T.A6 nm).2.1 + 1) g.fit.b.1 g.fit.b.2 (by omega) (by omega) fun _ => g.fit.here)
  have key : DB T (if decide ((((T.A6 nm).1.Ch (T.A6 nm).1.b ((T.A6 nm).2.1 + 1)).w.AN.at (T.A6 nm).2.1).Bx = 0) = true then ((T.A6 nm).1.Ch (T.A6 nm).1.b ((T.A6 nm).2.1 + 1)).Ch (T.A6 nm).2.1 ((T.A6 nm).1.b + 1) else (T.A6 nm).1.Ch (T.A6 nm).1.b ((T.A6 nm).2.1 + 1)) := by
   split
   ·refine g1.trans (Ho g1.fit hs.1 hs.2.1 (by omega) (by omega) fun _ => ?_)
    show (((T.A6 nm).1.w.AN.put (T.A6 nm).1.b _).at _).here = true
    rw [I8 _ _ _ _ g.fit.b.1 g.fit.b.2 hs.1, if_neg (by rw [hw.2]; exact hs.2.2.1), hw.1]
    exact hk
   ·exact g1
  exact key.EZ rfl rfl
theorem Mg {T : AE} (h : T.Fit) {first : Bool} {i : Int} {v : Bool} {ev : Int} (hm : Ia T.w T.b i) (h1 : (T.w.AL.at i).kind ≠ 0) (h2 : (T.w.AL.at i).kind = 2 → (T.w.AL.at i).CJ = 1) : DB T (T.before first i v ev) := by
 unfold before
 split
 ·have g := EO h hm (t := { T.w.AL.at i with on := v }) rfl rfl (AG.UH h.gd hm.1 hm.2.1 h1 h2)
  exact g.EZ rfl rfl
 ·have g : DB T (T.Bs ev i) := h.goes.EZ rfl rfl
  exact g.trans (EO g.fit hm rfl rfl (AG.UH h.gd hm.1 hm.2.1 h1 h2))
theorem Lt {T : AE} (h : T.Fit) {r d : Int} {v : Bool} (r0 : 0 ≤ r) (r6 : r < 6) (d0 : 0 ≤ d) (d6 : d < 6) (hv : v = true → (T.w.BR.at r).CK.at d ≠ 0) : DB T (T.C2 r d v) :=
 ⟨rfl, ⟨h.b, TI h.br, AG.VP h.gd r0 r6 d0 d6 hv, h.here⟩, U0 r0 r6⟩
theorem VO {T : AE} (h : T.Fit) {d : Int} {on : Bool} {ev : Int} (d0 : 0 ≤ d) (d6 : d < 6) : DB T (T.Gx d on ev) := by
 have hx := h.exit d0 d6
 have hr := h.room
 unfold Gx
 split
 ·exact h.goes.EZ rfl rfl
 ·rename_i h1
  split
  ·exact h.goes.EZ rfl rfl
  ·have h1' : ¬ (T.w.BR.at (T.w.AN.at T.b).room).CK.at d - 1 < 0 := fun e => h1 (decide_eq_true e)
   have g1 := Lt h (v := !on) hr.1 hr.2 d0 d6 fun _ => by omega
   have ho := AG.Lu d
   have key : DB T (if decide (((T.C2 T.me.room d (!on)).w.BR.at ((T.w.BR.at T.me.room).CK.at d - 1)).CK.at (AG.opposite d) = T.me.room + 1) = true then (T.C2 T.me.room d (!on)).C2 ((T.w.BR.at T.me.room).CK.at d - 1) (AG.opposite d) (!on) else T.C2 T.me.room d (!on)) := by
    split
    ·rename_i h3
     refine g1.trans (Lt g1.fit (v := !on) (r := (T.w.BR.at (T.w.AN.at T.b).room).CK.at d - 1) (d := AG.opposite d) (by omega) (by omega) ho.1 ho.2 fun _ => ?_)
     have h3' := of_decide_eq_true h3
     intro e
     have h3'' : ((T.C2 T.me.room d (!on)).w.BR.at ((T.w.BR.at (T.w.AN.at T.b).room).CK.at d - 1)).CK.at (AG.opposite d) = (T.w.AN.at T.b).room + 1 := h3'
     have e' : ((T.C2 T.me.room d (!on)).w.BR.at ((T.w.BR.at (T.w.AN.at T.b).room).CK.at d - 1)).CK.at (AG.opposite d) = 0 := e
     omega
    ·exact g1
   exact key.EZ rfl rfl
theorem Sb {v : Int} : setKind v = 1 ∨ setKind v = 2 ∨ setKind v = 3 := by
 unfold setKind
 split
 ·exact .inl rfl
 ·split
  ·exact .inr (.inl rfl)
  ·exact .inr (.inr rfl)
theorem WD {T : AE} (h : T.Fit) (o : Order) : DB T (T.set o) := by
 unfold set
 split
 ·rename_i h1
  have := Words.UQ (Bool.and_eq_true_iff.1 h1).1
  exact VO h this.1 this.2
 ·split
  ·exact h.goes.EZ rfl rfl
  ·rename_i h2
   split
   ·exact h.goes.EZ rfl rfl
   ·simp only [Bool.or_eq_true, decide_eq_true_eq, Bool.not_eq_true', decide_eq_false_iff_not, not_or, Decidable.not_not] at h2
    have hm : (T.EN o).getD 0 0 ∈ T.EN o := NT (decide_eq_false h2.1)
    have hm2 := Dj hm
    have hk := Sb (v := o.verb)
    have hmine : Ia T.w T.b ((T.EN o).getD 0 0) ∧ (setKind o.verb = 2 → (T.w.AL.at ((T.EN o).getD 0 0)).CJ = 1) := by
     split at hm2
     ·rename_i h3
      have h3' := of_decide_eq_true h3
      rcases List.mem_append.1 hm2 with hq | hq
      ·exact ⟨(FD hq).TY, fun e => by omega⟩
      ·exact ⟨MY hq, fun e => by omega⟩
     ·exact ⟨(FD hm2).TY, fun _ => (FD hm2).2.2.1⟩
    have hk0 : (T.w.AL.at ((T.EN o).getD 0 0)).kind ≠ 0 := by rw [h2.2]; omega
    have hk2 : (T.w.AL.at ((T.EN o).getD 0 0)).kind = 2 → (T.w.AL.at ((T.EN o).getD 0 0)).CJ = 1 := fun e => hmine.2 (by rw [← h2.2]; exact e)
    split
    ·exact Mg h hmine.1 hk0 hk2
    ·exact Mg h hmine.1 hk0 hk2
theorem J2 {T : AE} {i j : Int} (h0 : 0 ≤ i) (h9 : i < 9) (j0 : 0 ≤ j) : (T.Et i).w.AL.at j = if j = i then { T.w.AL.at i with on := if decide ((T.w.AL.at i).kind = 2) = true then false else (T.w.AL.at i).on, CJ := 0, at_ := T.me.room } else T.w.AL.at j := I8 _ _ _ _ h0 h9 j0
theorem Qp {T : AE} (h : T.Fit) {i : Int} (hm : Ia T.w T.b i) : DB T (T.Et i) :=
 EO h hm rfl rfl (AG.Ma h.gd hm.1 hm.2.1 h.room (fun e => by rw [if_neg (by rw [e]; decide)]; exact (AG.HT h.gd hm.1 hm.2.1).plain e) (fun ⟨e1, e2⟩ => by rw [if_pos (decide_eq_true e1)] at e2; cases e2))
theorem I2 : ∀ {l : List Int} {T : AE}, T.Fit → (∀ i ∈ l, Ia T.w T.b i) → DB T (T.CX l) ∧ ∀ j, 0 ≤ j → j < 9 → (((T.CX l).w.AL.at j).CJ = 0 ∨ (j ∉ l ∧ (T.CX l).w.AL.at j = T.w.AL.at j))
 | [], T, h, _ => ⟨h.goes, fun j _ _ => .inr ⟨by simp, rfl⟩⟩
 | i :: r, T, h, hm => by
  have hi := hm i (List.mem_cons_self ..)
  have g1 := Qp h hi
  obtain ⟨g2, k2⟩ := I2 (l := r) g1.fit fun j hj => by
   have hj' := hm j (List.mem_cons_of_mem _ hj)
   refine ⟨hj'.1, hj'.2.1, ?_⟩
   rw [J2 hi.1 hi.2.1 hj'.1]
   split
   ·intro e; cases e
   ·exact hj'.2.2
  refine ⟨g1.trans g2, fun j j0 j9 => ?_⟩
  rcases k2 j j0 j9 with e | ⟨e1, e2⟩
  ·exact .inl e
  ·have hd := J2 (T := T) hi.1 hi.2.1 j0
   by_cases hji : j = i
   ·rw [if_pos hji] at hd
    exact .inl (by rw [show (T.CX (i :: r)).w.AL.at j = _ from e2, hd])
   ·rw [if_neg hji] at hd
    exact .inr ⟨by simp [hji, e1], e2.trans hd⟩
theorem Km {T : AE} (h : T.Fit) : ∀ {k : Nat}, k ≤ 6 → DB T (T.DN k) ∧ (T.DN k).w.AL = T.w.AL
 | 0, _ => ⟨h.goes, rfl⟩
 | k + 1, hk => by
  obtain ⟨g, e⟩ := Km (k := k) h (by omega)
  unfold DN
  split
  ·exact ⟨g.trans (Ho g.fit (by omega) (by omega) (Int.le_refl _) (by decide) fun e => absurd rfl e), e⟩
  ·exact ⟨g, e⟩
theorem Lz (T : AE) : T.E0 = ((T.CX T.own).DN 6).Ch T.b 0 := by unfold E0; rfl
theorem Xu {T : AE} (h : T.Fit) : DB T T.E0 := by
 have g1 := (I2 h (l := T.own) fun i hi => (FD hi).TY).1
 have g2 := (Km g1.fit (k := 6) (Nat.le_refl _)).1
 have g3 := g1.trans g2
 have g4 := Ho g3.fit (c := T.b) (f := 0) h.b.1 h.b.2 (Int.le_refl _) (by decide) (fun e => (e rfl).elim)
 rw [Lz]
 exact g3.trans g4
theorem PT (T : AE) (b f : Int) : (T.Ch b f).w.AL = T.w.AL := rfl
theorem Rw {T : AE} (h : T.Fit) {j : Int} (j0 : 0 ≤ j) (j9 : j < 9) : ¬ ((T.E0.w.AL.at j).CJ = 1 ∧ (T.E0.w.AL.at j).at_ = T.b) := by
 obtain ⟨g1, k1⟩ := I2 h (l := T.own) fun i hi => (FD hi).TY
 have k2 := (Km g1.fit (k := 6) (Nat.le_refl _)).2
 rw [Lz, PT, k2]
 rcases k1 j j0 j9 with e | ⟨e1, e2⟩
 ·rw [e]; exact fun h => by cases h.1
 ·rw [e2]
  intro ⟨a, b⟩
  refine e1 ?_
  unfold own AG.has
  exact List.mem_filter.2 ⟨List.mem_map.2 ⟨j.toNat, List.mem_range.2 (by omega), by show ((j.toNat : Nat) : Int) = j; omega⟩, by rw [a, b]; simp⟩
theorem QI {T : AE} (h : T.Fit) : DB T T.E0 ∧ ∀ j, 0 ≤ j → j < 9 → ¬ ((T.E0.w.AL.at j).CJ = 1 ∧ (T.E0.w.AL.at j).at_ = T.b) := ⟨Xu h, fun _ j0 j9 => Rw h j0 j9⟩
theorem Ti {T : AE} (h : T.Fit) : T.GZ.w.BZ = true ∧ Step T.b T.w T.GZ.w := by
 have g1 : DB T (T.kind 18) := h.goes.EZ rfl rfl
 obtain ⟨g2, k⟩ := QI g1.fit
 have g := g1.trans g2
 rw [(T.Nw).2.2]
 exact ⟨AG.IZ (X := (T.kind 18).E0.w) g.fit.gd h.b.1 h.b.2 (by decide) fun i i0 i9 e1 e2 => absurd ⟨e1, e2⟩ (k i i0 i9), g.st.trans (MQ h.b.1 h.b.2 fun e => absurd rfl e)⟩
theorem VT {T : AE} (h : T.Fit) (o : Order) (h0 : 0 ≤ o.verb) (h1 : o.verb ≤ 20) : (T.act o).w.BZ = true ∧ Step T.b T.w (T.act o).w := by
 have k : ∀ {T' : AE}, DB T T' → T'.w.BZ = true ∧ Step T.b T.w T'.w := fun g => ⟨g.fit.gd, g.st⟩
 unfold act
 split
 ·rename_i c; exact k (VB h h0 (of_decide_eq_true c))
 ·split
  ·exact k (QF h)
  ·split
   ·exact k (h.goes.EZ (T.HY _ _).1 (T.HY _ _).2.1)
   ·split
    ·exact k (h.goes.EZ rfl rfl)
    ·split
     ·exact Ti h
     ·split
      ·exact k (Tp h o)
      ·split
       ·exact k (WT h o)
       ·split
        ·rename_i c
         simp only [Bool.or_eq_true, decide_eq_true_eq] at c
         exact k (TD h (by omega))
        ·exact k (WD h o)
theorem keeps {X : AG} {b : Int} {o : Order} (hw : X.DE) (h : (D7 X b o).2.2 = 0) : (D7 X b o).1.BZ = true ∧ Step b X (D7 X b o).1 := by
 have k := bh h
 rw [k.w]
 exact VT (k.fit hw) o k.v.1 k.v.2
end AE
end Go.Ing
