/- What the functions that the law of this seat reaches compute, and the plain laws of it. No condition. -/
import Derived.Test.YtceffkjlnhekcaaGreatDoorHouseNilEc3
import Derived.Test.YtceffkjlnhekcaaGreatDoorHouseNilRa1
set_option linter.unusedSimpArgs false
set_option linter.unusedVariables false
/- What people type: plain functions, and what is known of pieces. -/
namespace Go.Ing
open Go
namespace Words
theorem idx_spec (c : UInt8) : ∀ s : Str, (Lib.indexByte s c = -1 ∧ c ∉ s) ∨ ∃ i : Nat, Lib.indexByte s c = i ∧ i < s.length ∧ c ∉ s.take i ∧ s.drop i = c :: s.drop (i + 1)
  | [] => .inl ⟨rfl, by simp⟩
  | b :: r => by
    by_cases h : b = c
    · subst h
      exact .inr ⟨0, by simp [Lib.indexByte], by simp, by simp, by simp⟩
    · have hb : (b == c) = false := by simpa using h
      rcases idx_spec c r with ⟨h1, h2⟩ | ⟨i, h1, h2, h3, h4⟩
      · exact .inl ⟨by simp [Lib.indexByte, hb, h1], by simp [Ne.symm h, h2]⟩
      · refine .inr ⟨i + 1, ?_, by simp; omega, ?_, by simpa using h4⟩
        · have : ((i : Int) == -1) = false := by simp
          simp [Lib.indexByte, hb, h1, this]
        · simp [Ne.symm h, h3]
def pieces (c : UInt8) : Str → List Str
  | [] => [[]]
  | x :: r => if x = c then [] :: pieces c r else (x :: (pieces c r).headD []) :: (pieces c r).tail
theorem pieces_ne (c : UInt8) (s : Str) : pieces c s ≠ [] := by
  cases s with
  | nil => simp [pieces]
  | cons x r => unfold pieces; split <;> simp
theorem pieces_absent {c : UInt8} : ∀ {s : Str}, c ∉ s → pieces c s = [s]
  | [], _ => rfl
  | x :: r, h => by
    simp only [List.mem_cons, not_or] at h
    rw [pieces, if_neg (Ne.symm h.1), pieces_absent h.2]; rfl
theorem pieces_split {c : UInt8} (r : Str) : ∀ {a : Str}, c ∉ a → pieces c (a ++ c :: r) = a :: pieces c r
  | [], _ => by simp [pieces]
  | x :: a, h => by
    simp only [List.mem_cons, not_or] at h
    rw [List.cons_append, pieces, if_neg (Ne.symm h.1), pieces_split r h.2]; rfl
theorem pieces_len (c : UInt8) : ∀ s : Str, (pieces c s).length = s.count c + 1
  | [] => rfl
  | x :: r => by
    unfold pieces
    have ih := pieces_len c r
    have hne := pieces_ne c r
    split
    · rename_i h; simp [h, ih]
    · rename_i h
      have : (x == c) = false := by simpa using h
      rw [List.count_cons, this]
      obtain ⟨p, q, hp⟩ := List.exists_cons_of_ne_nil hne
      rw [hp] at ih ⊢
      simpa using ih
theorem pieces_idx {c : UInt8} {s : Str} {i : Nat} (h3 : c ∉ s.take i) (h4 : s.drop i = c :: s.drop (i + 1)) : pieces c s = s.take i :: pieces c (s.drop (i + 1)) := by
  conv => lhs; rw [← List.take_append_drop i s, h4]
  exact pieces_split _ h3
/-! #### small letters -/
def lowB (c : UInt8) : UInt8 := if (decide (65 ≤ (c.toNat : Int)) && decide ((c.toNat : Int) ≤ 90)) = true then u8 ((c.toNat : Int) + 97 - 65) else c
def low (w : Str) : Str := w.map lowB
/-- Split, as it goes: i pieces are written, r is left. -/
structure SplI (c : UInt8) (s : Str) (i : Int) (r : Str) (xs : List Str) : Prop where
  i0 : 0 ≤ i
  i1 : i ≤ s.count c
  len : xs.length = s.count c + 1
  eq : pieces c s = xs.take i.toNat ++ pieces c r
  rl : r.length ≤ s.length
theorem SplI.start (c : UInt8) (s : Str) (n : Nat) (hn : n = s.count c + 1) : SplI c s 0 s (List.replicate n []) :=
  ⟨Int.le_refl _, by omega, by simp [hn], by simp, Nat.le_refl _⟩
theorem SplI.left {c : UInt8} {s : Str} {i : Int} {r : Str} {xs : List Str} (h : SplI c s i r xs) : (r.count c : Int) = s.count c - i := by
  have := congrArg List.length h.eq
  rw [List.length_append, pieces_len, pieces_len, List.length_take, h.len] at this
  have h1 := h.i0; have h2 := h.i1
  omega
theorem SplI.next {c : UInt8} {s : Str} {i : Int} {r : Str} {xs : List Str} (h : SplI c s i r xs) {m : Int} (hm : Lib.indexByte r c = m) (h0 : ¬ m < 0) : 0 ≤ m ∧ m < r.length ∧ SplI c s (i + 1) (r.drop (m + 1).toNat) (xs.set i.toNat (r.take m.toNat)) := by
  have hi := h.i0
  rcases idx_spec c r with ⟨e, _⟩ | ⟨j, e, h1, h2, h3⟩
  · omega
  · obtain rfl : m = j := by omega
    have hl := h.left
    have hp := pieces_idx h2 h3
    have hc : (pieces c r).length = (pieces c (r.drop (j + 1))).length + 1 := by rw [hp]; simp
    rw [pieces_len, pieces_len] at hc
    have hx := h.len
    refine ⟨by omega, by omega, by omega, by omega, by simp [hx], ?_, by simp; have := h.rl; omega⟩
    rw [h.eq, hp, show (i + 1).toNat = i.toNat + 1 by omega, show ((j : Int) + 1).toNat = j + 1 by omega, show ((j : Int)).toNat = j by omega, List.take_add_one, List.getElem?_set_self (by omega), List.take_set_of_le (by omega)]
    simp
theorem SplI.done {c : UInt8} {s : Str} {i : Int} {r : Str} {xs : List Str} (h : SplI c s i r xs) (he : ¬ i < (s.count c : Int) ∨ Lib.indexByte r c < 0) : i = s.count c ∧ (xs.set i.toNat r).take (i + 1).toNat = pieces c s := by
  have hi := h.i0; have hi1 := h.i1; have hl := h.left; have hx := h.len
  have hc : c ∉ r := by
    rcases he with he | he
    · intro hm; have := List.count_pos_iff.2 hm; omega
    · rcases idx_spec c r with ⟨_, h2⟩ | ⟨j, e, _⟩
      · exact h2
      · omega
  have h0 : r.count c = 0 := List.count_eq_zero.2 hc
  refine ⟨by omega, ?_⟩
  rw [h.eq, pieces_absent hc, show (i + 1).toNat = i.toNat + 1 by omega, List.take_add_one, List.getElem?_set_self (by omega), List.take_set_of_le (by omega)]
  rfl
/-! #### verbs -/
def pre (s p : Str) : Bool := decide ((p.length : Int) ≤ (s.length : Int)) && decide (s.take p.length = p)
/-- The verbs from 21 - n on. -/
def verbF (w : Str) : Nat → Int × Int
  | 0 => (0, 3)
  | n + 1 => if pre (Land.verbs.getD (20 - n) []) w = true then (((20 - n : Nat) : Int), 0) else verbF w n
def verb (w : Str) : Int × Int := if (!decide (w = [])) = true then verbF w 21 else (0, 3)
/-! #### cutting and trimming -/
def cut (c : UInt8) (s : Str) : Str × Str × Bool := if decide (0 ≤ Lib.indexByte s c) = true then (s.take (Lib.indexByte s c).toNat, s.drop (Lib.indexByte s c + 1).toNat, true) else (s, [], false)
def trL (c : UInt8) (s : Str) : Str := s.dropWhile (· == c)
def trR (c : UInt8) (s : Str) : Str := (s.reverse.dropWhile (· == c)).reverse
/-! #### the rest of an order -/
def dirF (s : Str) : Nat → Int × Bool
  | 0 => (0, false)
  | n + 1 => if decide (Land.verbs.getD (5 - n) [] = s) = true then (((5 - n : Nat) : Int), true) else dirF s n
def dir (s : Str) : Int × Bool := dirF s 6
/-! #### nouns -/
/-! #### orders -/
def said (s : Str) : Str := trL 32 (trR 32 (cut 32 (trL 32 s)).2.1)
end Words
end Go.Ing
/- What people type: plain laws. -/
namespace Go.Ing
open Go
namespace Words
/-! #### a shorter beginning -/
/-! #### what is parsed is good -/
structure GoodO (o : Order) : Prop where
  v0 : 0 ≤ o.verb
  v1 : o.verb ≤ 20
  n0 : 0 ≤ o.nth
  n1 : o.nth ≤ 99
  al : o.all_ = true → o.verb = 7 ∨ o.verb = 8 ∨ o.verb = 9
  tx : o.text ≠ [] ↔ o.verb = 11
  s1 : o.second = [] ∨ o.verb = 7 ∨ o.verb = 9 ∨ o.verb = 10
  s2 : o.second ≠ [] ∨ (o.verb ≠ 9 ∧ o.verb ≠ 10)
/-- What has no second yet. -/
structure HalfO (o : Order) : Prop where
  v0 : 0 ≤ o.verb
  v1 : o.verb ≤ 20
  n0 : 0 ≤ o.nth
  n1 : o.nth ≤ 99
  al : o.all_ = true → o.verb = 7 ∨ o.verb = 8 ∨ o.verb = 9
  tx : o.text = []
  nv : o.verb ≠ 11
  se : o.second = []
/-- Good, or refused. -/
def Fine (r : Order × Int) : Prop := (r.2 = 0 → GoodO r.1) ∧ (r.2 ≠ 0 → r.1 = default)
theorem Fine.ok {o : Order} (h : GoodO o) : Fine (o, 0) := ⟨fun _ => h, fun h => absurd rfl h⟩
/-! #### spaces ahead and behind -/
def aft : Str → Str
  | [] => []
  | x :: r => if x = 32 then r else aft r
end Words
end Go.Ing
/- Verbs and nouns as the document has them. -/
namespace Go.Ing
open Go
namespace Words
/-! #### nouns -/
end Words
end Go.Ing
/- Orders as the document has them. -/
namespace Go.Ing
open Go
namespace Words
/-! #### what is said -/
/-! #### orders -/
def alone (v : Int) : Bool := decide (v < 7) || decide (18 < v)
end Words
end Go.Ing
/- The program's data, in Lean, and their parts. -/
namespace Go.Ing
open Go
structure TurnV where
  w : Land
  b : Int
  out : Hd
instance : Inhabited TurnV := ⟨⟨default, 0, ⟨none, 0, 0⟩⟩⟩
def TurnV.enc (x : TurnV) : List Value := Land.enc x.w ++ encI x.b ++ encH x.out
theorem TurnV.fl : Flat TurnV.enc 167 := ⟨fun x => by simp [TurnV.enc, Land.fl.len, flH.len, flI.len], fun x v hv => by
  simp only [TurnV.enc, List.mem_append] at hv
  rcases hv with (h | h) | h
  · exact Land.fl.one _ v h
  · exact flI.one _ v h
  · exact flH.one _ v h⟩
theorem TurnV.l0 : Lens TurnV.enc (Land.enc) 0 165 (fun x => x.w) (fun x y => { x with w := y }) :=
  Lens.mid Land.fl (fun _ => []) (fun x => encI x.b ++ encH x.out) (fun _ => rfl) (fun x => by simp [TurnV.enc]) (fun x y => by simp [TurnV.enc])
theorem TurnV.l1 : Lens TurnV.enc (encI) 165 1 (fun x => x.b) (fun x y => { x with b := y }) :=
  Lens.mid flI (fun x => Land.enc x.w) (fun x => encH x.out) (fun x => by simp [Land.fl.len]) (fun x => by simp [TurnV.enc]) (fun x y => by simp [TurnV.enc])
theorem TurnV.l2 : Lens TurnV.enc (encH) 166 1 (fun x => x.out) (fun x y => { x with out := y }) :=
  Lens.mid flH (fun x => Land.enc x.w ++ encI x.b) (fun _ => []) (fun x => by simp [Land.fl.len, flI.len]) (fun x => by simp [TurnV.enc]) (fun x y => by simp [TurnV.enc])
end Go.Ing
/- Engine: the program's own variables, beside what is handed on. -/
namespace Go.Ing
open Go
section
variable {w0 w : World} {M : List Nat} {L A K : List Res} {g : Nat} {vs : List Value}
theorem GV.lt (h : GV g vs w) : g < w.heap.size := by
  obtain ⟨t, fz, e⟩ := h
  rcases Nat.lt_or_ge g w.heap.size with h' | h'
  · exact h'
  · rw [Array.getElem?_eq_none h'] at e; cases e
end
section
variable {P : Program} {n : Nat} {w0 : World} {M : List Nat} {Q : Exit → Go.Act → World → Prop} {F F' : List (Nat × Value)} {L L' : List Res} {ops : Array Oper} {rest : List Oper}
end
section
variable {p : Prop} [Decidable p] {a b : Bool} {m n : Int}
theorem kDa : (decide p = true) = p := decide_eq_true_eq
theorem kDb : (decide p = false) = ¬ p := propext decide_eq_false_iff_not
theorem kNa : ((!a) = true) = (a = false) := Bool.not_eq_true' a
theorem kNb : ((!a) = false) = (a = true) := Bool.not_eq_false' a
theorem kOa : ((a || b) = true) = (a = true ∨ b = true) := Bool.or_eq_true a b
theorem kAa : ((a && b) = true) = (a = true ∧ b = true) := Bool.and_eq_true a b
theorem kOb : ((a || b) = false) = (a = false ∧ b = false) := propext Bool.or_eq_false_iff
theorem kAb : ((a && b) = false) = (a = false ∨ b = false) := propext Bool.and_eq_false_iff
theorem kLa : (¬ m < n) = (n ≤ m) := propext Int.not_lt
theorem kLb : (¬ m ≤ n) = (n < m) := propext Int.not_le
end
end Go.Ing
