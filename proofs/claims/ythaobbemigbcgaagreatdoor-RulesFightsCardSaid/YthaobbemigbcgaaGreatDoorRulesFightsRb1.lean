/- What the functions that the law of this seat reaches compute, and the plain laws of it. No condition. -/
import Derived.Test.YthaobbemigbcgaaGreatDoorRulesFightsEc3
import Derived.Test.YthaobbemigbcgaaGreatDoorRulesFightsRa1
set_option linter.unusedSimpArgs false
set_option linter.unusedVariables false
/- What people type: plain functions, and what is known of pieces. -/
namespace Go.Ing
open Go
namespace Words
theorem idx_spec (c : UInt8) : ∀ s : Str, (Lib.indexByte s c = -1 ∧ c ∉ s) ∨ ∃ i : Nat, Lib.indexByte s c = i ∧ i < s.length ∧ c ∉ s.take i ∧ s.drop i = c :: s.drop (i + 1)
  | [] => .inl ⟨rfl, by simp⟩
  | b :: r => by
    by_cases h : b = c
    · subst h
      exact .inr ⟨0, by simp [Lib.indexByte], by simp, by simp, by simp⟩
    · have hb : (b == c) = false := by simpa using h
      rcases idx_spec c r with ⟨h1, h2⟩ | ⟨i, h1, h2, h3, h4⟩
      · exact .inl ⟨by simp [Lib.indexByte, hb, h1], by simp [Ne.symm h, h2]⟩
      · refine .inr ⟨i + 1, ?_, by simp; omega, ?_, by simpa using h4⟩
        · have : ((i : Int) == -1) = false := by simp
          simp [Lib.indexByte, hb, h1, this]
        · simp [Ne.symm h, h3]
def pieces (c : UInt8) : Str → List Str
  | [] => [[]]
  | x :: r => if x = c then [] :: pieces c r else (x :: (pieces c r).headD []) :: (pieces c r).tail
theorem pieces_ne (c : UInt8) (s : Str) : pieces c s ≠ [] := by
  cases s with
  | nil => simp [pieces]
  | cons x r => unfold pieces; split <;> simp
theorem pieces_absent {c : UInt8} : ∀ {s : Str}, c ∉ s → pieces c s = [s]
  | [], _ => rfl
  | x :: r, h => by
    simp only [List.mem_cons, not_or] at h
    rw [pieces, if_neg (Ne.symm h.1), pieces_absent h.2]; rfl
theorem pieces_split {c : UInt8} (r : Str) : ∀ {a : Str}, c ∉ a → pieces c (a ++ c :: r) = a :: pieces c r
  | [], _ => by simp [pieces]
  | x :: a, h => by
    simp only [List.mem_cons, not_or] at h
    rw [List.cons_append, pieces, if_neg (Ne.symm h.1), pieces_split r h.2]; rfl
theorem pieces_len (c : UInt8) : ∀ s : Str, (pieces c s).length = s.count c + 1
  | [] => rfl
  | x :: r => by
    unfold pieces
    have ih := pieces_len c r
    have hne := pieces_ne c r
    split
    · rename_i h; simp [h, ih]
    · rename_i h
      have : (x == c) = false := by simpa using h
      rw [List.count_cons, this]
      obtain ⟨p, q, hp⟩ := List.exists_cons_of_ne_nil hne
      rw [hp] at ih ⊢
      simpa using ih
theorem pieces_idx {c : UInt8} {s : Str} {i : Nat} (h3 : c ∉ s.take i) (h4 : s.drop i = c :: s.drop (i + 1)) : pieces c s = s.take i :: pieces c (s.drop (i + 1)) := by
  conv => lhs; rw [← List.take_append_drop i s, h4]
  exact pieces_split _ h3
/-! #### small letters -/
def lowB (c : UInt8) : UInt8 := if (decide (65 ≤ (c.toNat : Int)) && decide ((c.toNat : Int) ≤ 90)) = true then u8 ((c.toNat : Int) + 97 - 65) else c
def low (w : Str) : Str := w.map lowB
def words (s : Str) : List Str := ((pieces 32 s).filter fun w => !decide (w = [])).map low
/-- Split, as it goes: i pieces are written, r is left. -/
structure SplI (c : UInt8) (s : Str) (i : Int) (r : Str) (xs : List Str) : Prop where
  i0 : 0 ≤ i
  i1 : i ≤ s.count c
  len : xs.length = s.count c + 1
  eq : pieces c s = xs.take i.toNat ++ pieces c r
  rl : r.length ≤ s.length
theorem SplI.start (c : UInt8) (s : Str) (n : Nat) (hn : n = s.count c + 1) : SplI c s 0 s (List.replicate n []) :=
  ⟨Int.le_refl _, by omega, by simp [hn], by simp, Nat.le_refl _⟩
theorem SplI.left {c : UInt8} {s : Str} {i : Int} {r : Str} {xs : List Str} (h : SplI c s i r xs) : (r.count c : Int) = s.count c - i := by
  have := congrArg List.length h.eq
  rw [List.length_append, pieces_len, pieces_len, List.length_take, h.len] at this
  have h1 := h.i0; have h2 := h.i1
  omega
theorem SplI.next {c : UInt8} {s : Str} {i : Int} {r : Str} {xs : List Str} (h : SplI c s i r xs) {m : Int} (hm : Lib.indexByte r c = m) (h0 : ¬ m < 0) : 0 ≤ m ∧ m < r.length ∧ SplI c s (i + 1) (r.drop (m + 1).toNat) (xs.set i.toNat (r.take m.toNat)) := by
  have hi := h.i0
  rcases idx_spec c r with ⟨e, _⟩ | ⟨j, e, h1, h2, h3⟩
  · omega
  · obtain rfl : m = j := by omega
    have hl := h.left
    have hp := pieces_idx h2 h3
    have hc : (pieces c r).length = (pieces c (r.drop (j + 1))).length + 1 := by rw [hp]; simp
    rw [pieces_len, pieces_len] at hc
    have hx := h.len
    refine ⟨by omega, by omega, by omega, by omega, by simp [hx], ?_, by simp; have := h.rl; omega⟩
    rw [h.eq, hp, show (i + 1).toNat = i.toNat + 1 by omega, show ((j : Int) + 1).toNat = j + 1 by omega, show ((j : Int)).toNat = j by omega, List.take_add_one, List.getElem?_set_self (by omega), List.take_set_of_le (by omega)]
    simp
theorem SplI.done {c : UInt8} {s : Str} {i : Int} {r : Str} {xs : List Str} (h : SplI c s i r xs) (he : ¬ i < (s.count c : Int) ∨ Lib.indexByte r c < 0) : i = s.count c ∧ (xs.set i.toNat r).take (i + 1).toNat = pieces c s := by
  have hi := h.i0; have hi1 := h.i1; have hl := h.left; have hx := h.len
  have hc : c ∉ r := by
    rcases he with he | he
    · intro hm; have := List.count_pos_iff.2 hm; omega
    · rcases idx_spec c r with ⟨_, h2⟩ | ⟨j, e, _⟩
      · exact h2
      · omega
  have h0 : r.count c = 0 := List.count_eq_zero.2 hc
  refine ⟨by omega, ?_⟩
  rw [h.eq, pieces_absent hc, show (i + 1).toNat = i.toNat + 1 by omega, List.take_add_one, List.getElem?_set_self (by omega), List.take_set_of_le (by omega)]
  rfl
/-! #### verbs -/
def pre (s p : Str) : Bool := decide ((p.length : Int) ≤ (s.length : Int)) && decide (s.take p.length = p)
/-- The verbs from 21 - n on. -/
def verbF (w : Str) : Nat → Int × Int
  | 0 => (0, 3)
  | n + 1 => if pre (Land.verbs.getD (20 - n) []) w = true then (((20 - n : Nat) : Int), 0) else verbF w n
def verb (w : Str) : Int × Int := if (!decide (w = [])) = true then verbF w 21 else (0, 3)
/-! #### cutting and trimming -/
def cutP (s p : Str) : Str × Bool := if (!pre s p) = true then (s, false) else (s.drop p.length, true)
def cut (c : UInt8) (s : Str) : Str × Str × Bool := if decide (0 ≤ Lib.indexByte s c) = true then (s.take (Lib.indexByte s c).toNat, s.drop (Lib.indexByte s c + 1).toNat, true) else (s, [], false)
def trL (c : UInt8) (s : Str) : Str := s.dropWhile (· == c)
def trR (c : UInt8) (s : Str) : Str := (s.reverse.dropWhile (· == c)).reverse
/-! #### the rest of an order -/
def dirF (s : Str) : Nat → Int × Bool
  | 0 => (0, false)
  | n + 1 => if decide (Land.verbs.getD (5 - n) [] = s) = true then (((5 - n : Nat) : Int), true) else dirF s n
def dir (s : Str) : Int × Bool := dirF s 6
/-! #### nouns -/
def numN (k rest : Str) : Int × Str × Bool × Int :=
  match Lib.atoiAll k with
  | .ok n => if (decide (n < 1) || decide (99 < n) || decide (((k.getD (0 : Int).toNat 0).toNat : Int) < 49) || decide (57 < ((k.getD (0 : Int).toNat 0).toNat : Int)) || decide (rest = []) || decide (0 ≤ Lib.indexByte rest 46)) = true then (0, [], false, 1) else (n, rest, false, 0)
  | _ => (0, [], false, 1)
def noun (u : Str) : Int × Str × Bool × Int :=
  if decide (u = [97, 108, 108]) = true then (1, [], true, 0)
  else if ((cutP u [97, 108, 108, 46]).2 && !decide ((cutP u [97, 108, 108, 46]).1 = []) && !decide (0 ≤ Lib.indexByte (cutP u [97, 108, 108, 46]).1 46)) = true then (1, (cutP u [97, 108, 108, 46]).1, true, 0)
  else if (!(cut 46 u).2.2) = true then (if decide (u = []) = true then (0, [], false, 1) else (1, u, false, 0))
  else numN (cut 46 u).1 (cut 46 u).2.1
/-! #### orders -/
def said (s : Str) : Str := trL 32 (trR 32 (cut 32 (trL 32 s)).2.1)
end Words
end Go.Ing
/- What people type: plain laws. -/
namespace Go.Ing
open Go
namespace Words
/-! #### a shorter beginning -/
/-! #### what is parsed is good -/
structure GoodO (o : Order) : Prop where
  v0 : 0 ≤ o.verb
  v1 : o.verb ≤ 20
  n0 : 0 ≤ o.nth
  n1 : o.nth ≤ 99
  al : o.all_ = true → o.verb = 7 ∨ o.verb = 8 ∨ o.verb = 9
  tx : o.text ≠ [] ↔ o.verb = 11
  s1 : o.second = [] ∨ o.verb = 7 ∨ o.verb = 9 ∨ o.verb = 10
  s2 : o.second ≠ [] ∨ (o.verb ≠ 9 ∧ o.verb ≠ 10)
/-- What has no second yet. -/
structure HalfO (o : Order) : Prop where
  v0 : 0 ≤ o.verb
  v1 : o.verb ≤ 20
  n0 : 0 ≤ o.nth
  n1 : o.nth ≤ 99
  al : o.all_ = true → o.verb = 7 ∨ o.verb = 8 ∨ o.verb = 9
  tx : o.text = []
  nv : o.verb ≠ 11
  se : o.second = []
/-- Good, or refused. -/
def Fine (r : Order × Int) : Prop := (r.2 = 0 → GoodO r.1) ∧ (r.2 ≠ 0 → r.1 = default)
theorem Fine.ok {o : Order} (h : GoodO o) : Fine (o, 0) := ⟨fun _ => h, fun h => absurd rfl h⟩
/-! #### spaces ahead and behind -/
def aft : Str → Str
  | [] => []
  | x :: r => if x = 32 then r else aft r
end Words
end Go.Ing
/- Verbs and nouns as the document has them. -/
namespace Go.Ing
open Go
namespace Words
/-! #### nouns -/
end Words
end Go.Ing
/- Orders as the document has them. -/
namespace Go.Ing
open Go
namespace Words
/-! #### what is said -/
/-! #### orders -/
def alone (v : Int) : Bool := decide (v < 7) || decide (18 < v)
end Words
end Go.Ing
/- The program's data, in Lean, and their parts. -/
namespace Go.Ing
open Go
structure TurnV where
  w : Land
  b : Int
  out : Hd
instance : Inhabited TurnV := ⟨⟨default, 0, ⟨none, 0, 0⟩⟩⟩
def TurnV.enc (x : TurnV) : List Value := Land.enc x.w ++ encI x.b ++ encH x.out
theorem TurnV.fl : Flat TurnV.enc 167 := ⟨fun x => by simp [TurnV.enc, Land.fl.len, flH.len, flI.len], fun x v hv => by
  simp only [TurnV.enc, List.mem_append] at hv
  rcases hv with (h | h) | h
  · exact Land.fl.one _ v h
  · exact flI.one _ v h
  · exact flH.one _ v h⟩
theorem TurnV.l0 : Lens TurnV.enc (Land.enc) 0 165 (fun x => x.w) (fun x y => { x with w := y }) :=
  Lens.mid Land.fl (fun _ => []) (fun x => encI x.b ++ encH x.out) (fun _ => rfl) (fun x => by simp [TurnV.enc]) (fun x y => by simp [TurnV.enc])
theorem TurnV.l1 : Lens TurnV.enc (encI) 165 1 (fun x => x.b) (fun x y => { x with b := y }) :=
  Lens.mid flI (fun x => Land.enc x.w) (fun x => encH x.out) (fun x => by simp [Land.fl.len]) (fun x => by simp [TurnV.enc]) (fun x y => by simp [TurnV.enc])
theorem TurnV.l2 : Lens TurnV.enc (encH) 166 1 (fun x => x.out) (fun x y => { x with out := y }) :=
  Lens.mid flH (fun x => Land.enc x.w ++ encI x.b) (fun _ => []) (fun x => by simp [Land.fl.len, flI.len]) (fun x => by simp [TurnV.enc]) (fun x y => by simp [TurnV.enc])
end Go.Ing
/- What comes of what beings do: plain functions. -/
namespace Go.Ing
open Go
/-- Whose turn it is, in a land, and what happened. -/
structure Turn where
  w : Land
  b : Int
  out : List Event
namespace Turn
def evk (k : Int) : Event := ⟨k, 0, 0, -1, 0, 0, [], [], [], [], default⟩
def me (T : Turn) : Being := T.w.beings.at T.b
def event1 (T : Turn) (e : Event) : Event := { e with actor := T.b, who := T.me.name, room := T.me.room }
def event2 (T : Turn) (e : Event) : Event := if decide (0 ≤ e.other) = true then { T.event1 e with whom := (T.w.beings.at e.other).name } else T.event1 e
def happens (T : Turn) (e : Event) : Turn := { T with out := T.out ++ [T.w.allN (T.event2 e) 6] }
def kind (T : Turn) (k : Int) : Turn := T.happens (evk k)
def thing (T : Turn) (k i : Int) : Turn := T.happens { evk k with thing := (T.w.things.at i).name }
def tell (T : Turn) (s : Str) : Turn := T.happens { evk 16 with text := s }
@[simp] theorem happens_w (T : Turn) (e : Event) : (T.happens e).w = T.w := rfl
@[simp] theorem happens_b (T : Turn) (e : Event) : (T.happens e).b = T.b := rfl
@[simp] theorem happens_len (T : Turn) (e : Event) : (T.happens e).out.length = T.out.length + 1 := by simp [happens]
@[simp] theorem tell_w (T : Turn) (s : Str) : (T.tell s).w = T.w := rfl
@[simp] theorem tell_b (T : Turn) (s : Str) : (T.tell s).b = T.b := rfl
@[simp] theorem tell_len (T : Turn) (s : Str) : (T.tell s).out.length = T.out.length + 1 := by simp [tell]
/-! #### lists -/
def listS (w : Land) : Str → List Int → Str
  | s, [] => s
  | s, i :: r => listS w (if (w.things.at i).on = true then s ++ [32] ++ (w.things.at i).name ++ [42] else s ++ [32] ++ (w.things.at i).name) r
def listT (w : Land) (s : Str) (l : List Int) : Str := if decide ((l.length : Int) = 0) = true then listS w s l ++ [32, 110, 111, 116, 104, 105, 110, 103] else listS w s l
def list (T : Turn) (s : Str) (l : List Int) : Turn := T.tell (listT T.w s l ++ [46])
/-! #### what is about -/
def waysK (r : Room) : Nat → Str
  | 0 => [87, 97, 121, 115, 58]
  | d + 1 => if decide (r.exits.at (d : Int) = 0) = true then waysK r d else if r.shut.at (d : Int) = true then waysK r d ++ ([32] ++ Land.called d) ++ [42] else waysK r d ++ ([32] ++ Land.called d)
def hereK (T : Turn) : Nat → Turn
  | 0 => T
  | k + 1 => if (!decide ((k : Int) = T.b) && T.w.sees T.b k) = true then (hereK T k).tell ((T.w.beings.at k).name ++ [32, 105, 115, 32, 104, 101, 114, 101, 46]) else hereK T k
def dark : Str := [73, 116, 32, 105, 115, 32, 100, 97, 114, 107, 46]
def lookA (T : Turn) : Turn :=
  ((T.tell ([84, 104, 101, 32] ++ (T.w.rooms.at T.me.room).name ++ [46])).tell (waysK (T.w.rooms.at T.me.room) 6))
def lookB (T : Turn) : Turn := if decide (0 < ((T.w.has 0 T.me.room).length : Int)) = true then T.lookA.list [72, 101, 114, 101, 32, 105, 115] (T.w.has 0 T.me.room) else T.lookA
def look (T : Turn) : Turn := if (!T.w.bright T.me.room) = true then T.tell dark else hereK T.lookB 6
def cannot : Str := [89, 111, 117, 32, 99, 97, 110, 110, 111, 116, 32, 103, 111, 32, 116, 104, 101, 114, 101, 46]
def isShut : Str := [73, 116, 32, 105, 115, 32, 115, 104, 117, 116, 46]
def moved (T : Turn) (r : Int) : Turn := { T with w := { T.w with beings := T.w.beings.put T.b { T.me with room := r, foe := 0 } } }
def walk (T : Turn) (d : Int) : Turn :=
  if decide ((T.w.rooms.at T.me.room).exits.at d = 0) = true then T.tell cannot
  else if (T.w.rooms.at T.me.room).shut.at d = true then T.tell isShut
  else (((T.happens { evk 1 with dir := d }).moved ((T.w.rooms.at T.me.room).exits.at d - 1)).happens { evk 2 with dir := Land.opposite d }).look
/-! #### things that are meant -/
def pickA (w : Land) (name : Str) (l : List Int) : List Int := l.filter fun i => decide (name = []) || decide ((w.things.at i).name = name)
def pickL (w : Land) (l : List Int) (nth : Int) (name : Str) (all : Bool) : List Int :=
  if all = true then pickA w name l
  else if (decide (nth < 1) || decide (((pickA w name l).length : Int) < nth)) = true then []
  else ((pickA w name l).take nth.toNat).drop (nth - 1).toNat
def seen (T : Turn) : List Int := if (!T.w.bright T.me.room) = true then [] else T.w.has 0 T.me.room
def own (T : Turn) : List Int := T.w.has 1 T.b
def one (T : Turn) (u : Str) : Int × Bool :=
  if (!decide ((Words.noun u).2.2.2 = 0) || (Words.noun u).2.2.1) = true then (0, false)
  else if decide (((pickL T.w (T.own ++ T.seen) (Words.noun u).1 (Words.noun u).2.1 false).length : Int) = 0) = true then (0, false)
  else ((pickL T.w (T.own ++ T.seen) (Words.noun u).1 (Words.noun u).2.1 false).getD 0 0, true)
def noThing : Str := [84, 104, 101, 114, 101, 32, 105, 115, 32, 110, 111, 32, 115, 117, 99, 104, 32, 116, 104, 105, 110, 103, 46]
def noHave : Str := [89, 111, 117, 32, 104, 97, 118, 101, 32, 110, 111, 32, 115, 117, 99, 104, 32, 116, 104, 105, 110, 103, 46]
def noBody : Str := [84, 104, 101, 114, 101, 32, 105, 115, 32, 110, 111, 98, 111, 100, 121, 32, 111, 102, 32, 116, 104, 97, 116, 32, 110, 97, 109, 101, 46]
def wear : Str := [89, 111, 117, 32, 119, 101, 97, 114, 32, 105, 116, 46]
def notBe : Str := [84, 104, 97, 116, 32, 99, 97, 110, 110, 111, 116, 32, 98, 101, 46]
def isSo : Str := [73, 116, 32, 105, 115, 32, 115, 111, 46]
def fightT : Str := [89, 111, 117, 32, 102, 105, 103, 104, 116, 46]
def box (T : Turn) (u : Str) : Turn × Int × Bool :=
  if (!(T.one u).2 || !decide ((T.w.things.at (T.one u).1).kind = 3)) = true then (T.tell noThing, 0, false)
  else if (!(T.w.things.at (T.one u).1).on) = true then (T.tell isShut, 0, false)
  else (T, (T.one u).1, true)
def setThing (T : Turn) (i : Int) (t : Thing) : Turn := { T with w := { T.w with things := T.w.things.put i t } }
def place (T : Turn) (i whr at_ : Int) : Turn := T.setThing i { T.w.things.at i with whr := whr, at_ := at_ }
def takeAll (T : Turn) : List Int → Turn
  | [] => T
  | i :: r => takeAll ((T.place i 1 T.b).thing 3 i) r
def getL (T : Turn) (l : List Int) (o : Order) : Turn := takeAll (if decide (((pickL T.w l o.nth o.name o.all_).length : Int) = 0) = true then T.tell noThing else T) (pickL T.w l o.nth o.name o.all_)
def get (T : Turn) (o : Order) : Turn :=
  if (!decide (o.second = [])) = true then
    (if (!(T.box o.second).2.2) = true then (T.box o.second).1 else (T.box o.second).1.getL ((T.box o.second).1.w.has 2 (T.box o.second).2.1) o)
  else T.getL T.seen o
/-- Somebody else of that name, from the k-th on. -/
def someF (T : Turn) (name : Str) : Nat → Int → Option Int
  | 0, _ => none
  | r + 1, n => if (decide (((6 - (r + 1) : Nat) : Int) = T.b) || !decide ((T.w.beings.at ((6 - (r + 1) : Nat) : Int)).name = name) || !T.w.sees T.b ((6 - (r + 1) : Nat) : Int)) = true then someF T name r n else if decide (n - 1 = 0) = true then some ((6 - (r + 1) : Nat) : Int) else someF T name r (n - 1)
def somebody (T : Turn) (u : Str) : Turn × Int × Bool :=
  if (decide ((Words.noun u).2.2.2 = 0) && !(Words.noun u).2.2.1) = true then
    (match someF T (Words.noun u).2.1 6 (Words.noun u).1 with
     | some k => (T, k, true)
     | none => (T.tell noBody, 0, false))
  else (T.tell noBody, 0, false)
def letOne (T : Turn) (v to i : Int) : Turn :=
  if (decide ((T.w.things.at i).kind = 2) && (T.w.things.at i).on) = true then T.tell wear
  else if decide (v = 8) = true then (T.place i 0 T.me.room).thing 4 i
  else if decide (v = 10) = true then (T.place i 1 to).happens { evk 6 with other := to, thing := (T.w.things.at i).name }
  else if T.w.isIn to i = true then T.tell notBe
  else (T.place i 2 to).happens { evk 5 with thing := (T.w.things.at i).name, text := (T.w.things.at to).name }
def letAll (T : Turn) (v to : Int) : List Int → Turn
  | [] => T
  | i :: r => letAll (T.letOne v to i) v to r
def letL (T : Turn) (to : Int) (o : Order) : Turn := letAll (if decide (((pickL T.w T.own o.nth o.name o.all_).length : Int) = 0) = true then T.tell noHave else T) o.verb to (pickL T.w T.own o.nth o.name o.all_)
def letTo (T : Turn) (o : Order) : Turn × Int × Bool := if decide (o.verb = 9) = true then T.box o.second else if decide (o.verb = 10) = true then T.somebody o.second else (T, 0, true)
def letGo (T : Turn) (o : Order) : Turn := if (!(T.letTo o).2.2) = true then (T.letTo o).1 else (T.letTo o).1.letL (T.letTo o).2.1 o
def setFoe (T : Turn) (b f : Int) : Turn := { T with w := { T.w with beings := T.w.beings.put b { T.w.beings.at b with foe := f } } }
def fight (T : Turn) (o : Order) : Turn :=
  if (!(T.somebody (if (!decide (o.nth = 1) || o.all_) = true then [] else o.name)).2.2) = true then (T.somebody (if (!decide (o.nth = 1) || o.all_) = true then [] else o.name)).1
  else
    let k := (T.somebody (if (!decide (o.nth = 1) || o.all_) = true then [] else o.name)).2.1
    let T1 := (T.somebody (if (!decide (o.nth = 1) || o.all_) = true then [] else o.name)).1.setFoe (T.somebody (if (!decide (o.nth = 1) || o.all_) = true then [] else o.name)).1.b (k + 1)
    (if decide ((T1.w.beings.at k).foe = 0) = true then T1.setFoe k ((T.somebody (if (!decide (o.nth = 1) || o.all_) = true then [] else o.name)).1.b + 1) else T1).tell fightT
/-! #### what is set -/
def before (T : Turn) (first : Bool) (i : Int) (on : Bool) (ev : Int) : Turn :=
  if first = true then (T.setThing i { T.w.things.at i with on := on }).thing ev i
  else (T.thing ev i).setThing i { T.w.things.at i with on := on }
def setShut (T : Turn) (r d : Int) (v : Bool) : Turn := { T with w := { T.w with rooms := T.w.rooms.put r { T.w.rooms.at r with shut := (T.w.rooms.at r).shut.put d v } } }
def doorT : Str := [100, 111, 111, 114]
def door (T : Turn) (d : Int) (on : Bool) (ev : Int) : Turn :=
  if decide ((T.w.rooms.at T.me.room).exits.at d - 1 < 0) = true then T.tell noThing
  else if ((T.w.rooms.at T.me.room).shut.at d != on) = true then T.tell isSo
  else
    let to := (T.w.rooms.at T.me.room).exits.at d - 1
    let T1 := T.setShut T.me.room d (!on)
    (if decide ((T1.w.rooms.at to).exits.at (Land.opposite d) = T.me.room + 1) = true then T1.setShut to (Land.opposite d) (!on) else T1).happens { evk ev with thing := doorT }
def setOn (v : Int) : Bool := decide (v = 12) || decide (v = 14) || decide (v = 16)
def setKind (v : Int) : Int := if (decide (v = 14) || decide (v = 15)) = true then 1 else if (decide (v = 16) || decide (v = 17)) = true then 2 else 3
def setEv (v : Int) : Int := v - 4
def setL (T : Turn) (o : Order) : List Int := pickL T.w (if decide (setKind o.verb = 3) = true then T.own ++ T.seen else T.own) (max o.nth 1) o.name false
def set (T : Turn) (o : Order) : Turn :=
  if ((Words.dir o.name).2 && decide (setKind o.verb = 3)) = true then T.door (Words.dir o.name).1 (setOn o.verb) (setEv o.verb)
  else if (decide (((T.setL o).length : Int) = 0) || !decide ((T.w.things.at ((T.setL o).getD 0 0)).kind = setKind o.verb)) = true then T.tell noThing
  else if ((T.w.things.at ((T.setL o).getD 0 0)).on == setOn o.verb) = true then T.tell isSo
  else if setOn o.verb = true then T.before (!decide (setKind o.verb = 2)) ((T.setL o).getD 0 0) (setOn o.verb) (setEv o.verb)
  else T.before (decide (setKind o.verb = 2)) ((T.setL o).getD 0 0) (setOn o.verb) (setEv o.verb)
/-! #### who is gone -/
def dropOne (T : Turn) (i : Int) : Turn := T.setThing i { T.w.things.at i with on := if decide ((T.w.things.at i).kind = 2) = true then false else (T.w.things.at i).on, whr := 0, at_ := T.me.room }
def dropAll (T : Turn) : List Int → Turn
  | [] => T
  | i :: r => dropAll (T.dropOne i) r
def calmK (T : Turn) : Nat → Turn
  | 0 => T
  | k + 1 => if decide (((calmK T k).w.beings.at (k : Int)).foe = T.b + 1) = true then (calmK T k).setFoe k 0 else calmK T k
def fall (T : Turn) : Turn := (calmK (T.dropAll T.own) 6).setFoe T.b 0
def setBeing (T : Turn) (b : Int) (x : Being) : Turn := { T with w := { T.w with beings := T.w.beings.put b x } }
def fade (T : Turn) : Turn := (T.kind 18).fall.setBeing T.b default
/-! #### what a being does -/
def act (T : Turn) (o : Order) : Turn :=
  if decide (o.verb < 6) = true then T.walk o.verb
  else if decide (o.verb = 6) = true then T.look
  else if decide (o.verb = 19) = true then T.list [89, 111, 117, 32, 104, 97, 118, 101] (T.w.has 1 T.b)
  else if decide (o.verb = 11) = true then T.happens { evk 7 with text := o.text }
  else if decide (o.verb = 20) = true then T.fade
  else if decide (o.verb = 18) = true then T.fight o
  else if decide (o.verb = 7) = true then T.get o
  else if (decide (o.verb = 8) || decide (o.verb = 9) || decide (o.verb = 10)) = true then T.letGo o
  else T.set o
/-- What an order of a being does to a land. -/
def doR (X : Land) (b : Int) (o : Order) : Land × List Event × Int :=
  if (!X.good) = true then (X, [], 2)
  else if (decide (b < 0) || decide (6 ≤ b) || !(X.beings.at b).here) = true then (X, [], 3)
  else if (decide (o.verb < 0) || decide (20 < o.verb)) = true then (X, [], 5)
  else ((Turn.act ⟨X, b, []⟩ o).w, (Turn.act ⟨X, b, []⟩ o).out, 0)
end Turn
end Go.Ing
/- Engine: the program's own variables, beside what is handed on. -/
namespace Go.Ing
open Go
section
variable {w0 w : World} {M : List Nat} {L A K : List Res} {g : Nat} {vs : List Value}
theorem GV.lt (h : GV g vs w) : g < w.heap.size := by
  obtain ⟨t, fz, e⟩ := h
  rcases Nat.lt_or_ge g w.heap.size with h' | h'
  · exact h'
  · rw [Array.getElem?_eq_none h'] at e; cases e
theorem GV.stM (h : GV g vs w0) (hM : g ∉ M) (hS : St w0 M w L) : GV g vs w := by
  have hg := h.lt
  obtain ⟨t, fz, e⟩ := h
  exact ⟨t, fz, (hS.old g hg hM).trans e⟩
theorem not_feet (hg : g < w0.heap.size) (hM : g ∉ M) (hS : St w0 M w L) (hp : Pulls L A K) : g ∉ feet A := by
  intro hf
  obtain ⟨r, hr, hb⟩ := List.mem_flatMap.1 hf
  have hm : r ∈ L := hp.perm.symm.subset (List.mem_append_left _ hr)
  exact hM ((hS.foot r hm g hb).2 hg)
theorem GV.pull (h : GV g vs w0) (hM : g ∉ M) (hS : St w0 M w L) (hp : Pulls L A K) : GV g vs w ∧ g ∉ feet A := ⟨h.stM hM hS, not_feet h.lt hM hS hp⟩
theorem GVE.stM (h : GVE g w0) (hM : g ∉ M) (hS : St w0 M w L) : GVE g w := by
  obtain ⟨tp, p, h⟩ := h; exact ⟨tp, p, h.stM hM hS⟩
theorem GVE.pull (h : GVE g w0) (hM : g ∉ M) (hS : St w0 M w L) (hp : Pulls L A K) : GVE g w ∧ g ∉ feet A := by
  obtain ⟨tp, p, h⟩ := h; exact ⟨⟨tp, p, h.stM hM hS⟩, not_feet h.lt hM hS hp⟩
end
section
variable {P : Program} {n : Nat} {w0 : World} {M : List Nat} {Q : Exit → Go.Act → World → Prop} {F F' : List (Nat × Value)} {L L' : List Res} {ops : Array Oper} {rest : List Oper}
/-- A part of the call's own slice. -/
theorem GL_cutMidF {α : Type} {e : α → List Value} {d T U E sz : Nat} {x y z : Operand} {pos : String} {aft : Array Edge} {h : Hd} {xs : List α} {kd kz : IntKind} {i j : Int} {Lf : Res → List Res} (fe : Flat e sz) (hd : Nat.blt d n = true) (hT : P.underlying T = some (.slice E)) (hs : Sz P E sz) (hx : ev F x = some h.val) (hy : ev F y = some (.int kd i)) (hz : ev F z = some (.int kz j)) (h0 : 0 ≤ i) (h1 : i ≤ j) (h2 : j ≤ (h.len : Int)) (hU : ∀ r, Upd L (Res.own h E sz (xs.flatMap e)) r (Lf r))
    (k : GL P n w0 M ops Q rest ((d, (h.cut i.toNat j.toNat sz).val) :: F) (Lf (Res.own (h.cut i.toNat j.toNat sz) E sz (((xs.take j.toNat).drop i.toNat).flatMap e)))) : GL P n w0 M ops Q (⟨some d, .slice T x (some y) (some z) none, U, pos, aft, none⟩ :: rest) F L := by
  refine GL_new (R := fun v L' => v = (h.cut i.toNat j.toNat sz).val ∧ L' = Lf (Res.own (h.cut i.toNat j.toNat sz) E sz (((xs.take j.toNat).drop i.toNat).flatMap e))) hd ?_ (fun v L' ⟨e1, e2⟩ => by subst e1; subst e2; exact k)
  intro a w hF hS
  have hok := hS.ok _ (hU ⟨[], fun _ => True, fun _ _ _ _ => trivial⟩).mem
  have hr : Rd w h E sz (xs.flatMap e) := Kn.own (M := M) (hU ⟨[], fun _ => True, fun _ _ _ _ => trivial⟩).mem w hS
  have hcap : h.len ≤ h.cap := by
    rcases hok with ⟨rfl, _⟩ | ⟨b, o, C, fz, e1, e2, e3, e4, e5, e6, _⟩
    · exact Nat.le_refl _
    · exact e6
  have hil : i.toNat ≤ j.toNat := by omega
  have hjl : j.toNat ≤ h.len := by omega
  have hlc : h.len * sz ≤ h.cap * sz := Nat.mul_le_mul_right sz hcap
  have hjc : j.toNat * sz ≤ h.len * sz := Nat.mul_le_mul_right sz hjl
  have hll : i.toNat * sz ≤ j.toNat * sz := Nat.mul_le_mul_right sz hil
  have hcs : ((xs.flatMap e).take (j.toNat * sz)).drop (i.toNat * sz) = ((xs.take j.toNat).drop i.toNat).flatMap e := cut_flat fe xs
  have hlen : (((xs.take j.toNat).drop i.toNat).flatMap e).length = j.toNat * sz - i.toNat * sz := by
    rw [← hcs, List.length_drop, List.length_take, ← hr.1, Nat.min_eq_left hjc]
  refine ⟨_, _, w, ⟨rfl, rfl⟩, ?_, ?_⟩
  · have hs' := hs w
    have hjcap : j ≤ (h.cap : Int) := by omega
    simp only [execOp, hF.ev hx, Option.map_some, Option.map_none, hF.ev hy, hF.ev hz, Hd.val, Instr.sliceAt, Instr.slice, underlying]
    simp [hT, Instr.sliceBounds, Instr.sliceBound, asIntOf, h1, h0, hs', Hd.cut, hjcap, show 0 ≤ j by omega, show i ≤ max j 0 by omega]
  · refine hS.turn (hU _) rfl rfl rfl (Nat.le_refl _) (fun _ _ _ => rfl) ?_ ?_
    · rcases hok with ⟨rfl, hn⟩ | ⟨b, o, C, fz, e1, e2, e3, e4, e5, e6, e7, e8⟩
      · have hj0 : j.toNat = 0 := by simp at hjl; omega
        have hi0 : i.toNat = 0 := by omega
        refine .inl ⟨by simp [Hd.cut, hj0, hi0], ?_⟩
        rw [List.eq_nil_of_length_eq_zero (l := ((xs.take j.toNat).drop i.toNat).flatMap e) (by rw [hlen, hj0]; simp)]
      · by_cases hci : h.cap = i.toNat
        · have hji : j.toNat = i.toNat := by omega
          refine .inr ⟨b, o, C, fz, by simp only [Hd.cut]; rw [if_pos hci]; exact e1, e2, e3, e4, ?_, ?_, ?_, ?_⟩
          · simp only [Hd.cut]; rw [hci, Nat.sub_self, Nat.zero_mul]; omega
          · simp only [Hd.cut]; omega
          · simp only [Hd.cut]; rw [hlen, Nat.sub_mul]
          · have hl0 : (((xs.take j.toNat).drop i.toNat).flatMap e).length = 0 := by rw [hlen, hji]; omega
            rw [List.eq_nil_of_length_eq_zero hl0]; simp
        · refine .inr ⟨b, o + i.toNat * sz, C, fz, by simp only [Hd.cut]; rw [if_neg hci, e1]; simp [add_at], e2, e3, fun j hj h => e4 j (by omega) h, ?_, ?_, ?_, ?_⟩
          · simp only [Hd.cut]; rw [Nat.sub_mul]; omega
          · simp only [Hd.cut]; omega
          · simp only [Hd.cut]; rw [hlen, Nat.sub_mul]
          · have hX : xs.flatMap e = (C.drop o).take (h.len * sz) := by rw [hr.1]; exact e8.symm
            have hY : ((xs.take j.toNat).drop i.toNat).flatMap e = ((C.drop o).take (j.toNat * sz)).drop (i.toNat * sz) := by rw [← hcs, hX, List.take_take, Nat.min_eq_left hjc]
            rw [hlen, hY, List.drop_take, List.drop_drop]
    · intro b hb
      have hb' : b ∈ (Res.own h E sz (xs.flatMap e)).foot := by
        revert hb
        simp only [Res.own, Hd.cut]
        cases ha : h.a with
        | none => by_cases hc : h.cap = i.toNat <;> simp [hc]
        | some a =>
          by_cases hc : h.cap = i.toNat
          · simp [hc]
          · simp only [hc, if_false, Option.map_some]
            unfold Addr.add
            split <;> simp
      exact ⟨(hS.foot _ (hU ⟨[], fun _ => True, fun _ _ _ _ => trivial⟩).mem b hb').1, .inl hb'⟩
theorem Upd.same' {L L' : List Res} {r r' : Res} (h : Upd L r r' L') (e : r = r') : L' = L := by
  induction h with
  | head => subst e; rfl
  | tail _ ih => rw [ih e]
theorem G_swap {cd : Code} {b T : Nat} {c c' : List Value} {Lf : Res → List Res} (hU : ∀ r, Upd L (Res.box b T c) r (Lf r)) (e : c = c') (k : G P n w0 M cd Q F (Lf (Res.box b T c'))) : G P n w0 M cd Q F L := by
  subst e
  rwa [(hU (Res.box b T c)).same' rfl] at k
theorem PS_ldGVM {T U g o : Nat} {x : Operand} {v : Value} {vs : List Value} (hg : GV g vs w0) (hM : g ∉ M) (hx : ev F x = some (.pointer (some ⟨g, o, none⟩))) (hT : TyS P T) (hv : vs[o]? = some v) : PS P n w0 M (.load T x) U F L v L := by
  intro a w hF hS
  obtain ⟨t, fz, e⟩ := hg.stM hM hS
  have hc : w.cell? ⟨g, o, none⟩ = some v := (cell_at e).trans hv
  exact ⟨w, by simp [execOp, hF.ev hx, Instr.loadAt, Instr.sureAddr, loadVar, hT w, hc], rfl, rfl⟩
/-- A part of one cell of an element of a slice. -/
theorem PS_ldF {α β : Type} [Inhabited α] {ea : α → List Value} {eb : β → List Value} {sz p q : Nat} {g : α → β} {s : α → β → α} {T U E i : Nat} {h : Hd} {x : Operand} {xs : List α} {v : Value}
    (hx : ev F x = some (h.ptr i sz p)) (hT : TyS P T) (fe : Flat ea sz) (hl : Lens ea eb p q g s) (hk : Kn w0 M L h E sz (xs.flatMap ea)) (hi : i < xs.length) (hv : eb (g (xs.getD i default)) = [v]) : PS P n w0 M (.load T x) U F L v L := by
  have e : xs.getD i default = xs[i] := by simp [List.getD, hi]
  rw [e] at hv
  exact PS_ldS hx hT fe hl hk hi hv
end
section
variable {p : Prop} [Decidable p] {a b : Bool} {m n : Int}
theorem kNb : ((!a) = false) = (a = true) := Bool.not_eq_false' a
theorem kOa : ((a || b) = true) = (a = true ∨ b = true) := Bool.or_eq_true a b
theorem kAa : ((a && b) = true) = (a = true ∧ b = true) := Bool.and_eq_true a b
theorem kOb : ((a || b) = false) = (a = false ∧ b = false) := propext Bool.or_eq_false_iff
theorem kAb : ((a && b) = false) = (a = false ∨ b = false) := propext Bool.and_eq_false_iff
end
end Go.Ing
/- What comes of what beings do: plain laws. -/
namespace Go.Ing
open Go
/-- Names no longer than memory allows. -/
structure Land.Brief (w : Land) : Prop where
  th : ∀ i, (w.things.at i).name.length ≤ 140737488351232
  be : ∀ i, (w.beings.at i).name.length ≤ 140737488351232
  ro : ∀ i, (w.rooms.at i).name.length ≤ 140737488351232
namespace Turn
theorem drop_at {l : List Int} {k : Int} (h0 : 0 ≤ k) (h1 : k < l.length) : l.drop k.toNat = l.getD k.toNat 0 :: l.drop (k + 1).toNat := by
  have hk : k.toNat < l.length := by omega
  rw [List.drop_eq_getElem_cons hk, show (k + 1).toNat = k.toNat + 1 by omega, List.getD_eq_getElem?_getD, List.getElem?_eq_getElem hk]
  rfl
theorem listS_t {w : Land} {s : Str} {l : List Int} {k : Int} (h0 : 0 ≤ k) (h1 : k < l.length) (h : (w.things.at (l.getD k.toNat 0)).on = true) : listS w s (l.drop k.toNat) = listS w (s ++ ([32] ++ (w.things.at (l.getD k.toNat 0)).name) ++ [42]) (l.drop (k + 1).toNat) := by
  rw [drop_at h0 h1, listS, if_pos h]; simp
theorem listS_f {w : Land} {s : Str} {l : List Int} {k : Int} (h0 : 0 ≤ k) (h1 : k < l.length) (h : (w.things.at (l.getD k.toNat 0)).on = false) : listS w s (l.drop k.toNat) = listS w (s ++ ([32] ++ (w.things.at (l.getD k.toNat 0)).name)) (l.drop (k + 1).toNat) := by
  rw [drop_at h0 h1, listS, if_neg (by rw [h]; decide)]; simp
theorem waysK_step {r : Room} {k : Int} (h : 0 ≤ k) : waysK r (k + 1).toNat = if decide (r.exits.at k = 0) = true then waysK r k.toNat else if r.shut.at k = true then waysK r k.toNat ++ ([32] ++ Land.called k) ++ [42] else waysK r k.toNat ++ ([32] ++ Land.called k) := by
  obtain ⟨m, rfl⟩ := Int.eq_ofNat_of_zero_le h
  rfl
theorem waysK_len (r : Room) : ∀ k : Nat, (waysK r k).length ≤ 5 + k * 22
  | 0 => by simp [waysK]
  | k + 1 => by
    have ih := waysK_len r k
    have hc := Land.called_len (k : Int)
    unfold waysK
    repeat' split
    all_goals (try simp only [List.length_append, List.length_cons, List.length_nil])
    all_goals omega
theorem hereK_w (T : Turn) : ∀ k : Nat, (T.hereK k).w = T.w ∧ (T.hereK k).b = T.b ∧ (T.hereK k).out.length ≤ T.out.length + k
  | 0 => ⟨rfl, rfl, by simp [hereK]⟩
  | k + 1 => by
    obtain ⟨h1, h2, h3⟩ := hereK_w T k
    unfold hereK
    split
    · exact ⟨by simpa using h1, by simpa using h2, by rw [tell_len]; omega⟩
    · exact ⟨h1, h2, by omega⟩
theorem hereK_step {T : Turn} {k : Int} (h : 0 ≤ k) : T.hereK (k + 1).toNat = if (!decide (k = T.b) && T.w.sees T.b k) = true then (T.hereK k.toNat).tell ((T.w.beings.at k).name ++ [32, 105, 115, 32, 104, 101, 114, 101, 46]) else T.hereK k.toNat := by
  obtain ⟨m, rfl⟩ := Int.eq_ofNat_of_zero_le h
  rfl
@[simp] theorem list_w (T : Turn) (s : Str) (l : List Int) : (T.list s l).w = T.w ∧ (T.list s l).b = T.b ∧ (T.list s l).out.length = T.out.length + 1 := ⟨rfl, rfl, by simp [list]⟩
theorem lookA_w (T : Turn) : T.lookA.w = T.w ∧ T.lookA.b = T.b ∧ T.lookA.out.length = T.out.length + 2 := ⟨rfl, rfl, by simp [lookA]⟩
theorem lookB_w (T : Turn) : T.lookB.w = T.w ∧ T.lookB.b = T.b ∧ T.lookB.out.length ≤ T.out.length + 3 := by
  have h := T.lookA_w
  unfold lookB
  split
  · have h2 := T.lookA.list_w [72, 101, 114, 101, 32, 105, 115] (T.w.has 0 T.me.room)
    exact ⟨h2.1.trans h.1, h2.2.1.trans h.2.1, by omega⟩
  · exact ⟨h.1, h.2.1, by omega⟩
theorem look_w (T : Turn) : T.look.w = T.w ∧ T.look.b = T.b ∧ T.look.out.length ≤ T.out.length + 9 := by
  unfold look
  split
  · exact ⟨rfl, rfl, by rw [tell_len]; omega⟩
  · have h := T.lookB_w
    have h2 := T.lookB.hereK_w 6
    exact ⟨h2.1.trans h.1, h2.2.1.trans h.2.1, by omega⟩
end Turn
theorem Line.getD_memI {xs : List Int} {i : Nat} (h : i < xs.length) : xs.getD i 0 ∈ xs := by
  rw [List.getD_eq_getElem?_getD, List.getElem?_eq_getElem h]
  exact List.getElem_mem h
theorem Land.bright_rng {w : Land} {r : Int} (h : (!w.bright r) = false) : 0 ≤ r ∧ r < 6 := by
  unfold Land.bright at h
  split at h
  · simp at h
  · rename_i c; simp at c; omega
theorem Land.has_mem {w : Land} {whr at_ i : Int} (h : i ∈ w.has whr at_) : 0 ≤ i ∧ i < 9 := by
  unfold Land.has at h
  have := (List.mem_filter.1 h).1
  obtain ⟨n, hn, rfl⟩ := List.mem_map.1 this
  have := List.mem_range.1 hn
  exact ⟨by simp, by show ((n : Nat) : Int) < 9; omega⟩
theorem Land.has_le (w : Land) (whr at_ : Int) : (w.has whr at_).length ≤ 9 := by
  rw [Land.has_eq]; exact Land.hasL_len w whr at_ _
end Go.Ing
/- What beings do keeps the land good: plain laws. -/
namespace Go.Ing
open Go
theorem Vector.put_put' {α : Type} [Inhabited α] {n : Nat} (v : Vector α n) (k : Int) (x y : α) : (v.put k x).put k y = v.put k y := by
  unfold Vector.put
  apply Vector.ext
  intro i hi
  simp only [Vector.getElem_setIfInBounds]
  split <;> rfl
theorem Vector.at_put' {α : Type} [Inhabited α] {n : Nat} {v : Vector α n} {k : Int} {x : α} (h0 : 0 ≤ k) (h1 : k < n) : (v.put k x).at k = x := by rw [at_put v k k x h0 h1 h0, if_pos rfl]
theorem Vector.at_putn {α : Type} [Inhabited α] {n : Nat} {v : Vector α n} {k i : Int} {x : α} (h0 : 0 ≤ k) (h1 : k < n) (hi : 0 ≤ i) (hn : i ≠ k) : (v.put k x).at i = v.at i := by rw [at_put v k i x h0 h1 hi, if_neg hn]
namespace Land
variable {X Y : Land}
theorem Out.path : ∀ {m : Nat} {i : Int}, 0 ≤ i → i < 9 → Out X m i → ∃ s : List Int, leftN s + s.length = 9 ∧ s.length = m + 1 ∧ ∀ j ∈ s, ∃ k, k ≤ m ∧ Out X k j
  | 0, i, h0, h9, h => ⟨[] ++ [i], by have := leftN_snoc (s := []) (i := i) (by simp) h0 h9; simp only [List.length_append, List.length_cons, List.length_nil]; have : leftN [] = 9 := rfl; omega, rfl, fun j hj => by
      have : j = i := by simpa using hj
      subst this; exact ⟨0, Nat.le_refl _, h⟩⟩
  | m + 1, i, h0, h9, h => by
    obtain ⟨s, h1, h2, h3⟩ := Out.path h.2.1 h.2.2.1 h.2.2.2
    have hn : i ∉ s := fun hm => by
      obtain ⟨k, hk, ho⟩ := h3 i hm
      have := h.uniq ho
      omega
    have hl := leftN_snoc hn h0 h9
    refine ⟨s ++ [i], by simp only [List.length_append, List.length_cons, List.length_nil]; omega, by simp only [List.length_append, List.length_cons, List.length_nil]; omega, fun j hj => ?_⟩
    rcases List.mem_append.1 hj with hj | hj
    · obtain ⟨k, hk, ho⟩ := h3 j hj
      exact ⟨k, by omega, ho⟩
    · have : j = i := by simpa using hj
      subst this; exact ⟨m + 1, Nat.le_refl _, h⟩
theorem Out.le8 {m : Nat} {i : Int} (h0 : 0 ≤ i) (h9 : i < 9) (h : Out X m i) : m ≤ 8 := by
  obtain ⟨s, h1, h2, _⟩ := h.path h0 h9
  omega
theorem climb_of_out : ∀ {m n : Nat} {i : Int}, Out X m i → m < n → X.climb n (X.things.at i) = true
  | _, 0, _, _, h => absurd h (Nat.not_lt_zero _)
  | 0, n + 1, i, h, _ => by
    unfold climb
    rw [if_pos (by simpa using (show (X.things.at i).whr ≠ 2 from h))]
  | m + 1, n + 1, i, h, hl => by
    unfold climb
    rw [if_neg (by simp [h.1]), if_neg (by have := h.2.1; have := h.2.2.1; simp; omega)]
    exact climb_of_out h.2.2.2 (by omega)
structure ThingP (X : Land) (i : Int) : Prop where
  k0 : 0 ≤ (X.things.at i).kind
  k3 : (X.things.at i).kind ≤ 3
  plain : (X.things.at i).kind = 0 → (X.things.at i).on = false
  a0 : 0 ≤ (X.things.at i).at_
  whr : ((X.things.at i).whr = 0 ∧ (X.things.at i).at_ < 6 ∧ ¬ ((X.things.at i).kind = 2 ∧ (X.things.at i).on = true)) ∨
    ((X.things.at i).whr = 1 ∧ (X.things.at i).at_ < 6 ∧ (X.beings.at (X.things.at i).at_).here = true) ∨
    ((X.things.at i).whr = 2 ∧ (X.things.at i).at_ < 9 ∧ (X.things.at (X.things.at i).at_).kind = 3 ∧ ¬ ((X.things.at i).kind = 2 ∧ (X.things.at i).on = true))
theorem ThingOk.p {i : Int} (h : ThingOk X i) : ThingP X i := ⟨h.k0, h.k3, h.plain, h.a0, by
  rcases h.whr with h | h | ⟨h1, h2, h3, h4, _⟩
  · exact .inl h
  · exact .inr (.inl h)
  · exact .inr (.inr ⟨h1, h2, h3, h4⟩)⟩
theorem goodThing_mk {i : Int} (h : ThingP X i) (h0 : 0 ≤ i) (h9 : i < 9) {m : Nat} (ho : Out X m i) : X.goodThing i = true := by
  have hc := climb_of_out ho (show m < 10 by have := ho.le8 h0 h9; omega)
  have := h.k0; have := h.k3; have := h.a0
  unfold goodThing
  rw [if_neg (by
    simp only [Bool.or_eq_true, Bool.and_eq_true, decide_eq_true_eq]
    rintro (((h1 | h1) | ⟨h1, h2⟩) | h1)
    · omega
    · omega
    · rw [h.plain h1] at h2; cases h2
    · omega)]
  rcases h.whr with ⟨w, a, b⟩ | ⟨w, a, b⟩ | ⟨w, a, k, b⟩
  · rw [if_pos (by simp [w])]
    simp only [Bool.and_eq_true, decide_eq_true_eq, Bool.not_eq_true']
    refine ⟨a, ?_⟩
    cases hh : (decide ((X.things.at i).kind = 2) && (X.things.at i).on) with
    | false => rfl
    | true => rw [Bool.and_eq_true] at hh; exact absurd ⟨of_decide_eq_true hh.1, hh.2⟩ b
  · rw [if_neg (by simp [w]), if_pos (by simp [w])]
    simp [a, b]
  · rw [if_neg (by simp [w]), if_neg (by simp [w]), if_pos (by simp [w]), if_neg (by
      simp only [Bool.or_eq_true, Bool.and_eq_true, decide_eq_true_eq, Bool.not_eq_true', decide_eq_false_iff_not]
      rintro ((h1 | h1) | ⟨h1, h2⟩)
      · omega
      · exact h1 k
      · exact b ⟨h1, h2⟩)]
    exact hc
theorem good_mk (hr : ∀ r d, 0 ≤ r → r < 6 → 0 ≤ d → d < 6 → badExit (X.rooms.at r) d = false) (hb : ∀ b, 0 ≤ b → b < 6 → badBeing (X.beings.at b) = false) (ht : ∀ i, 0 ≤ i → i < 9 → ThingP X i ∧ ∃ m, Out X m i) : X.good = true := by
  unfold good
  rw [Bool.and_eq_true, Bool.and_eq_true]
  refine ⟨(allFrom_iff 6).2 fun r h0 h1 => ?_, (allFrom_iff 6).2 fun b h0 h1 => ?_, (allFrom_iff 9).2 fun i h0 h1 => ?_⟩
  · exact (allFrom_iff 6).2 fun d d0 d1 => by rw [hr r d (by omega) h1 (by omega) d1]; rfl
  · rw [hb b (by omega) h1]; rfl
  · obtain ⟨hp, m, ho⟩ := ht i (by omega) h1
    exact goodThing_mk hp (by omega) h1 ho
/-- Two lands in which things are in the same boxes. -/
theorem Out.same (h : ∀ i, 0 ≤ i → i < 9 → (Y.things.at i).whr = (X.things.at i).whr ∧ (Y.things.at i).at_ = (X.things.at i).at_) : ∀ {m : Nat} {i : Int}, 0 ≤ i → i < 9 → Out X m i → Out Y m i
  | 0, i, h0, h9, ho => by show (Y.things.at i).whr ≠ 2; rw [(h i h0 h9).1]; exact ho
  | m + 1, i, h0, h9, ho => by
    refine ⟨(h i h0 h9).1.trans ho.1, ?_⟩
    rw [(h i h0 h9).2]
    exact ⟨ho.2.1, ho.2.2.1, Out.same h ho.2.1 ho.2.2.1 ho.2.2.2⟩
/-- One thing is elsewhere now. -/
theorem Out.other {k : Int} (h : ∀ i, 0 ≤ i → i < 9 → i ≠ k → Y.things.at i = X.things.at i) (hk : ∃ m, Out Y m k) : ∀ {m : Nat} {i : Int}, 0 ≤ i → i < 9 → Out X m i → ∃ m', Out Y m' i
  | 0, i, h0, h9, ho => by
    by_cases e : i = k
    · subst e; exact hk
    · exact ⟨0, by show (Y.things.at i).whr ≠ 2; rw [h i h0 h9 e]; exact ho⟩
  | m + 1, i, h0, h9, ho => by
    by_cases e : i = k
    · subst e; exact hk
    · obtain ⟨m', h'⟩ := Out.other h hk ho.2.1 ho.2.2.1 ho.2.2.2
      exact ⟨m' + 1, by rw [Out, h i h0 h9 e]; exact ⟨ho.1, ho.2.1, ho.2.2.1, h'⟩⟩
end Land
end Go.Ing
/- What beings do keeps the land good: the parts of a turn. -/
namespace Go.Ing
open Go
theorem Vector.at_or {α : Type} [Inhabited α] {n : Nat} (v : Vector α n) (k i : Int) (x : α) : (v.put k x).at i = x ∨ (v.put k x).at i = v.at i := by
  unfold Vector.put Vector.at
  rw [List.getD_eq_getElem?_getD, List.getD_eq_getElem?_getD]
  simp only [Vector.toList_setIfInBounds]
  rw [List.getElem?_set]
  split
  · split
    · exact .inl rfl
    · rename_i h1 h2
      exact .inr (by rw [← h1, List.getElem?_eq_none (by omega)])
  · exact .inr rfl
namespace Land
variable {X : Land}
def putT (X : Land) (i : Int) (t : Thing) : Land := { X with things := X.things.put i t }
def putB (X : Land) (b : Int) (x : Being) : Land := { X with beings := X.beings.put b x }
def putS (X : Land) (r d : Int) (v : Bool) : Land := { X with rooms := X.rooms.put r { X.rooms.at r with shut := (X.rooms.at r).shut.put d v } }
theorem good_p (hg : X.good = true) {i : Int} (h0 : 0 ≤ i) (h9 : i < 9) : ThingP X i := (thing_ok (good_thing hg h0 h9)).p
theorem good_out' (hg : X.good = true) {i : Int} (h0 : 0 ≤ i) (h9 : i < 9) : ∃ m, Out X m i := by
  obtain ⟨m, _, h⟩ := good_out hg h0 h9; exact ⟨m, h⟩
theorem putT_ne {i j : Int} (h0 : 0 ≤ i) (h9 : i < 9) (j0 : 0 ≤ j) (hn : j ≠ i) (t : Thing) : (X.putT i t).things.at j = X.things.at j := Vector.at_putn h0 h9 j0 hn
theorem putT_eq {i : Int} (h0 : 0 ≤ i) (h9 : i < 9) (t : Thing) : (X.putT i t).things.at i = t := Vector.at_put' h0 h9
theorem putB_ne {i j : Int} (h0 : 0 ≤ i) (h9 : i < 6) (j0 : 0 ≤ j) (hn : j ≠ i) (t : Being) : (X.putB i t).beings.at j = X.beings.at j := Vector.at_putn h0 h9 j0 hn
theorem putB_eq {i : Int} (h0 : 0 ≤ i) (h9 : i < 6) (t : Being) : (X.putB i t).beings.at i = t := Vector.at_put' h0 h9
theorem good_putT (hg : X.good = true) {i : Int} (h0 : 0 ≤ i) (h9 : i < 9) {t : Thing} (hk : t.kind = (X.things.at i).kind) (hp : ThingP (X.putT i t) i) (ho : ∃ m, Out (X.putT i t) m i) : (X.putT i t).good = true := by
  have hs : ∀ j, 0 ≤ j → j < 9 → j ≠ i → (X.putT i t).things.at j = X.things.at j := fun j j0 _ hn => putT_ne h0 h9 j0 hn t
  refine good_mk (fun r d r0 r6 d0 d6 => good_exit hg r0 r6 d0 d6) (fun b b0 b6 => good_being hg b0 b6) fun j j0 j9 => ?_
  obtain ⟨m, hm⟩ := good_out' hg j0 j9
  refine ⟨?_, Out.other hs ho j0 j9 hm⟩
  by_cases e : j = i
  · subst e; exact hp
  · have q := good_p hg j0 j9
    have hkk : ∀ a, 0 ≤ a → a < 9 → ((X.putT i t).things.at a).kind = (X.things.at a).kind := fun a a0 a9 => by
      by_cases ea : a = i
      · subst ea; rw [putT_eq h0 h9, hk]
      · rw [hs a a0 a9 ea]
    have ej := hs j j0 j9 e
    refine ⟨by rw [ej]; exact q.k0, by rw [ej]; exact q.k3, by rw [ej]; exact q.plain, by rw [ej]; exact q.a0, ?_⟩
    rw [ej]
    rcases q.whr with h | h | ⟨h1, h2, h3, h4⟩
    · exact .inl h
    · exact .inr (.inl h)
    · exact .inr (.inr ⟨h1, h2, by rw [hkk _ q.a0 h2]; exact h3, h4⟩)
theorem good_putB (hg : X.good = true) {b : Int} (h0 : 0 ≤ b) (h6 : b < 6) {x : Being} (hx : badBeing x = false) (hh : ∀ i, 0 ≤ i → i < 9 → (X.things.at i).whr = 1 → (X.things.at i).at_ = b → x.here = true) : (X.putB b x).good = true := by
  refine good_mk (fun r d r0 r6 d0 d6 => good_exit hg r0 r6 d0 d6) (fun c c0 c6 => ?_) fun j j0 j9 => ?_
  · by_cases e : c = b
    · subst e; rw [putB_eq h0 h6]; exact hx
    · rw [putB_ne h0 h6 c0 e]; exact good_being hg c0 c6
  · obtain ⟨m, hm⟩ := good_out' hg j0 j9
    refine ⟨?_, m, Out.same (X := X) (Y := X.putB b x) (fun _ _ _ => ⟨rfl, rfl⟩) j0 j9 hm⟩
    have q := good_p hg j0 j9
    refine ⟨q.k0, q.k3, q.plain, q.a0, ?_⟩
    rcases q.whr with h | ⟨h1, h2, h3⟩ | h
    · exact .inl h
    · refine .inr (.inl ⟨h1, h2, ?_⟩)
      show ((X.putB b x).beings.at (X.things.at j).at_).here = true
      by_cases e : (X.things.at j).at_ = b
      · rw [e, putB_eq h0 h6]; exact hh j j0 j9 h1 e
      · rw [putB_ne h0 h6 q.a0 e]; exact h3
    · exact .inr (.inr h)
/-! #### what is done to a thing -/
section
variable {i : Int} (hg : X.good = true) (h0 : 0 ≤ i) (h9 : i < 9)
include hg h0 h9
theorem good_place0 {v : Bool} {a : Int} (ha : 0 ≤ a ∧ a < 6) (hv : (X.things.at i).kind = 0 → v = false) (hc : ¬ ((X.things.at i).kind = 2 ∧ v = true)) : (X.putT i { X.things.at i with on := v, whr := 0, at_ := a }).good = true := by
  have q := good_p hg h0 h9
  refine good_putT hg h0 h9 (by rfl) ?_ ⟨0, by show ((X.putT i _).things.at i).whr ≠ 2; rw [putT_eq h0 h9]; intro hc; cases hc⟩
  refine ⟨?_, ?_, ?_, ?_, ?_⟩ <;> rw [putT_eq h0 h9]
  · exact q.k0
  · exact q.k3
  · exact hv
  · exact ha.1
  · exact .inl ⟨rfl, ha.2, hc⟩
end
end Land
end Go.Ing
/- What beings do keeps the land good: a turn. -/
namespace Go.Ing
open Go
namespace Land
structure Names (X Y : Land) : Prop where
  th : ∀ i, 0 ≤ i → i < 9 → (Y.things.at i).name = (X.things.at i).name ∧ (Y.things.at i).kind = (X.things.at i).kind
  ro : ∀ r, 0 ≤ r → r < 6 → (Y.rooms.at r).name = (X.rooms.at r).name ∧ (Y.rooms.at r).dark = (X.rooms.at r).dark ∧ (Y.rooms.at r).exits = (X.rooms.at r).exits
end Land
namespace Turn
/-- A turn that may go on: the land is good, the being is there, no name is beyond memory. -/
structure Fit (T : Turn) : Prop where
  b : 0 ≤ T.b ∧ T.b < 6
  br : T.w.Brief
  gd : T.w.good = true
  here : (T.w.beings.at T.b).here = true
/-- What a being does leaves alone what is not its own. -/
structure Step (b : Int) (X Y : Land) : Prop where
  th : ∀ i, 0 ≤ i → i < 9 → (Y.things.at i).name = (X.things.at i).name ∧ (Y.things.at i).kind = (X.things.at i).kind
  own : ∀ i, 0 ≤ i → i < 9 → (X.things.at i).whr = 1 → (X.things.at i).at_ ≠ b → Y.things.at i = X.things.at i
  be : ∀ c, 0 ≤ c → c < 6 → c ≠ b → { Y.beings.at c with foe := 0 } = { X.beings.at c with foe := 0 }
  ro : ∀ r, 0 ≤ r → r < 6 → (Y.rooms.at r).name = (X.rooms.at r).name ∧ (Y.rooms.at r).dark = (X.rooms.at r).dark ∧ (Y.rooms.at r).exits = (X.rooms.at r).exits
theorem Step.refl (b : Int) (X : Land) : Step b X X := ⟨fun _ _ _ => ⟨rfl, rfl⟩, fun _ _ _ _ _ => rfl, fun _ _ _ _ => rfl, fun _ _ _ => ⟨rfl, rfl, rfl⟩⟩
theorem Step.trans {b : Int} {X Y Z : Land} (h : Step b X Y) (k : Step b Y Z) : Step b X Z :=
  ⟨fun i h0 h9 => ⟨(k.th i h0 h9).1.trans (h.th i h0 h9).1, (k.th i h0 h9).2.trans (h.th i h0 h9).2⟩,
   fun i h0 h9 h1 h2 => by
    have e := h.own i h0 h9 h1 h2
    exact (k.own i h0 h9 (by rw [e]; exact h1) (by rw [e]; exact h2)).trans e,
   fun c h0 h6 hn => (k.be c h0 h6 hn).trans (h.be c h0 h6 hn),
   fun r h0 h6 => ⟨(k.ro r h0 h6).1.trans (h.ro r h0 h6).1, (k.ro r h0 h6).2.1.trans (h.ro r h0 h6).2.1, (k.ro r h0 h6).2.2.trans (h.ro r h0 h6).2.2⟩⟩
theorem Fit.of_w {T T' : Turn} (h : T.Fit) (hw : T'.w = T.w) (hb : T'.b = T.b) : T'.Fit := ⟨by rw [hb]; exact h.b, by rw [hw]; exact h.br, by rw [hw]; exact h.gd, by rw [hw, hb]; exact h.here⟩
theorem Fit.happens {T : Turn} (h : T.Fit) (e : Event) : (T.happens e).Fit := h.of_w rfl rfl
theorem Fit.tell {T : Turn} (h : T.Fit) (s : Str) : (T.tell s).Fit := h.of_w rfl rfl
theorem Fit.room {T : Turn} (h : T.Fit) : 0 ≤ (T.w.beings.at T.b).room ∧ (T.w.beings.at T.b).room < 6 := by
  have := Land.good_being h.gd h.b.1 h.b.2
  simp only [Land.badBeing, Bool.or_eq_false_iff, decide_eq_false_iff_not] at this
  omega
theorem Fit.exit {T : Turn} (h : T.Fit) {d : Int} (d0 : 0 ≤ d) (d6 : d < 6) : 0 ≤ (T.w.rooms.at (T.w.beings.at T.b).room).exits.at d ∧ (T.w.rooms.at (T.w.beings.at T.b).room).exits.at d ≤ 6 := by
  have := Land.good_exit h.gd h.room.1 h.room.2 d0 d6
  simp only [Land.badExit, Bool.or_eq_false_iff, decide_eq_false_iff_not] at this
  omega
theorem brief_putT {X : Land} (h : X.Brief) {i : Int} {t : Thing} (ht : t.name.length ≤ 140737488351232) : (X.putT i t).Brief := ⟨fun j => by
  rcases Vector.at_or X.things i j t with e | e
  · show ((X.things.put i t).at j).name.length ≤ _; rw [e]; exact ht
  · show ((X.things.put i t).at j).name.length ≤ _; rw [e]; exact h.th j, h.be, h.ro⟩
theorem brief_putB {X : Land} (h : X.Brief) {i : Int} {t : Being} (ht : t.name.length ≤ 140737488351232) : (X.putB i t).Brief := ⟨h.th, fun j => by
  rcases Vector.at_or X.beings i j t with e | e
  · show ((X.beings.put i t).at j).name.length ≤ _; rw [e]; exact ht
  · show ((X.beings.put i t).at j).name.length ≤ _; rw [e]; exact h.be j, h.ro⟩
theorem step_putT {b : Int} {X : Land} {i : Int} (h0 : 0 ≤ i) (h9 : i < 9) {t : Thing} (hn : t.name = (X.things.at i).name) (hk : t.kind = (X.things.at i).kind) (ho : (X.things.at i).whr = 1 → (X.things.at i).at_ = b) : Step b X (X.putT i t) :=
  ⟨fun j j0 _ => by
    by_cases e : j = i
    · subst e; rw [Land.putT_eq h0 h9]; exact ⟨hn, hk⟩
    · rw [Land.putT_ne h0 h9 j0 e]; exact ⟨rfl, rfl⟩,
   fun j j0 _ h1 h2 => by
    by_cases e : j = i
    · subst e; exact absurd (ho h1) h2
    · rw [Land.putT_ne h0 h9 j0 e],
   fun _ _ _ _ => rfl, fun _ _ _ => ⟨rfl, rfl, rfl⟩⟩
theorem step_putB {b : Int} {X : Land} {i : Int} (h0 : 0 ≤ i) (h6 : i < 6) {t : Being} (hn : i ≠ b → { t with foe := 0 } = { X.beings.at i with foe := 0 }) : Step b X (X.putB i t) :=
  ⟨fun _ _ _ => ⟨rfl, rfl⟩, fun _ _ _ _ _ => rfl, fun c c0 _ hc => by
    by_cases e : c = i
    · subst e; rw [Land.putB_eq h0 h6]; exact hn hc
    · rw [Land.putB_ne h0 h6 c0 e], fun _ _ _ => ⟨rfl, rfl, rfl⟩⟩
/-- A turn goes on: fit again, and nothing is touched that is another one's. -/
structure Goes (T T' : Turn) : Prop where
  b : T'.b = T.b
  fit : T'.Fit
  st : Step T.b T.w T'.w
theorem Goes.trans {T T' T'' : Turn} (h : Goes T T') (k : Goes T' T'') : Goes T T'' := ⟨k.b.trans h.b, k.fit, h.st.trans (by have := k.st; rwa [h.b] at this)⟩
theorem Fit.goes {T : Turn} (h : T.Fit) : Goes T T := ⟨rfl, h, .refl _ _⟩
theorem Goes.of_w {T T' T'' : Turn} (h : Goes T T') (hw : T''.w = T'.w) (hb : T''.b = T'.b) : Goes T T'' := ⟨hb.trans h.b, h.fit.of_w hw hb, by rw [hw]; exact h.st⟩
end Turn
end Go.Ing
/- What beings do keeps the land good: each order. -/
namespace Go.Ing
open Go
namespace Land
variable {X : Land}
theorem has_at {whr at_ i : Int} (h : i ∈ X.has whr at_) : (X.things.at i).whr = whr ∧ (X.things.at i).at_ = at_ := by
  have := (List.mem_filter.1 h).2
  rw [Bool.and_eq_true] at this
  exact ⟨of_decide_eq_true this.1, of_decide_eq_true this.2⟩
end Land
namespace Turn
/-! #### which things are meant -/
theorem pickL_sub (w : Land) (l : List Int) (nth : Int) (name : Str) (all : Bool) : (pickL w l nth name all).Sublist l := by
  unfold pickL
  split
  · exact List.filter_sublist
  · split
    · exact List.nil_sublist _
    · exact ((List.drop_sublist _ _).trans (List.take_sublist _ _)).trans List.filter_sublist
theorem pickL_mem {w : Land} {l : List Int} {nth : Int} {name : Str} {all : Bool} {i : Int} (h : i ∈ pickL w l nth name all) : i ∈ l := (pickL_sub w l nth name all).mem h
/-- A thing that may be taken or set by b. -/
def Mine (X : Land) (b i : Int) : Prop := 0 ≤ i ∧ i < 9 ∧ ((X.things.at i).whr = 1 → (X.things.at i).at_ = b)
def Own (X : Land) (b i : Int) : Prop := 0 ≤ i ∧ i < 9 ∧ (X.things.at i).whr = 1 ∧ (X.things.at i).at_ = b
theorem Own.mine {X : Land} {b i : Int} (h : Own X b i) : Mine X b i := ⟨h.1, h.2.1, fun _ => h.2.2.2⟩
theorem own_mem {T : Turn} {i : Int} (h : i ∈ T.own) : Own T.w T.b i := ⟨(Land.has_mem h).1, (Land.has_mem h).2, (Land.has_at h).1, (Land.has_at h).2⟩
theorem seen_mem {T : Turn} {i : Int} (h : i ∈ T.seen) : 0 ≤ i ∧ i < 9 ∧ (T.w.things.at i).whr = 0 := by
  unfold seen at h
  split at h
  · cases h
  · exact ⟨(Land.has_mem h).1, (Land.has_mem h).2, (Land.has_at h).1⟩
/-! #### a box, somebody -/
/-! #### taking and letting go -/
theorem setThing_goes {T : Turn} (h : T.Fit) {i : Int} (hm : Mine T.w T.b i) {t : Thing} (hn : t.name = (T.w.things.at i).name) (hk : t.kind = (T.w.things.at i).kind) (hg : (T.w.putT i t).good = true) : Goes T (T.setThing i t) :=
  ⟨rfl, ⟨h.b, brief_putT h.br (by rw [hn]; exact h.br.th i), hg, h.here⟩, step_putT hm.1 hm.2.1 hn hk hm.2.2⟩
/-- What `to' must be. -/
def ToOk (T : Turn) (v to : Int) : Prop := (v = 8) ∨ (v = 10 ∧ 0 ≤ to ∧ to < 6 ∧ (T.w.beings.at to).here = true) ∨ (v ≠ 8 ∧ v ≠ 10 ∧ 0 ≤ to ∧ to < 9 ∧ (T.w.things.at to).kind = 3)
theorem ToOk.next {T T' : Turn} {v to : Int} (h : ToOk T v to) (hb : T'.w.beings = T.w.beings) (hk : ∀ i, 0 ≤ i → i < 9 → (T'.w.things.at i).kind = (T.w.things.at i).kind) : ToOk T' v to := by
  rcases h with h | ⟨h1, h2, h3, h4⟩ | ⟨h1, h2, h3, h4, h5⟩
  · exact .inl h
  · exact .inr (.inl ⟨h1, h2, h3, by rw [hb]; exact h4⟩)
  · exact .inr (.inr ⟨h1, h2, h3, h4, by rw [hk _ h3 h4]; exact h5⟩)
end Turn
end Go.Ing
/- What walks through a turn need. -/
namespace Go.Ing
open Go
theorem take_next {α : Type} {l : List α} {k : Int} {d : α} (h0 : 0 ≤ k) (h1 : k < l.length) : l.take (k + 1).toNat = l.take k.toNat ++ [l.getD k.toNat d] := by
  obtain ⟨m, rfl⟩ := Int.eq_ofNat_of_zero_le h0
  have hm : m < l.length := by omega
  rw [show ((m : Int) + 1).toNat = m + 1 by omega, show ((m : Int)).toNat = m by omega, List.take_add_one, List.getElem?_eq_getElem hm, List.getD_eq_getElem?_getD, List.getElem?_eq_getElem hm]
  rfl
namespace Turn
theorem pickA_t {w : Land} {u : Str} {l : List Int} {k : Int} (h0 : 0 ≤ k) (h1 : k < l.length) (c : (decide (u = []) || decide ((w.things.at (l.getD k.toNat 0)).name = u)) = true) : pickA w u (l.take (k + 1).toNat) = pickA w u (l.take k.toNat) ++ [l.getD k.toNat 0] := by
  rw [take_next (d := 0) h0 h1, pickA, List.filter_append, List.filter_cons, if_pos c]; rfl
theorem pickA_f {w : Land} {u : Str} {l : List Int} {k : Int} (h0 : 0 ≤ k) (h1 : k < l.length) (c : (decide (u = []) || decide ((w.things.at (l.getD k.toNat 0)).name = u)) = false) : pickA w u (l.take (k + 1).toNat) = pickA w u (l.take k.toNat) := by
  rw [take_next (d := 0) h0 h1, pickA, List.filter_append, List.filter_cons, if_neg (by rw [c]; decide)]; simp [pickA]
theorem pickA_len (w : Land) (u : Str) (l : List Int) : (pickA w u l).length ≤ l.length := List.length_filter_le _ _
theorem own_len (T : Turn) : T.own.length ≤ 9 := Land.has_le _ _ _
theorem seen_len (T : Turn) : T.seen.length ≤ 9 := by
  unfold seen; split
  · simp
  · exact Land.has_le _ _ _
theorem own_rng {T : Turn} {i : Int} (h : i ∈ T.own) : 0 ≤ i ∧ i < 9 := ⟨(own_mem h).1, (own_mem h).2.1⟩
theorem seen_rng {T : Turn} {i : Int} (h : i ∈ T.seen) : 0 ≤ i ∧ i < 9 := ⟨(seen_mem h).1, (seen_mem h).2.1⟩
theorem box_out (T : Turn) (u : Str) : (T.box u).1.out.length ≤ T.out.length + 1 := by
  unfold box
  split
  · simp
  · split <;> simp
theorem somebody_out (T : Turn) (u : Str) : (T.somebody u).1.out.length ≤ T.out.length + 1 := by
  unfold somebody
  split
  · split <;> simp
  · simp
theorem place_eq (T : Turn) {i : Int} (h0 : 0 ≤ i) (h9 : i < 9) (wh a : Int) : ({ T.w with things := (T.w.things.put i { T.w.things.at i with whr := wh }).put i { (T.w.things.put i { T.w.things.at i with whr := wh }).at i with at_ := a } } : Land) = (T.place i wh a).w := by
  rw [Vector.at_put' h0 h9, Vector.put_put']; rfl
theorem dropOne_t (T : Turn) {i : Int} (h0 : 0 ≤ i) (h9 : i < 9) (c : decide ((T.w.things.at i).kind = 2) = true) : ({ T.w with things := (((T.w.things.put i { T.w.things.at i with on := false }).put i { (T.w.things.put i { T.w.things.at i with on := false }).at i with whr := 0 }).put i { ((T.w.things.put i { T.w.things.at i with on := false }).put i { (T.w.things.put i { T.w.things.at i with on := false }).at i with whr := 0 }).at i with at_ := (T.w.beings.at T.b).room }) } : Land) = (T.dropOne i).w := by
  rw [Vector.at_put' h0 h9, Vector.put_put', Vector.at_put' h0 h9, Vector.put_put']
  unfold dropOne
  rw [if_pos c]; rfl
theorem dropOne_f (T : Turn) {i : Int} (h0 : 0 ≤ i) (h9 : i < 9) (c : decide ((T.w.things.at i).kind = 2) = false) : ({ T.w with things := (T.w.things.put i { T.w.things.at i with whr := 0 }).put i { (T.w.things.put i { T.w.things.at i with whr := 0 }).at i with at_ := (T.w.beings.at T.b).room } } : Land) = (T.dropOne i).w := by
  rw [Vector.at_put' h0 h9, Vector.put_put']
  unfold dropOne
  rw [if_neg (by rw [c]; decide)]; rfl
theorem takeAll_step {X : Turn} {l : List Int} {k : Int} (h0 : 0 ≤ k) (h1 : k < l.length) : X.takeAll (l.drop k.toNat) = ((X.place (l.getD k.toNat 0) 1 X.b).thing 3 (l.getD k.toNat 0)).takeAll (l.drop (k + 1).toNat) := by
  rw [drop_at h0 h1]; rfl
theorem dropAll_step {X : Turn} {l : List Int} {k : Int} (h0 : 0 ≤ k) (h1 : k < l.length) : X.dropAll (l.drop k.toNat) = (X.dropOne (l.getD k.toNat 0)).dropAll (l.drop (k + 1).toNat) := by
  rw [drop_at h0 h1]; rfl
theorem drop_end {α : Type} {l : List α} : l.drop (l.length : Int).toNat = [] := by rw [show (l.length : Int).toNat = l.length by omega, List.drop_length]
theorem calmK_step {T : Turn} {k : Int} (h : 0 ≤ k) : T.calmK (k + 1).toNat = if decide (((T.calmK k.toNat).w.beings.at k).foe = T.b + 1) = true then (T.calmK k.toNat).setFoe k 0 else T.calmK k.toNat := by
  obtain ⟨m, rfl⟩ := Int.eq_ofNat_of_zero_le h
  rfl
theorem calmK_b (T : Turn) : ∀ k : Nat, (T.calmK k).b = T.b ∧ (T.calmK k).out = T.out
  | 0 => ⟨rfl, rfl⟩
  | k + 1 => by
    unfold calmK; split
    · exact calmK_b T k
    · exact calmK_b T k
theorem dropAll_b : ∀ (l : List Int) (T : Turn), (T.dropAll l).b = T.b ∧ (T.dropAll l).out = T.out
  | [], T => ⟨rfl, rfl⟩
  | i :: r, T => by rw [dropAll]; exact dropAll_b r _
@[simp] theorem thing_len (T : Turn) (k i : Int) : (T.thing k i).out.length = T.out.length + 1 := by simp [thing]
@[simp] theorem kind_len (T : Turn) (k : Int) : (T.kind k).out.length = T.out.length + 1 := by simp [kind]
theorem setFoe_b (T : Turn) (b f : Int) : (T.setFoe b f).b = T.b ∧ (T.setFoe b f).out = T.out := ⟨rfl, rfl⟩
theorem fall_b (T : Turn) : T.fall.b = T.b ∧ T.fall.out = T.out := by
  unfold fall
  rw [(setFoe_b _ _ _).1, (setFoe_b _ _ _).2]
  have h1 := Turn.dropAll_b T.own T
  have h2 := Turn.calmK_b (T.dropAll T.own) 6
  exact ⟨h2.1.trans h1.1, h2.2.trans h1.2⟩
theorem setBeing_b (T : Turn) (b : Int) (x : Being) : (T.setBeing b x).b = T.b ∧ (T.setBeing b x).out = T.out ∧ (T.setBeing b x).w = { T.w with beings := T.w.beings.put b x } := ⟨rfl, rfl, rfl⟩
theorem fade_b (T : Turn) : T.fade.b = (T.kind 18).b ∧ T.fade.out = (T.kind 18).out ∧ T.fade.w = { (T.kind 18).fall.w with beings := (T.kind 18).fall.w.beings.put (T.kind 18).b default } := by
  unfold fade
  rw [(setBeing_b _ _ _).1, (setBeing_b _ _ _).2.1, (setBeing_b _ _ _).2.2]
  exact ⟨(fall_b _).1, (fall_b _).2, rfl⟩
theorem letOne_out (T : Turn) (v to i : Int) : (T.letOne v to i).out.length ≤ T.out.length + 1 := by
  unfold letOne
  split
  · simp
  · split
    · rw [thing_len]; exact Nat.le_refl _
    · split
      · rw [happens_len]; exact Nat.le_refl _
      · split
        · simp
        · rw [happens_len]; exact Nat.le_refl _
theorem letTo_out (T : Turn) (o : Order) : (T.letTo o).1.out.length ≤ T.out.length + 1 := by
  unfold letTo
  split
  · exact T.box_out _
  · split
    · exact T.somebody_out _
    · exact Nat.le_succ _
theorem start_fit {X : Land} {b : Int} (hw : X.Brief) (c1 : (!X.good) = false) (c2 : (decide (b < 0) || decide (6 ≤ b) || !(X.beings.at b).here) = false) : Fit ⟨X, b, []⟩ := by
  simp only [Bool.or_eq_false_iff, decide_eq_false_iff_not, Bool.not_eq_false'] at c1 c2
  exact ⟨⟨by show 0 ≤ b; omega, by show b < 6; omega⟩, hw, c1, c2.2⟩
end Turn
end Go.Ing
/- Engine: texts deep within what came in, as parts of its reading. -/
namespace Go.Ing
open Go
section
open Go.RowKit Go.ChangeShapes Go.WideShapes Go.ChangeAt
variable {H : Type} {enc : TypeId × Value → H} {P : Program} {w : World}
inductive Inner : DataW H → DataW H → Prop where
  | refl (a : DataW H) : Inner a a
  | step {a p : DataW H} {parts : List (DataW H)} (hp : p ∈ parts) (h : Inner a p) : Inner a (.agg parts)
end
end Go.Ing
/- Laws of what beings do: doors; that rules answer at all. -/
namespace Go.Ing
open Go
theorem Vector.at_cases {α : Type} [Inhabited α] {n : Nat} (v : Vector α n) (i : Int) : v.at i = default ∨ ∃ j : Int, 0 ≤ j ∧ j < n ∧ v.at i = v.at j := by
  by_cases h : i.toNat < n
  · exact .inr ⟨(i.toNat : Int), by omega, by omega, by unfold Vector.at; rw [show ((i.toNat : Nat) : Int).toNat = i.toNat by omega]⟩
  · refine .inl ?_
    unfold Vector.at
    rw [List.getD_eq_getElem?_getD, List.getElem?_eq_none (by simp; omega)]
    rfl
theorem Land.brief_of {X : Land} (h1 : ∀ i, 0 ≤ i → i < 9 → (X.things.at i).name.length ≤ 140737488351232) (h2 : ∀ i, 0 ≤ i → i < 6 → (X.beings.at i).name.length ≤ 140737488351232) (h3 : ∀ i, 0 ≤ i → i < 6 → (X.rooms.at i).name.length ≤ 140737488351232) : X.Brief := by
  refine ⟨fun i => ?_, fun i => ?_, fun i => ?_⟩
  · rcases Vector.at_cases X.things i with e | ⟨j, j0, j1, e⟩
    · rw [e]; exact Nat.zero_le _
    · rw [e]; exact h1 j j0 j1
  · rcases Vector.at_cases X.beings i with e | ⟨j, j0, j1, e⟩
    · rw [e]; exact Nat.zero_le _
    · rw [e]; exact h2 j j0 j1
  · rcases Vector.at_cases X.rooms i with e | ⟨j, j0, j1, e⟩
    · rw [e]; exact Nat.zero_le _
    · rw [e]; exact h3 j j0 j1
theorem Land.name_at {X : Land} {i : Int} (h0 : 0 ≤ i) (h1 : i < 9) : (X.enc.drop (84 + i.toNat * 5)).take 1 = [vstr (X.things.at i).name] := ((Land.l1.comp (Lens.arr (n := 9) Thing.fl h0 h1)).comp Thing.l0).get X
theorem Land.bname_at {X : Land} {i : Int} (h0 : 0 ≤ i) (h1 : i < 6) : (X.enc.drop (129 + i.toNat * 6)).take 1 = [vstr (X.beings.at i).name] := ((Land.l2.comp (Lens.arr (n := 6) Being.fl h0 h1)).comp Being.l0).get X
theorem Land.rname_at {X : Land} {i : Int} (h0 : 0 ≤ i) (h1 : i < 6) : (X.enc.drop (0 + i.toNat * 14)).take 1 = [vstr (X.rooms.at i).name] := ((Land.l0.comp (Lens.arr (n := 6) Room.fl h0 h1)).comp Room.l0).get X
theorem Land.new_brief : Land.new.Brief := by
  refine Land.brief_of (fun i h0 h1 => ?_) (fun i h0 h1 => ?_) (fun i h0 h1 => ?_)
  · have : i = 0 ∨ i = 1 ∨ i = 2 ∨ i = 3 ∨ i = 4 ∨ i = 5 ∨ i = 6 ∨ i = 7 ∨ i = 8 := by omega
    rcases this with rfl | rfl | rfl | rfl | rfl | rfl | rfl | rfl | rfl <;> decide +kernel
  · have : i = 0 ∨ i = 1 ∨ i = 2 ∨ i = 3 ∨ i = 4 ∨ i = 5 := by omega
    rcases this with rfl | rfl | rfl | rfl | rfl | rfl <;> decide +kernel
  · have : i = 0 ∨ i = 1 ∨ i = 2 ∨ i = 3 ∨ i = 4 ∨ i = 5 := by omega
    rcases this with rfl | rfl | rfl | rfl | rfl | rfl <;> decide +kernel
namespace Turn
def mugO : Order := { (default : Order) with verb := 7, nth := 1, name := [109, 117, 103] }
theorem mug_0 : (doR Land.new 0 mugO).2.2 = 0 := by kernel_rfl
theorem mug_1 : (doR Land.new 0 mugO).2.1.length = 1 := by kernel_rfl
theorem mug_2 : ((doR Land.new 0 mugO).2.1.getD 0 default).kind = 3 := by kernel_rfl
theorem mug_3 : ((doR Land.new 0 mugO).1.things.at 6).whr = 1 := by kernel_rfl
theorem act_7 {T : Turn} {o : Order} (hv : o.verb = 7) : T.act o = T.get o := by
  unfold act
  rw [hv]
  rfl
structure DoOk (X : Land) (b : Int) (o : Order) : Prop where
  gd : X.good = true
  br : 0 ≤ b ∧ b < 6
  here : (X.beings.at b).here = true
  v : 0 ≤ o.verb ∧ o.verb ≤ 20
  w : (doR X b o).1 = (Turn.act ⟨X, b, []⟩ o).w
  out : (doR X b o).2.1 = (Turn.act ⟨X, b, []⟩ o).out
theorem DoOk.fit {X : Land} {b : Int} {o : Order} (h : DoOk X b o) (hw : X.Brief) : Fit ⟨X, b, []⟩ := ⟨h.br, hw, h.gd, h.here⟩
end Turn
end Go.Ing
/- What beings do keeps the land good: all orders. -/
namespace Go.Ing
open Go
namespace Turn
theorem setFoe_goes {T : Turn} (h : T.Fit) {c f : Int} (c0 : 0 ≤ c) (c6 : c < 6) (f0 : 0 ≤ f) (f6 : f ≤ 6) (hh : f ≠ 0 → (T.w.beings.at c).here = true) : Goes T (T.setFoe c f) := by
  have hg := Land.good_being h.gd c0 c6
  have hb : ∀ a, 0 ≤ a → ((T.setFoe c f).w.beings.at a).here = (T.w.beings.at a).here := fun a a0 => by
    show ((T.w.beings.put c { T.w.beings.at c with foe := f }).at a).here = _
    rw [at_put _ _ _ _ c0 c6 a0]
    split
    · rename_i e; subst e; rfl
    · rfl
  refine ⟨rfl, ⟨h.b, brief_putB h.br (h.br.be c), Land.good_putB h.gd c0 c6 ?_ fun i i0 i9 hw ha => ?_, (hb T.b h.b.1).trans h.here⟩, step_putB c0 c6 fun _ => rfl⟩
  · unfold Land.badBeing at hg ⊢
    simp only [Bool.or_eq_false_iff, decide_eq_false_iff_not, Bool.and_eq_false_iff, Bool.not_eq_false'] at hg ⊢
    obtain ⟨⟨⟨⟨⟨⟨⟨q1, q2⟩, q3⟩, q4⟩, q5⟩, q6⟩, q7⟩, q8⟩ := hg
    refine ⟨⟨⟨⟨⟨⟨⟨q1, q2⟩, q3⟩, q4⟩, by omega⟩, by omega⟩, ?_⟩, q8⟩
    by_cases e : f = 0
    · exact .inr (by simp [e])
    · exact .inl (hh e)
  · show (T.w.beings.at c).here = true
    have := Land.good_p h.gd i0 i9
    rcases this.whr with ⟨a, _⟩ | ⟨_, _, a⟩ | ⟨a, _⟩
    · omega
    · rw [ha] at a; exact a
    · omega
theorem dropOne_things {T : Turn} {i j : Int} (h0 : 0 ≤ i) (h9 : i < 9) (j0 : 0 ≤ j) : (T.dropOne i).w.things.at j = if j = i then { T.w.things.at i with on := if decide ((T.w.things.at i).kind = 2) = true then false else (T.w.things.at i).on, whr := 0, at_ := T.me.room } else T.w.things.at j := at_put _ _ _ _ h0 h9 j0
theorem dropOne_goes {T : Turn} (h : T.Fit) {i : Int} (hm : Mine T.w T.b i) : Goes T (T.dropOne i) :=
  setThing_goes h hm rfl rfl (Land.good_place0 h.gd hm.1 hm.2.1 h.room (fun e => by rw [if_neg (by rw [e]; decide)]; exact (Land.good_p h.gd hm.1 hm.2.1).plain e) (fun ⟨e1, e2⟩ => by rw [if_pos (decide_eq_true e1)] at e2; cases e2))
theorem dropAll_goes : ∀ {l : List Int} {T : Turn}, T.Fit → (∀ i ∈ l, Mine T.w T.b i) → Goes T (T.dropAll l) ∧ ∀ j, 0 ≤ j → j < 9 → (((T.dropAll l).w.things.at j).whr = 0 ∨ (j ∉ l ∧ (T.dropAll l).w.things.at j = T.w.things.at j))
  | [], T, h, _ => ⟨h.goes, fun j _ _ => .inr ⟨by simp, rfl⟩⟩
  | i :: r, T, h, hm => by
    have hi := hm i (List.mem_cons_self ..)
    have g1 := dropOne_goes h hi
    obtain ⟨g2, k2⟩ := dropAll_goes (l := r) g1.fit fun j hj => by
      have hj' := hm j (List.mem_cons_of_mem _ hj)
      refine ⟨hj'.1, hj'.2.1, ?_⟩
      rw [dropOne_things hi.1 hi.2.1 hj'.1]
      split
      · intro e; cases e
      · exact hj'.2.2
    refine ⟨g1.trans g2, fun j j0 j9 => ?_⟩
    rcases k2 j j0 j9 with e | ⟨e1, e2⟩
    · exact .inl e
    · have hd := dropOne_things (T := T) hi.1 hi.2.1 j0
      by_cases hji : j = i
      · rw [if_pos hji] at hd
        exact .inl (by rw [show (T.dropAll (i :: r)).w.things.at j = _ from e2, hd])
      · rw [if_neg hji] at hd
        exact .inr ⟨by simp [hji, e1], e2.trans hd⟩
theorem calmK_goes {T : Turn} (h : T.Fit) : ∀ {k : Nat}, k ≤ 6 → Goes T (T.calmK k) ∧ (T.calmK k).w.things = T.w.things
  | 0, _ => ⟨h.goes, rfl⟩
  | k + 1, hk => by
    obtain ⟨g, e⟩ := calmK_goes (k := k) h (by omega)
    unfold calmK
    split
    · exact ⟨g.trans (setFoe_goes g.fit (by omega) (by omega) (Int.le_refl _) (by decide) fun e => absurd rfl e), e⟩
    · exact ⟨g, e⟩
theorem fall_eq (T : Turn) : T.fall = ((T.dropAll T.own).calmK 6).setFoe T.b 0 := by unfold fall; rfl
theorem fall_go {T : Turn} (h : T.Fit) : Goes T T.fall := by
  have g1 := (dropAll_goes h (l := T.own) fun i hi => (own_mem hi).mine).1
  have g2 := (calmK_goes g1.fit (k := 6) (Nat.le_refl _)).1
  have g3 := g1.trans g2
  have g4 := setFoe_goes g3.fit (c := T.b) (f := 0) h.b.1 h.b.2 (Int.le_refl _) (by decide) (fun e => (e rfl).elim)
  rw [fall_eq]
  exact g3.trans g4
theorem setFoe_things (T : Turn) (b f : Int) : (T.setFoe b f).w.things = T.w.things := rfl
theorem fall_things {T : Turn} (h : T.Fit) {j : Int} (j0 : 0 ≤ j) (j9 : j < 9) : ¬ ((T.fall.w.things.at j).whr = 1 ∧ (T.fall.w.things.at j).at_ = T.b) := by
  obtain ⟨g1, k1⟩ := dropAll_goes h (l := T.own) fun i hi => (own_mem hi).mine
  have k2 := (calmK_goes g1.fit (k := 6) (Nat.le_refl _)).2
  rw [fall_eq, setFoe_things, k2]
  rcases k1 j j0 j9 with e | ⟨e1, e2⟩
  · rw [e]; exact fun h => by cases h.1
  · rw [e2]
    intro ⟨a, b⟩
    refine e1 ?_
    unfold own Land.has
    exact List.mem_filter.2 ⟨List.mem_map.2 ⟨j.toNat, List.mem_range.2 (by omega), by show ((j.toNat : Nat) : Int) = j; omega⟩, by rw [a, b]; simp⟩
theorem fall_goes {T : Turn} (h : T.Fit) : Goes T T.fall ∧ ∀ j, 0 ≤ j → j < 9 → ¬ ((T.fall.w.things.at j).whr = 1 ∧ (T.fall.w.things.at j).at_ = T.b) := ⟨fall_go h, fun _ j0 j9 => fall_things h j0 j9⟩
end Turn
end Go.Ing
/- Who is far perceives nothing: plain laws. -/
namespace Go.Ing
open Go
namespace Land
/-- Names no longer than what comes in. -/
structure Tiny (w : Land) : Prop where
  th : ∀ i, (w.things.at i).name.length ≤ 1048576
  be : ∀ i, (w.beings.at i).name.length ≤ 1048576
  ro : ∀ i, (w.rooms.at i).name.length ≤ 1048576
theorem tiny_putT {X : Land} (h : X.Tiny) {i : Int} {t : Thing} (ht : t.name.length ≤ 1048576) : (X.putT i t).Tiny := ⟨fun j => by
  rcases Vector.at_or X.things i j t with e | e
  · show ((X.things.put i t).at j).name.length ≤ _; rw [e]; exact ht
  · show ((X.things.put i t).at j).name.length ≤ _; rw [e]; exact h.th j, h.be, h.ro⟩
theorem tiny_putB {X : Land} (h : X.Tiny) {i : Int} {t : Being} (ht : t.name.length ≤ 1048576) : (X.putB i t).Tiny := ⟨h.th, fun j => by
  rcases Vector.at_or X.beings i j t with e | e
  · show ((X.beings.put i t).at j).name.length ≤ _; rw [e]; exact ht
  · show ((X.beings.put i t).at j).name.length ≤ _; rw [e]; exact h.be j, h.ro⟩
theorem tiny_putS {X : Land} (h : X.Tiny) {r d : Int} {v : Bool} : (X.putS r d v).Tiny := ⟨h.th, h.be, fun j => by
  rcases Vector.at_or X.rooms r j { X.rooms.at r with shut := (X.rooms.at r).shut.put d v } with e | e
  · show ((X.rooms.put r _).at j).name.length ≤ _; rw [e]; exact h.ro r
  · show ((X.rooms.put r _).at j).name.length ≤ _; rw [e]; exact h.ro j⟩
/-- What all perceive of an event is what each perceives. -/
theorem allN_same (w : Land) (e : Event) : ∀ n : Nat, (w.allN e n).kind = e.kind ∧ (w.allN e n).actor = e.actor ∧ (w.allN e n).room = e.room ∧ (w.allN e n).other = e.other ∧ (w.allN e n).n = e.n ∧ (w.allN e n).who = e.who ∧ (w.allN e n).whom = e.whom ∧ (w.allN e n).thing = e.thing ∧ (w.allN e n).text = e.text
  | 0 => ⟨rfl, rfl, rfl, rfl, rfl, rfl, rfl, rfl, rfl⟩
  | k + 1 => allN_same w e k
theorem perceives_same {w : Land} {b : Int} {e f : Event} (h1 : f.kind = e.kind) (h2 : f.actor = e.actor) (h3 : f.room = e.room) (h4 : f.other = e.other) : w.perceives b f = w.perceives b e := by
  unfold perceives unseen
  rw [h1, h2, h3, h4]
theorem allN_by (w : Land) (e : Event) : ∀ n : Nat, n ≤ 6 → ∀ c : Int, 0 ≤ c → c < n → (w.allN e n).by_.at c = w.perceives c e
  | 0, _, c, h0, h1 => by omega
  | k + 1, hn, c, h0, h1 => by
    obtain ⟨a1, a2, a3, a4, _⟩ := allN_same w e k
    show ((w.allN e k).by_.put (k : Int) (w.perceives k (w.allN e k))).at c = _
    rw [at_put _ _ _ _ (by omega) (by omega) h0]
    split
    · rename_i e1
      subst e1
      exact perceives_same a1 a2 a3 a4
    · exact allN_by w e k (by omega) c h0 (by omega)
theorem perceives_far {w : Land} {c : Int} {e : Event} (h : w.perceives c e ≠ 0) (hn : c ≠ e.actor) : e.kind ≠ 16 ∧ (w.beings.at c).room = e.room := by
  rcases perceives_cases w c e with h' | ⟨_, ⟨h', _⟩ | ⟨_, h1, h2, _⟩⟩
  · exact absurd h' h
  · exact absurd h' hn
  · exact ⟨h1, h2⟩
end Land
namespace Turn
/-- What may be perceived, in rooms of S, by c. -/
def EvP (b c rc : Int) (S : Int → Prop) (e : Event) : Prop := e.actor = b ∧ (e.by_.at c ≠ 0 → e.kind ≠ 16 ∧ S rc ∧ Land.Small e)
structure Inv (b c rc : Int) (S : Int → Prop) (T : Turn) : Prop where
  hb : T.b = b
  hr : (T.w.beings.at c).room = rc
  me : S (T.w.beings.at T.b).room
  ti : T.w.Tiny
  out : ∀ e ∈ T.out, EvP b c rc S e
section
variable {b c rc : Int} {S : Int → Prop} {T : Turn}
theorem Inv.happens (h : Inv b c rc S T) (c0 : 0 ≤ c) (c6 : c < 6) (hn : c ≠ b) {e : Event} (h1 : e.kind ≠ 16 → e.thing.length ≤ 1048576 ∧ e.text.length ≤ 1048576) (h2 : e.n = 0) (h3 : e.whom.length ≤ 1048576) : Inv b c rc S (T.happens e) := by
  refine ⟨h.hb, h.hr, h.me, h.ti, fun x hx => ?_⟩
  rcases List.mem_append.1 (show x ∈ T.out ++ [T.w.allN (T.event2 e) 6] from hx) with hx | hx
  · exact h.out x hx
  · have hx' : x = T.w.allN (T.event2 e) 6 := by simpa using hx
    subst hx'
    obtain ⟨a1, a2, a3, a4, a5, a6, a7, a8, a9⟩ := Land.allN_same T.w (T.event2 e) 6
    have e2 : (T.event2 e).kind = e.kind ∧ (T.event2 e).actor = T.b ∧ (T.event2 e).room = T.me.room ∧ (T.event2 e).n = e.n ∧ (T.event2 e).who = T.me.name ∧ (T.event2 e).whom.length ≤ 1048576 ∧ (T.event2 e).thing = e.thing ∧ (T.event2 e).text = e.text := by
      unfold event2
      split
      · exact ⟨rfl, rfl, rfl, rfl, rfl, h.ti.be _, rfl, rfl⟩
      · exact ⟨rfl, rfl, rfl, rfl, rfl, h3, rfl, rfl⟩
    obtain ⟨b1, b2, b3, b4, b5, b6, b7, b8⟩ := e2
    refine ⟨by rw [a2, b2, h.hb], fun hb => ?_⟩
    rw [Land.allN_by T.w _ 6 (Nat.le_refl _) c c0 c6] at hb
    have hf := Land.perceives_far hb (by rw [b2, h.hb]; exact hn)
    rw [b1] at hf
    obtain ⟨k1, k2⟩ := h1 hf.1
    refine ⟨by rw [a1, b1]; exact hf.1, ?_, ?_⟩
    · have : rc = (T.w.beings.at T.b).room := by rw [← h.hr, hf.2, b3]; rfl
      rw [this]; exact h.me
    · refine ⟨?_, ?_, ?_, ?_, ?_, ?_⟩
      · rw [a6, b5]; exact Nat.le_trans (h.ti.be T.b) (by decide)
      · rw [a7]; exact Nat.le_trans b6 (by decide)
      · rw [a8, b7]; exact Nat.le_trans k1 (by decide)
      · rw [a9, b8]; exact Nat.le_trans k2 (by decide)
      · rw [a5, b4, h2]; decide
      · rw [a5, b4, h2]; decide
theorem Inv.tell (h : Inv b c rc S T) (c0 : 0 ≤ c) (c6 : c < 6) (hn : c ≠ b) (s : Str) : Inv b c rc S (T.tell s) := h.happens c0 c6 hn (fun e => absurd rfl e) rfl (Nat.zero_le _)
theorem Inv.kind (h : Inv b c rc S T) (c0 : 0 ≤ c) (c6 : c < 6) (hn : c ≠ b) (k : Int) : Inv b c rc S (T.kind k) := h.happens c0 c6 hn (fun _ => ⟨Nat.zero_le _, Nat.zero_le _⟩) rfl (Nat.zero_le _)
theorem Inv.thing (h : Inv b c rc S T) (c0 : 0 ≤ c) (c6 : c < 6) (hn : c ≠ b) (k i : Int) : Inv b c rc S (T.thing k i) := h.happens c0 c6 hn (fun _ => ⟨h.ti.th i, Nat.zero_le _⟩) rfl (Nat.zero_le _)
theorem Inv.land (h : Inv b c rc S T) {w' : Land} (hr : ∀ a, (w'.beings.at a).room = (T.w.beings.at a).room) (ht : w'.Tiny) : Inv b c rc S { T with w := w' } := ⟨h.hb, (hr c).trans h.hr, by show S (w'.beings.at T.b).room; rw [hr]; exact h.me, ht, h.out⟩
theorem Inv.setThing (h : Inv b c rc S T) {i : Int} {t : Thing} (ht : t.name = (T.w.things.at i).name) : Inv b c rc S (T.setThing i t) := h.land (w' := T.w.putT i t) (fun _ => rfl) (Land.tiny_putT h.ti (by rw [ht]; exact h.ti.th i))
theorem Inv.place (h : Inv b c rc S T) (i whr at_ : Int) : Inv b c rc S (T.place i whr at_) := h.setThing rfl
theorem room_foe (v : Vector Being 6) (k a f : Int) : ((v.put k { v.at k with foe := f }).at a).room = (v.at a).room := by
  unfold Vector.put Vector.at
  rw [List.getD_eq_getElem?_getD, List.getD_eq_getElem?_getD, List.getD_eq_getElem?_getD]
  simp only [Vector.toList_setIfInBounds]
  rw [List.getElem?_set]
  split
  · rename_i h1
    split
    · rw [h1]; rfl
    · rename_i h2
      rw [← h1, List.getElem?_eq_none (by omega)]
  · rfl
theorem Inv.setFoe (h : Inv b c rc S T) (k f : Int) : Inv b c rc S (T.setFoe k f) := h.land (w' := T.w.putB k { T.w.beings.at k with foe := f }) (fun a => room_foe _ _ _ _) (Land.tiny_putB h.ti (h.ti.be k))
theorem Inv.setShut (h : Inv b c rc S T) (r d : Int) (v : Bool) : Inv b c rc S (T.setShut r d v) := h.land (w' := T.w.putS r d v) (fun _ => rfl) (Land.tiny_putS h.ti)
theorem Inv.moved (c0 : 0 ≤ c) (hn : c ≠ b) (h : Inv b c rc S T) (hb : 0 ≤ b ∧ b < 6) {r : Int} (hr : S r) : Inv b c rc S (T.moved r) := by
  have hm : (T.moved r).w.beings.at T.b = { T.me with room := r, foe := 0 } := Vector.at_put' (by rw [h.hb]; exact hb.1) (by rw [h.hb]; exact hb.2)
  have hc : (T.moved r).w.beings.at c = T.w.beings.at c := Vector.at_putn (by rw [h.hb]; exact hb.1) (by rw [h.hb]; exact hb.2) c0 (by rw [h.hb]; exact hn)
  refine ⟨h.hb, by rw [hc]; exact h.hr, ?_, Land.tiny_putB h.ti (h.ti.be T.b), h.out⟩
  show S ((T.moved r).w.beings.at T.b).room
  rw [hm]; exact hr
section
variable (c0 : 0 ≤ c) (c6 : c < 6) (hn : c ≠ b)
include c0 c6 hn
theorem Inv.list (h : Inv b c rc S T) (s : Str) (l : List Int) : Inv b c rc S (T.list s l) := h.tell c0 c6 hn _
theorem Inv.look (h : Inv b c rc S T) : Inv b c rc S T.look := by
  have hk : ∀ {T' : Turn}, Inv b c rc S T' → ∀ k : Nat, Inv b c rc S (T'.hereK k) := fun {T'} h' k => by
    induction k with
    | zero => exact h'
    | succ k ih =>
      unfold hereK
      split
      · exact ih.tell c0 c6 hn _
      · exact ih
  unfold Turn.look
  split
  · exact h.tell c0 c6 hn _
  · refine hk ?_ 6
    have ha : Inv b c rc S T.lookA := (h.tell c0 c6 hn _).tell c0 c6 hn _
    unfold lookB
    split
    · exact ha.list c0 c6 hn _ _
    · exact ha
theorem Inv.walk (h : Inv b c rc S T) (hb : 0 ≤ b ∧ b < 6) {d : Int} (hr : (T.w.rooms.at (T.w.beings.at T.b).room).exits.at d ≠ 0 → (T.w.rooms.at (T.w.beings.at T.b).room).shut.at d = false → S ((T.w.rooms.at (T.w.beings.at T.b).room).exits.at d - 1)) : Inv b c rc S (T.walk d) := by
  unfold Turn.walk
  split
  · exact h.tell c0 c6 hn _
  · rename_i h1
    split
    · exact h.tell c0 c6 hn _
    · rename_i h2
      have i1 : Inv b c rc S (T.happens { evk 1 with dir := d }) := h.happens c0 c6 hn (fun _ => ⟨Nat.zero_le _, Nat.zero_le _⟩) rfl (Nat.zero_le _)
      have i2 := i1.moved c0 hn hb (r := (T.w.rooms.at T.me.room).exits.at d - 1) (hr (fun e => h1 (decide_eq_true e)) (Bool.eq_false_iff.2 h2))
      exact (i2.happens c0 c6 hn (e := { evk 2 with dir := Land.opposite d }) (fun _ => ⟨Nat.zero_le _, Nat.zero_le _⟩) rfl (Nat.zero_le _)).look c0 c6 hn
theorem Inv.box (h : Inv b c rc S T) (u : Str) : Inv b c rc S (T.box u).1 := by
  unfold Turn.box
  split
  · exact h.tell c0 c6 hn _
  · split
    · exact h.tell c0 c6 hn _
    · exact h
theorem Inv.somebody (h : Inv b c rc S T) (u : Str) : Inv b c rc S (T.somebody u).1 := by
  unfold Turn.somebody
  split
  · split
    · exact h
    · exact h.tell c0 c6 hn _
  · exact h.tell c0 c6 hn _
theorem Inv.takeAll (l : List Int) : ∀ {T' : Turn}, Inv b c rc S T' → Inv b c rc S (T'.takeAll l) := by
  induction l with
  | nil => exact fun h => h
  | cons i r ih => exact fun {T'} h => ih ((h.place i 1 T'.b).thing c0 c6 hn 3 i)
theorem Inv.getL (h : Inv b c rc S T) (l : List Int) (o : Order) : Inv b c rc S (T.getL l o) := by
  unfold Turn.getL
  refine Inv.takeAll c0 c6 hn _ ?_
  split
  · exact h.tell c0 c6 hn _
  · exact h
theorem Inv.get (h : Inv b c rc S T) (o : Order) : Inv b c rc S (T.get o) := by
  unfold Turn.get
  split
  · split
    · exact h.box c0 c6 hn _
    · exact (h.box c0 c6 hn _).getL c0 c6 hn _ _
  · exact h.getL c0 c6 hn _ _
theorem Inv.letOne (h : Inv b c rc S T) (v to i : Int) : Inv b c rc S (T.letOne v to i) := by
  unfold Turn.letOne
  split
  · exact h.tell c0 c6 hn _
  · split
    · exact (h.place _ _ _).thing c0 c6 hn _ _
    · split
      · exact (h.place i 1 to).happens c0 c6 hn (e := { evk 6 with other := to, thing := (T.w.things.at i).name }) (fun _ => ⟨h.ti.th i, Nat.zero_le _⟩) rfl (Nat.zero_le _)
      · split
        · exact h.tell c0 c6 hn _
        · exact (h.place i 2 to).happens c0 c6 hn (e := { evk 5 with thing := (T.w.things.at i).name, text := (T.w.things.at to).name }) (fun _ => ⟨h.ti.th i, h.ti.th to⟩) rfl (Nat.zero_le _)
theorem Inv.letAll {v to : Int} (l : List Int) : ∀ {T' : Turn}, Inv b c rc S T' → Inv b c rc S (T'.letAll v to l) := by
  induction l with
  | nil => exact fun h => h
  | cons i r ih => exact fun h => ih (h.letOne c0 c6 hn v to i)
theorem Inv.letGo (h : Inv b c rc S T) (o : Order) : Inv b c rc S (T.letGo o) := by
  have ht : Inv b c rc S (T.letTo o).1 := by
    unfold letTo
    split
    · exact h.box c0 c6 hn _
    · split
      · exact h.somebody c0 c6 hn _
      · exact h
  unfold Turn.letGo
  split
  · exact ht
  · unfold letL
    refine Inv.letAll c0 c6 hn _ ?_
    split
    · exact ht.tell c0 c6 hn _
    · exact ht
theorem Inv.fight (h : Inv b c rc S T) (o : Order) : Inv b c rc S (T.fight o) := by
  unfold Turn.fight
  generalize (if (!decide (o.nth = 1) || o.all_) = true then [] else o.name) = nm
  have hs := h.somebody c0 c6 hn nm
  split
  · exact hs
  · refine Inv.tell ?_ c0 c6 hn _
    split
    · exact (hs.setFoe _ _).setFoe _ _
    · exact hs.setFoe _ _
theorem Inv.before (h : Inv b c rc S T) (first : Bool) (i : Int) (v : Bool) (k : Int) : Inv b c rc S (T.before first i v k) := by
  unfold Turn.before
  split
  · exact (Inv.setThing h (i := i) (t := { T.w.things.at i with on := v }) rfl).thing c0 c6 hn _ _
  · exact (h.thing c0 c6 hn k i).setThing rfl
theorem Inv.door (h : Inv b c rc S T) (d : Int) (on : Bool) (k : Int) : Inv b c rc S (T.door d on k) := by
  unfold Turn.door
  split
  · exact h.tell c0 c6 hn _
  · split
    · exact h.tell c0 c6 hn _
    · refine Inv.happens ?_ c0 c6 hn (fun _ => ⟨by show ([100, 111, 111, 114] : Str).length ≤ 1048576; decide, Nat.zero_le _⟩) rfl (Nat.zero_le _)
      split
      · exact (h.setShut _ _ _).setShut _ _ _
      · exact h.setShut _ _ _
theorem Inv.set (h : Inv b c rc S T) (o : Order) : Inv b c rc S (T.set o) := by
  unfold Turn.set
  split
  · exact h.door c0 c6 hn _ _ _
  · split
    · exact h.tell c0 c6 hn _
    · split
      · exact h.tell c0 c6 hn _
      · split
        · exact h.before c0 c6 hn _ _ _ _
        · exact h.before c0 c6 hn _ _ _ _
end
end
end Turn
end Go.Ing
/- What others are told is not empty: plain laws. -/
namespace Go.Ing
open Go
namespace Land
end Land
namespace Turn
theorem takeAll_out : ∀ (l : List Int) (T : Turn), (T.takeAll l).out.length = T.out.length + l.length
  | [], T => rfl
  | i :: r, T => by rw [takeAll, takeAll_out r, thing_len]; show T.out.length + 1 + r.length = _; rw [List.length_cons]; omega
theorem letAll_out (v to : Int) : ∀ (l : List Int) (T : Turn), (T.letAll v to l).out.length ≤ T.out.length + l.length
  | [], T => Nat.le_refl _
  | i :: r, T => by
    have h1 := letAll_out v to r (T.letOne v to i)
    have h2 := T.letOne_out v to i
    rw [letAll, List.length_cons]; omega
theorem getL_out (T : Turn) {l : List Int} (hl : l.length ≤ 9) (o : Order) : (T.getL l o).out.length ≤ T.out.length + 10 := by
  have h := (pickL_sub T.w l o.nth o.name o.all_).length_le
  unfold getL
  rw [takeAll_out]
  split
  · rw [tell_len]; omega
  · omega
theorem get_out (T : Turn) (o : Order) : (T.get o).out.length ≤ T.out.length + 11 := by
  have hb := T.box_out o.second
  unfold get
  split
  · split
    · omega
    · have := getL_out (T.box o.second).1 (Land.has_le (T.box o.second).1.w 2 (T.box o.second).2.1) o
      omega
  · have := getL_out T T.seen_len o
    omega
theorem letGo_out (T : Turn) (o : Order) : (T.letGo o).out.length ≤ T.out.length + 11 := by
  have hb := T.letTo_out o
  unfold letGo
  split
  · omega
  · unfold letL
    have h := (pickL_sub (T.letTo o).1.w (T.letTo o).1.own o.nth o.name o.all_).length_le
    have h9 := (T.letTo o).1.own_len
    refine Nat.le_trans (letAll_out _ _ _ _) ?_
    split
    · rw [tell_len]; omega
    · omega
theorem fight_out (T : Turn) (o : Order) : (T.fight o).out.length ≤ T.out.length + 2 := by
  unfold fight
  generalize (if (!decide (o.nth = 1) || o.all_) = true then [] else o.name) = nm
  have hs := T.somebody_out nm
  split
  · omega
  · refine Nat.le_trans (Nat.le_of_eq (tell_len _ _)) ?_
    split
    · show (T.somebody nm).1.out.length + 1 ≤ _; omega
    · show (T.somebody nm).1.out.length + 1 ≤ _; omega
theorem before_out (T : Turn) (first : Bool) (i : Int) (v : Bool) (k : Int) : (T.before first i v k).out.length = T.out.length + 1 := by
  unfold before
  split
  · rw [thing_len]; rfl
  · exact thing_len T k i
theorem set_out (T : Turn) (o : Order) : (T.set o).out.length ≤ T.out.length + 1 := by
  unfold set
  split
  · unfold door
    split
    · rw [tell_len]; exact Nat.le_refl _
    · split
      · rw [tell_len]; exact Nat.le_refl _
      · refine Nat.le_trans (Nat.le_of_eq (happens_len _ _)) ?_
        split <;> exact Nat.le_refl _
  · split
    · rw [tell_len]; exact Nat.le_refl _
    · split
      · rw [tell_len]; exact Nat.le_refl _
      · split
        · exact Nat.le_of_eq (before_out T _ _ _ _)
        · exact Nat.le_of_eq (before_out T _ _ _ _)
theorem walk_out (T : Turn) (d : Int) : (T.walk d).out.length ≤ T.out.length + 11 := by
  unfold walk
  split
  · rw [tell_len]; omega
  · split
    · rw [tell_len]; omega
    · refine Nat.le_trans (look_w _).2.2 ?_
      rw [happens_len]
      show (T.out ++ [_]).length + 1 + 9 ≤ _
      simp
theorem act_out (T : Turn) (o : Order) : (T.act o).out.length ≤ T.out.length + 11 := by
  unfold act
  split
  · exact T.walk_out _
  · split
    · exact Nat.le_trans (T.look_w).2.2 (by omega)
    · split
      · rw [(T.list_w _ _).2.2]; omega
      · split
        · rw [happens_len]; omega
        · split
          · rw [(T.fade_b).2.1, kind_len]; omega
          · split
            · exact Nat.le_trans (T.fight_out o) (by omega)
            · split
              · exact T.get_out o
              · split
                · exact T.letGo_out o
                · exact Nat.le_trans (T.set_out o) (by omega)
theorem DoOk.len {X : Land} {b : Int} {o : Order} (h : DoOk X b o) : (doR X b o).2.1.length ≤ 11 := by rw [h.out]; exact act_out ⟨X, b, []⟩ o
end Turn
end Go.Ing
/- A round of all fights: plain functions and laws. -/
namespace Go.Ing
open Go
theorem tmod3 (d : Int) : -2 ≤ d.tmod 3 ∧ d.tmod 3 ≤ 2 := by
  have h1 := Int.tmod_lt_of_pos d (show (0 : Int) < 3 by decide)
  have h2 := Int.tmod_lt_of_pos (-d) (show (0 : Int) < 3 by decide)
  rw [Int.neg_tmod] at h2
  omega
namespace Turn
def die0 (w : Land) (b : Int) : Turn := ⟨w.putB b { w.beings.at b with health := 1 }, b, []⟩
def die1 (w : Land) (b : Int) : Turn := ((die0 w b).kind 15).fall
def die2 (w : Land) (b : Int) : Turn := (die1 w b).setBeing b { (die1 w b).w.beings.at b with room := 0, health := 10 }
def dieT (w : Land) (b : Int) : Turn := if decide (b < 2) = true then (die1 w b).setBeing b default else ((die2 w b).kind 17).look
def hit (draw b : Int) : Int := 1 + (draw.tmod 3 + 3 + b).tmod 3
def struck (w : Land) (b foe n : Int) : Turn := (Turn.happens ⟨w, b, []⟩ { evk 14 with other := foe, n := n }).setBeing foe { w.beings.at foe with health := max 0 ((w.beings.at foe).health - n) }
def roundS (draw b : Int) (s : Land × List Event) : Land × List Event :=
  if (!(s.1.beings.at b).here || decide ((s.1.beings.at b).foe = 0)) = true then s
  else if (!(s.1.beings.at ((s.1.beings.at b).foe - 1)).here || !decide ((s.1.beings.at ((s.1.beings.at b).foe - 1)).room = (s.1.beings.at b).room)) = true then (s.1.putB b { s.1.beings.at b with foe := 0 }, s.2)
  else if decide (((struck s.1 b ((s.1.beings.at b).foe - 1) (hit draw b)).w.beings.at ((s.1.beings.at b).foe - 1)).health = 0) = true then ((dieT (struck s.1 b ((s.1.beings.at b).foe - 1) (hit draw b)).w ((s.1.beings.at b).foe - 1)).w, (s.2 ++ (struck s.1 b ((s.1.beings.at b).foe - 1) (hit draw b)).out) ++ (dieT (struck s.1 b ((s.1.beings.at b).foe - 1) (hit draw b)).w ((s.1.beings.at b).foe - 1)).out)
  else ((struck s.1 b ((s.1.beings.at b).foe - 1) (hit draw b)).w, s.2 ++ (struck s.1 b ((s.1.beings.at b).foe - 1) (hit draw b)).out)
def roundK (X : Land) (draw : Int) : Nat → Land × List Event
  | 0 => (X, [])
  | k + 1 => roundS draw k (roundK X draw k)
def roundR (X : Land) (draw : Int) : Land × List Event × Int := if (!X.good) = true then (X, [], 2) else ((roundK X draw 6).1, (roundK X draw 6).2, 0)
theorem roundK_step {X : Land} {draw k : Int} (h : 0 ≤ k) : roundK X draw (k + 1).toNat = roundS draw k (roundK X draw k.toNat) := by
  obtain ⟨m, rfl⟩ := Int.eq_ofNat_of_zero_le h
  rfl
theorem hit_rng {draw b : Int} (h : 0 ≤ b) : 1 ≤ hit draw b ∧ hit draw b ≤ 3 := by
  unfold hit
  have := tmod3 draw
  have h2 : 0 ≤ draw.tmod 3 + 3 + b := by omega
  have h3 := Int.tmod_nonneg (a := draw.tmod 3 + 3 + b) 3 h2
  have h4 := Int.tmod_lt_of_pos (draw.tmod 3 + 3 + b) (show (0 : Int) < 3 by decide)
  omega
/-- What a being of a good land is. -/
structure BeOk (x : Being) : Prop where
  room : 0 ≤ x.room ∧ x.room < 6
  health : 0 ≤ x.health ∧ x.health ≤ 10
  foe : 0 ≤ x.foe ∧ x.foe ≤ 6
  off : x.here = false → x.foe = 0
  alive : x.here = decide (0 < x.health)
theorem be_ok {x : Being} (h : Land.badBeing x = false) : BeOk x := by
  simp only [Land.badBeing, Bool.or_eq_false_iff, decide_eq_false_iff_not, Bool.and_eq_false_iff, Bool.not_eq_false', bne_eq_false_iff_eq] at h
  obtain ⟨⟨⟨⟨⟨⟨⟨q1, q2⟩, q3⟩, q4⟩, q5⟩, q6⟩, q7⟩, q8⟩ := h
  refine ⟨by omega, by omega, by omega, fun e => ?_, q8⟩
  rcases q7 with q | q
  · rw [e] at q; cases q
  · exact of_decide_eq_true q
theorem be_mk {x : Being} (h : BeOk x) : Land.badBeing x = false := by
  have h1 := h.room; have h2 := h.health; have h3 := h.foe
  simp only [Land.badBeing, Bool.or_eq_false_iff, decide_eq_false_iff_not, Bool.and_eq_false_iff, Bool.not_eq_false', bne_eq_false_iff_eq]
  refine ⟨⟨⟨⟨⟨⟨⟨by omega, by omega⟩, by omega⟩, by omega⟩, by omega⟩, by omega⟩, ?_⟩, h.alive⟩
  cases hh : x.here with
  | true => exact .inl rfl
  | false => exact .inr (decide_eq_true (h.off hh))
theorem good_be {X : Land} (h : X.good = true) {b : Int} (h0 : 0 ≤ b) (h6 : b < 6) : BeOk (X.beings.at b) := be_ok (Land.good_being h h0 h6)
theorem good_put {X : Land} (h : X.good = true) {b : Int} (h0 : 0 ≤ b) (h6 : b < 6) {x : Being} (hx : BeOk x) (hh : (X.beings.at b).here = true → x.here = true) : (X.putB b x).good = true :=
  Land.good_putB h h0 h6 (be_mk hx) fun i i0 i9 e1 e2 => by
    rcases (Land.good_p h i0 i9).whr with ⟨a, _⟩ | ⟨_, _, a⟩ | ⟨a, _⟩
    · omega
    · rw [e2] at a; exact hh a
    · omega
theorem putB_putB (X : Land) (b : Int) (x y : Being) : (X.putB b x).putB b y = X.putB b y := by
  unfold Land.putB
  show ({ X with beings := (X.beings.put b x).put b y } : Land) = _
  rw [Vector.put_put']
section
variable {w : Land} {b foe n : Int} (hg : w.good = true) (hw : w.Brief) (f0 : 0 ≤ foe) (f6 : foe < 6) (hh : (w.beings.at foe).here = true)
include hg hw f0 f6 hh
theorem struck_fit : (die0 (struck w b foe n).w foe).Fit := by
  have e : (struck w b foe n).w.putB foe { (struck w b foe n).w.beings.at foe with health := 1 } = w.putB foe { w.beings.at foe with health := 1 } := by
    show (w.putB foe _).putB foe { (w.putB foe _).beings.at foe with health := 1 } = _
    rw [putB_putB, Land.putB_eq f0 f6]
  have k := good_be hg f0 f6
  refine ⟨⟨f0, f6⟩, ?_, ?_, ?_⟩
  · show ((struck w b foe n).w.putB foe _).Brief
    rw [e]; exact brief_putB hw (hw.be foe)
  · show ((struck w b foe n).w.putB foe _).good = true
    rw [e]
    exact good_put hg f0 f6 ⟨k.room, ⟨show (0 : Int) ≤ 1 by decide, show (1 : Int) ≤ 10 by decide⟩, k.foe, k.off, by rw [show ({ w.beings.at foe with health := 1 } : Being).here = true from hh]; rfl⟩ fun _ => hh
  · show (((struck w b foe n).w.putB foe _).beings.at foe).here = true
    rw [e, Land.putB_eq f0 f6]; exact hh
theorem struck_good (hn : 0 < (w.beings.at foe).health - n) (h1 : 0 ≤ n) : (struck w b foe n).w.good = true ∧ (struck w b foe n).w.Brief := by
  have k := good_be hg f0 f6
  have hk := k.health
  refine ⟨good_put hg f0 f6 ⟨k.room, ⟨?_, ?_⟩, k.foe, k.off, ?_⟩ fun _ => hh, brief_putB hw (hw.be foe)⟩
  · show 0 ≤ max 0 ((w.beings.at foe).health - n); omega
  · show max 0 ((w.beings.at foe).health - n) ≤ 10; omega
  · show (w.beings.at foe).here = decide (0 < max 0 ((w.beings.at foe).health - n))
    rw [hh, decide_eq_true (by omega)]
end
theorem die1_b (w : Land) (b : Int) : (die1 w b).b = b ∧ (die1 w b).out = ((die0 w b).kind 15).out := fall_b ((die0 w b).kind 15)
theorem die2_b (w : Land) (b : Int) : (die2 w b).b = b ∧ (die2 w b).out = ((die0 w b).kind 15).out ∧ (die2 w b).w = (die1 w b).w.putB b { (die1 w b).w.beings.at b with room := 0, health := 10 } := by
  have h := die1_b w b
  unfold die2
  rw [(setBeing_b _ _ _).1, (setBeing_b _ _ _).2.1, (setBeing_b _ _ _).2.2]
  exact ⟨h.1, h.2, rfl⟩
theorem two_put (D : Land) {b : Int} (hb : 0 ≤ b ∧ b < 6) : ({ D with beings := (D.beings.put b { D.beings.at b with room := 0 }).put b { (D.beings.put b { D.beings.at b with room := 0 }).at b with health := 10 } } : Land) = D.putB b { D.beings.at b with room := 0, health := 10 } := by
  rw [Vector.at_put' hb.1 hb.2, Vector.put_put']; rfl
theorem die1_eq {X F : Land} {b : Int} (h : F = ((die0 X b).kind 15).fall.w) (x : Being) : (die1 X b).setBeing b x = ⟨F.putB b x, b, ((die0 X b).kind 15).out⟩ := by
  subst h
  have e := die1_b X b
  have h1 := setBeing_b (die1 X b) b x
  cases hT : (die1 X b).setBeing b x with
  | mk w' b' o' =>
    rw [hT] at h1
    obtain ⟨q1, q2, q3⟩ := h1
    simp only at q1 q2 q3
    rw [q1, q2, q3, e.1, e.2]
    rfl
theorem die2_eq {X F : Land} {b : Int} (h : F = ((die0 X b).kind 15).fall.w) : die2 X b = ⟨F.putB b { F.beings.at b with room := 0, health := 10 }, b, ((die0 X b).kind 15).out⟩ := by
  have h' : (die1 X b).w = F := h.symm
  unfold die2
  rw [h', die1_eq h]
theorem die1_go {w : Land} {b : Int} (h : (die0 w b).Fit) : Goes (die0 w b) (die1 w b) ∧ ∀ j, 0 ≤ j → j < 9 → ¬ (((die1 w b).w.things.at j).whr = 1 ∧ ((die1 w b).w.things.at j).at_ = b) := by
  have g1 : Goes (die0 w b) ((die0 w b).kind 15) := h.goes.of_w rfl rfl
  obtain ⟨g2, k⟩ := fall_goes g1.fit
  exact ⟨g1.trans g2, k⟩
theorem die2_fit {w : Land} {b : Int} (h : (die0 w b).Fit) : (die2 w b).Fit := by
  have g := (die1_go h).1.fit
  have hb : 0 ≤ b ∧ b < 6 := h.b
  have e := die2_b w b
  have eb := (die1_b w b).1
  have gb := g.b
  have gh := g.here
  rw [eb] at gb gh
  have k := good_be g.gd hb.1 hb.2
  have gbr := g.br
  have ggd := g.gd
  obtain ⟨e1, _, e3⟩ := e
  generalize hD : (die1 w b).w = D at *
  have hx : (D.putB b { D.beings.at b with room := 0, health := 10 }).good = true := good_put ggd hb.1 hb.2 ⟨⟨Int.le_refl _, show (0 : Int) < 6 by decide⟩, ⟨show (0 : Int) ≤ 10 by decide, show (10 : Int) ≤ 10 by decide⟩, k.foe, k.off, gh⟩ fun _ => gh
  have hy : (D.putB b { D.beings.at b with room := 0, health := 10 }).Brief := brief_putB gbr (gbr.be b)
  have hz : ((D.putB b { D.beings.at b with room := 0, health := 10 }).beings.at b).here = true := by rw [Land.putB_eq hb.1 hb.2]; exact gh
  exact ⟨by rw [e1]; exact hb, by rw [e3]; exact hy, by rw [e3]; exact hx, by rw [e1, e3]; exact hz⟩
theorem dieT_good {w : Land} {b : Int} (h : (die0 w b).Fit) : (dieT w b).w.good = true ∧ (dieT w b).w.Brief ∧ (dieT w b).out.length ≤ 12 := by
  have hb : 0 ≤ b ∧ b < 6 := h.b
  obtain ⟨g, hk⟩ := die1_go h
  unfold dieT
  split
  · rw [(setBeing_b _ _ _).2.1, (setBeing_b _ _ _).2.2]
    refine ⟨Land.good_putB (X := (die1 w b).w) g.fit.gd hb.1 hb.2 (by decide) fun i i0 i9 e1 e2 => absurd ⟨e1, e2⟩ (hk i i0 i9), brief_putB (X := (die1 w b).w) g.fit.br (by decide), ?_⟩
    rw [(die1_b w b).2, kind_len]
    exact (by decide : (0 : Nat) + 1 ≤ 12)
  · have f := die2_fit h
    have hl := look_w ((die2 w b).kind 17)
    refine ⟨by rw [hl.1]; exact f.gd, by rw [hl.1]; exact f.br, ?_⟩
    have h2 := hl.2.2
    rw [kind_len, (die2_b w b).2.1, kind_len] at h2
    exact Nat.le_trans h2 (by decide : (0 : Nat) + 1 + 1 + 9 ≤ 12)
theorem roundS_good {s : Land × List Event} {draw b : Int} (hg : s.1.good = true) (hw : s.1.Brief) (h0 : 0 ≤ b) (h6 : b < 6) : (roundS draw b s).1.good = true ∧ (roundS draw b s).1.Brief ∧ (roundS draw b s).2.length ≤ s.2.length + 13 := by
  have kb := good_be hg h0 h6
  have hn := hit_rng (draw := draw) h0
  unfold roundS
  split
  · exact ⟨hg, hw, by omega⟩
  · rename_i h1
    simp only [Bool.or_eq_true, Bool.not_eq_true', decide_eq_true_eq, not_or, Bool.not_eq_false] at h1
    have kf := kb.foe
    split
    · exact ⟨good_put hg h0 h6 ⟨kb.room, kb.health, ⟨Int.le_refl _, show (0 : Int) ≤ 6 by decide⟩, fun _ => rfl, kb.alive⟩ fun h => h, brief_putB hw (hw.be b), Nat.le_add_right _ _⟩
    · rename_i h2
      simp only [Bool.or_eq_true, Bool.not_eq_true', decide_eq_false_iff_not, not_or, Bool.not_eq_false, Decidable.not_not] at h2
      have hf := struck_fit (b := b) (n := hit draw b) hg hw (foe := (s.1.beings.at b).foe - 1) (by omega) (by omega) h2.1
      have hso : (struck s.1 b ((s.1.beings.at b).foe - 1) (hit draw b)).out.length = 1 := rfl
      split
      · obtain ⟨d1, d2, d3⟩ := dieT_good hf
        refine ⟨d1, d2, ?_⟩
        show ((s.2 ++ _) ++ _).length ≤ _
        rw [List.length_append, List.length_append, hso]; omega
      · rename_i h3
        have h3' : ¬ ((struck s.1 b ((s.1.beings.at b).foe - 1) (hit draw b)).w.beings.at ((s.1.beings.at b).foe - 1)).health = 0 := fun e => h3 (decide_eq_true e)
        have e : ((struck s.1 b ((s.1.beings.at b).foe - 1) (hit draw b)).w.beings.at ((s.1.beings.at b).foe - 1)) = { s.1.beings.at ((s.1.beings.at b).foe - 1) with health := max 0 ((s.1.beings.at ((s.1.beings.at b).foe - 1)).health - hit draw b) } := Vector.at_put' (by omega) (by omega)
        rw [e] at h3'
        have h3'' : ¬ max 0 ((s.1.beings.at ((s.1.beings.at b).foe - 1)).health - hit draw b) = 0 := h3'
        obtain ⟨d1, d2⟩ := struck_good (b := b) (n := hit draw b) hg hw (foe := (s.1.beings.at b).foe - 1) (by omega) (by omega) h2.1 (by omega) (by omega)
        refine ⟨d1, d2, ?_⟩
        show (s.2 ++ _).length ≤ _
        rw [List.length_append, hso]; omega
end Turn
end Go.Ing
/- What a round takes: plain laws. -/
namespace Go.Ing
open Go
namespace Turn
def hurtS (v : Vector Int 6) (e : Event) : Vector Int 6 := if decide (e.kind = 14) = true then v.put e.other (v.at e.other + e.n) else v
def diedS (v : Vector Bool 6) (e : Event) : Vector Bool 6 := if decide (e.kind = 15) = true then v.put e.actor true else v
def hurtA (l : List Event) : Vector Int 6 := l.foldl hurtS (Vector.replicate 6 default)
def diedA (l : List Event) : Vector Bool 6 := l.foldl diedS (Vector.replicate 6 default)
theorem hurtA_snoc (l : List Event) (e : Event) : hurtA (l ++ [e]) = hurtS (hurtA l) e := by simp [hurtA]
theorem diedA_snoc (l : List Event) (e : Event) : diedA (l ++ [e]) = diedS (diedA l) e := by simp [diedA]
def Quiet (q : List Event) : Prop := ∀ e ∈ q, e.kind ≠ 14 ∧ e.kind ≠ 15
theorem fold_quiet : ∀ {q : List Event} (v : Vector Int 6) (u : Vector Bool 6), Quiet q → q.foldl hurtS v = v ∧ q.foldl diedS u = u
  | [], _, _, _ => ⟨rfl, rfl⟩
  | e :: r, v, u, h => by
    have he := h e (List.mem_cons_self ..)
    have hr : Quiet r := fun x hx => h x (List.mem_cons_of_mem _ hx)
    rw [List.foldl_cons, List.foldl_cons, hurtS, if_neg (by simp [he.1]), diedS, if_neg (by simp [he.2])]
    exact fold_quiet v u hr
theorem hurtA_quiet {l q : List Event} (h : Quiet q) : hurtA (l ++ q) = hurtA l ∧ diedA (l ++ q) = diedA l := by
  unfold hurtA diedA
  rw [List.foldl_append, List.foldl_append]
  exact fold_quiet _ _ h
/-- What is added to what happened. -/
theorem happens_out (T : Turn) (e : Event) : ∃ x : Event, (T.happens e).out = T.out ++ [x] ∧ x.kind = e.kind ∧ x.actor = T.b ∧ x.other = e.other ∧ x.n = e.n := by
  obtain ⟨a1, a2, _, a4, a5, _⟩ := Land.allN_same T.w (T.event2 e) 6
  have e2 : (T.event2 e).kind = e.kind ∧ (T.event2 e).actor = T.b ∧ (T.event2 e).other = e.other ∧ (T.event2 e).n = e.n := by
    unfold event2
    split <;> exact ⟨rfl, rfl, rfl, rfl⟩
  exact ⟨_, rfl, a1.trans e2.1, a2.trans e2.2.1, a4.trans e2.2.2.1, a5.trans e2.2.2.2⟩
def Adds (T T' : Turn) : Prop := ∃ q, T'.out = T.out ++ q ∧ ∀ e ∈ q, e.kind = 16
theorem Adds.refl (T : Turn) : Adds T T := ⟨[], by simp, fun _ h => by cases h⟩
theorem Adds.tell {T T' : Turn} (h : Adds T T') (s : Str) : Adds T (T'.tell s) := by
  obtain ⟨q, e, k⟩ := h
  obtain ⟨x, e2, k2, _⟩ := happens_out T' { evk 16 with text := s }
  refine ⟨q ++ [x], ?_, fun y hy => ?_⟩
  · show (T'.happens _).out = _
    rw [e2, e, List.append_assoc]
  · rcases List.mem_append.1 hy with hy | hy
    · exact k y hy
    · have : y = x := by simpa using hy
      rw [this]; exact k2
theorem Adds.look {T T' : Turn} (h : Adds T T') : Adds T T'.look := by
  have hk : ∀ {T'' : Turn}, Adds T T'' → ∀ k : Nat, Adds T (T''.hereK k) := fun {T''} h' k => by
    induction k with
    | zero => exact h'
    | succ k ih =>
      unfold hereK
      split
      · exact ih.tell _
      · exact ih
  unfold Turn.look
  split
  · exact h.tell _
  · refine hk ?_ 6
    have ha : Adds T T'.lookA := (h.tell _).tell _
    unfold lookB
    split
    · exact ha.tell _
    · exact ha
/-! #### who is struck, who dies -/
def calm (b : Int) (x : Being) : Being := { x with foe := if x.foe = b + 1 then 0 else x.foe }
theorem calm_t {b : Int} {x : Being} (h : x.foe = b + 1) : calm b x = { x with foe := 0 } := by unfold calm; rw [if_pos h]
theorem calm_f {b : Int} {x : Being} (h : ¬ x.foe = b + 1) : calm b x = x := by unfold calm; rw [if_neg h]
theorem calmK_be (T : Turn) (hb : 0 ≤ T.b) : ∀ k : Nat, k ≤ 6 → ∀ c : Int, 0 ≤ c → c < 6 → (T.calmK k).w.beings.at c = if c < (k : Int) then calm T.b (T.w.beings.at c) else T.w.beings.at c
  | 0, _, c, c0, _ => by rw [if_neg (by omega)]; rfl
  | k + 1, hk, c, c0, c6 => by
    have ih := calmK_be T hb k (by omega)
    have ihk := ih k (by omega) (by omega)
    rw [if_neg (by omega)] at ihk
    have ihc := ih c c0 c6
    unfold calmK
    rw [ihk]
    by_cases e : (T.w.beings.at (k : Int)).foe = T.b + 1
    · rw [if_pos (decide_eq_true e)]
      show (((T.calmK k).w.beings.put (k : Int) { (T.calmK k).w.beings.at (k : Int) with foe := 0 }).at c) = _
      rw [at_put _ _ _ _ (by omega) (by omega) c0]
      by_cases ec : c = (k : Int)
      · subst ec
        rw [if_pos rfl, if_pos (by omega), ihk, calm_t e]
      · rw [if_neg ec, ihc]
        by_cases hl : c < (k : Int)
        · rw [if_pos hl, if_pos (by omega)]
        · rw [if_neg hl, if_neg (by omega)]
    · rw [if_neg (by simpa using e), ihc]
      by_cases hl : c < (k : Int)
      · rw [if_pos hl, if_pos (by omega)]
      · rw [if_neg hl]
        by_cases ec : c = (k : Int)
        · subst ec
          rw [if_pos (by omega), calm_f e]
        · rw [if_neg (by omega)]
theorem dropAll_be : ∀ (l : List Int) (T : Turn), (T.dropAll l).w.beings = T.w.beings
  | [], _ => rfl
  | i :: r, T => (dropAll_be r (T.dropOne i)).trans rfl
theorem fall_be (T : Turn) (hb : 0 ≤ T.b ∧ T.b < 6) {c : Int} (c0 : 0 ≤ c) (c6 : c < 6) : T.fall.w.beings.at c = if c = T.b then { T.w.beings.at c with foe := 0 } else calm T.b (T.w.beings.at c) := by
  have hd := dropAll_be T.own T
  have hdb := (dropAll_b T.own T).1
  have hk := calmK_be (T.dropAll T.own) (by rw [hdb]; exact hb.1) 6 (Nat.le_refl _)
  rw [hd, hdb] at hk
  rw [fall_eq]
  generalize (T.dropAll T.own).calmK 6 = D at *
  show (D.w.beings.put T.b { D.w.beings.at T.b with foe := 0 }).at c = _
  rw [at_put _ _ _ _ hb.1 hb.2 c0]
  have hc := hk c c0 c6
  rw [if_pos (by omega)] at hc
  by_cases e : c = T.b
  · rw [if_pos e, if_pos e, ← e, hc]; rfl
  · rw [if_neg e, if_neg e, hc]
structure Dies (w w' : Land) (f : Int) : Prop where
  oth : ∀ c, 0 ≤ c → c < 6 → c ≠ f → (w'.beings.at c).health = (w.beings.at c).health ∧ (w'.beings.at c).room = (w.beings.at c).room ∧ (w'.beings.at c).here = (w.beings.at c).here ∧ ((w'.beings.at c).foe = (w.beings.at c).foe ∨ (w'.beings.at c).foe = 0) ∧ (w'.beings.at c).foe ≠ f + 1
  here : (w'.beings.at f).here = decide (2 ≤ f)
  foe : (w'.beings.at f).foe = 0
theorem die1_be {w : Land} {f c : Int} (hf : 0 ≤ f ∧ f < 6) (c0 : 0 ≤ c) (c6 : c < 6) : (die1 w f).w.beings.at c = if c = f then { (die0 w f).w.beings.at c with foe := 0 } else calm f ((die0 w f).w.beings.at c) := fall_be ((die0 w f).kind 15) hf c0 c6
theorem die1_oth {w : Land} {f c : Int} (hf : 0 ≤ f ∧ f < 6) (c0 : 0 ≤ c) (c6 : c < 6) (hn : c ≠ f) : (die1 w f).w.beings.at c = calm f (w.beings.at c) := by
  have h0 : (die0 w f).w.beings.at c = w.beings.at c := Land.putB_ne hf.1 hf.2 c0 hn _
  rw [die1_be hf c0 c6, h0, if_neg hn]
theorem calm_be (f : Int) (hf : 0 ≤ f) (x : Being) : (calm f x).health = x.health ∧ (calm f x).room = x.room ∧ (calm f x).here = x.here ∧ ((calm f x).foe = x.foe ∨ (calm f x).foe = 0) ∧ (calm f x).foe ≠ f + 1 := by
  by_cases e : x.foe = f + 1
  · rw [calm_t e]
    refine ⟨rfl, rfl, rfl, .inr rfl, ?_⟩
    show (0 : Int) ≠ f + 1
    omega
  · rw [calm_f e]
    exact ⟨rfl, rfl, rfl, .inl rfl, e⟩
theorem dies_of {w w1 w' : Land} {f : Int} (hf : 0 ≤ f ∧ f < 6) (ho : ∀ c, 0 ≤ c → c < 6 → c ≠ f → w1.beings.at c = calm f (w.beings.at c)) (he : ∀ c, 0 ≤ c → c < 6 → c ≠ f → w'.beings.at c = w1.beings.at c) (h1 : (w'.beings.at f).here = decide (2 ≤ f)) (h2 : (w'.beings.at f).foe = 0) : Dies w w' f := by
  refine ⟨fun c c0 c6 hn => ?_, h1, h2⟩
  rw [he c c0 c6 hn, ho c c0 c6 hn]
  exact calm_be f hf.1 _
theorem dieT_dies {w : Land} {f : Int} (h : (die0 w f).Fit) : Dies w (dieT w f).w f ∧ ∃ x q, (dieT w f).out = x :: q ∧ x.kind = 15 ∧ x.actor = f ∧ Quiet q := by
  have hf : 0 ≤ f ∧ f < 6 := h.b
  have ho : ∀ c, 0 ≤ c → c < 6 → c ≠ f → (die1 w f).w.beings.at c = calm f (w.beings.at c) := fun c c0 c6 hn => die1_oth hf c0 c6 hn
  obtain ⟨x, e1, k1, k2, _⟩ := happens_out (die0 w f) (evk 15)
  have hout : ((die0 w f).kind 15).out = [x] := e1
  have g := (die1_go h).1.fit
  have gh := g.here
  rw [(die1_b w f).1] at gh
  have hme := die1_be (w := w) hf hf.1 hf.2
  rw [if_pos rfl] at hme
  have hfoe : ((die1 w f).w.beings.at f).foe = 0 := by rw [hme]
  unfold dieT
  split
  · rename_i c2
    have c2' := of_decide_eq_true c2
    rw [(setBeing_b _ _ _).2.1, (setBeing_b _ _ _).2.2, (die1_b w f).2, hout]
    generalize (die1 w f).w = D at *
    refine ⟨dies_of (w1 := D) hf ho (fun c c0 _ hn => Land.putB_ne hf.1 hf.2 c0 hn _) ?_ ?_, x, [], rfl, k1, k2, fun e he => by cases he⟩
    · show ((D.putB f default).beings.at f).here = _
      rw [Land.putB_eq hf.1 hf.2, decide_eq_false (by omega)]; rfl
    · show ((D.putB f default).beings.at f).foe = _
      rw [Land.putB_eq hf.1 hf.2]; rfl
  · rename_i c2
    have c2' : ¬ f < 2 := fun e => c2 (decide_eq_true e)
    have hl := look_w ((die2 w f).kind 17)
    have e2 := die2_b w f
    obtain ⟨y, e3, k3, _⟩ := happens_out (die2 w f) (evk 17)
    obtain ⟨q, e4, k4⟩ := (Adds.refl ((die2 w f).kind 17)).look
    have e3' : ((die2 w f).kind 17).out = [x] ++ [y] := by rw [show ((die2 w f).kind 17).out = _ from e3, e2.2.1, hout]
    rw [hl.1, e4, e3', show ((die2 w f).kind 17).w = (die2 w f).w from rfl, e2.2.2]
    generalize (die1 w f).w = D at *
    refine ⟨dies_of (w1 := D) hf ho (fun c c0 _ hn => Land.putB_ne hf.1 hf.2 c0 hn _) ?_ ?_, x, y :: q, rfl, k1, k2, fun e he => ?_⟩
    · rw [Land.putB_eq hf.1 hf.2, decide_eq_true (by omega)]; exact gh
    · rw [Land.putB_eq hf.1 hf.2]; exact hfoe
    · rcases List.mem_cons.1 he with he | he
      · rw [he, k3]; exact ⟨by decide, by decide⟩
      · rw [k4 e he]; exact ⟨by decide, by decide⟩
/-! #### the count of a round -/
def EvR (e : Event) : Prop := (e.kind = 14 → 1 ≤ e.n ∧ e.n ≤ 3 ∧ 0 ≤ e.other ∧ e.other < 6) ∧ (e.kind = 15 → 0 ≤ e.actor ∧ e.actor < 6)
structure Loss (X : Land) (s : Land × List Event) : Prop where
  ev : ∀ e ∈ s.2, EvR e
  un : ∀ c, 0 ≤ c → c < 6 → (diedA s.2).at c = false → (s.1.beings.at c).health = (X.beings.at c).health - (hurtA s.2).at c ∧ (s.1.beings.at c).room = (X.beings.at c).room ∧ (s.1.beings.at c).here = (X.beings.at c).here
  di : ∀ c, 0 ≤ c → c < 6 → (diedA s.2).at c = true → (X.beings.at c).health ≤ (hurtA s.2).at c ∧ (s.1.beings.at c).here = decide (2 ≤ c) ∧ (s.1.beings.at c).foe = 0 ∧ ∀ a, 0 ≤ a → a < 6 → (s.1.beings.at a).foe ≠ c + 1
theorem rep_at {α : Type} [Inhabited α] (c : Int) (c0 : 0 ≤ c) (c6 : c < 6) : (Vector.replicate 6 (default : α)).at c = default := by
  have : c = 0 ∨ c = 1 ∨ c = 2 ∨ c = 3 ∨ c = 4 ∨ c = 5 := by omega
  rcases this with rfl | rfl | rfl | rfl | rfl | rfl <;> rfl
theorem Loss.start (X : Land) : Loss X (X, []) := by
  have hh : ∀ c, 0 ≤ c → c < 6 → (hurtA []).at c = 0 := fun c c0 c6 => rep_at c c0 c6
  have hd : ∀ c, 0 ≤ c → c < 6 → (diedA []).at c = false := fun c c0 c6 => rep_at c c0 c6
  refine ⟨fun _ h => (by cases h), fun c c0 c6 _ => ⟨?_, rfl, rfl⟩, fun c c0 c6 h => ?_⟩
  · show (X.beings.at c).health = (X.beings.at c).health - (hurtA []).at c
    rw [hh c c0 c6]; omega
  · have h' : (diedA []).at c = true := h
    rw [hd c c0 c6] at h'; cases h'
theorem Loss.next {X : Land} {s : Land × List Event} {draw b : Int} (h : Loss X s) (hg : s.1.good = true) (hw : s.1.Brief) (h0 : 0 ≤ b) (h6 : b < 6) : Loss X (roundS draw b s) := by
  have kb := good_be hg h0 h6
  have hn := hit_rng (draw := draw) h0
  unfold roundS
  split
  · exact h
  · rename_i h1
    simp only [Bool.or_eq_true, Bool.not_eq_true', decide_eq_true_eq, not_or, Bool.not_eq_false] at h1
    have kf := kb.foe
    split
    · have hb : ∀ c, 0 ≤ c → ((s.1.putB b { s.1.beings.at b with foe := 0 }).beings.at c).health = (s.1.beings.at c).health ∧ ((s.1.putB b { s.1.beings.at b with foe := 0 }).beings.at c).room = (s.1.beings.at c).room ∧ ((s.1.putB b { s.1.beings.at b with foe := 0 }).beings.at c).here = (s.1.beings.at c).here ∧ (((s.1.putB b { s.1.beings.at b with foe := 0 }).beings.at c).foe = (s.1.beings.at c).foe ∨ ((s.1.putB b { s.1.beings.at b with foe := 0 }).beings.at c).foe = 0) := fun c c0 => by
        by_cases e : c = b
        · subst e; rw [Land.putB_eq h0 h6]; exact ⟨rfl, rfl, rfl, .inr rfl⟩
        · rw [Land.putB_ne h0 h6 c0 e]; exact ⟨rfl, rfl, rfl, .inl rfl⟩
      refine ⟨h.ev, fun c c0 c6 hd => ?_, fun c c0 c6 hd => ?_⟩
      · obtain ⟨q1, q2, q3⟩ := h.un c c0 c6 hd
        obtain ⟨r1, r2, r3, _⟩ := hb c c0
        exact ⟨r1.trans q1, r2.trans q2, r3.trans q3⟩
      · obtain ⟨q1, q2, q3, q4⟩ := h.di c c0 c6 hd
        obtain ⟨_, _, r3, r4⟩ := hb c c0
        refine ⟨q1, r3.trans q2, ?_, fun a a0 a6 => ?_⟩
        · rcases r4 with r4 | r4
          · exact r4.trans q3
          · exact r4
        · have := q4 a a0 a6
          rcases (hb a a0).2.2.2 with r | r
          · rw [r]; exact this
          · rw [r]; omega
    · rename_i h2
      simp only [Bool.or_eq_true, Bool.not_eq_true', decide_eq_false_iff_not, not_or, Bool.not_eq_false, Decidable.not_not] at h2
      generalize hfo : (s.1.beings.at b).foe - 1 = f at *
      generalize hit draw b = n at *
      have f0 : 0 ≤ f := by omega
      have f6 : f < 6 := by omega
      have hf := struck_fit (b := b) (n := n) hg hw (foe := f) f0 f6 h2.1
      have kf2 := (good_be hg f0 f6).health
      obtain ⟨x, ex, k1, k2, k3, k4⟩ := happens_out ⟨s.1, b, []⟩ { evk 14 with other := f, n := n }
      have hso : (struck s.1 b f n).out = [x] := ex
      have hsw : (struck s.1 b f n).w = s.1.putB f { s.1.beings.at f with health := max 0 ((s.1.beings.at f).health - n) } := rfl
      have k1' : x.kind = 14 := k1
      have k3' : x.other = f := k3
      have k4' : x.n = n := k4
      have hH : hurtA (s.2 ++ [x]) = (hurtA s.2).put f ((hurtA s.2).at f + n) := by rw [hurtA_snoc, hurtS, if_pos (decide_eq_true k1'), k3', k4']
      have hD : diedA (s.2 ++ [x]) = diedA s.2 := by rw [diedA_snoc, diedS, if_neg (by rw [k1']; decide)]
      have hnd : (diedA s.2).at f = false := by
        cases hh : (diedA s.2).at f with
        | false => rfl
        | true => exact absurd (by omega : (s.1.beings.at b).foe = f + 1) ((h.di f f0 f6 hh).2.2.2 b h0 h6)
      have hfe := h.un f f0 f6 hnd
      have hxe : EvR x := ⟨fun _ => by rw [k3', k4']; omega, fun e => by rw [k1'] at e; cases e⟩
      have hev : ∀ e ∈ s.2 ++ [x], EvR e := fun e he => by
        rcases List.mem_append.1 he with he | he
        · exact h.ev e he
        · have : e = x := by simpa using he
          rw [this]; exact hxe
      have hwc : ∀ c, 0 ≤ c → c ≠ f → (struck s.1 b f n).w.beings.at c = s.1.beings.at c := fun c c0 hne => by rw [hsw]; exact Land.putB_ne f0 f6 c0 hne _
      have hwf : (struck s.1 b f n).w.beings.at f = { s.1.beings.at f with health := max 0 ((s.1.beings.at f).health - n) } := by rw [hsw]; exact Land.putB_eq f0 f6 _
      have hwa : ∀ a, 0 ≤ a → ((struck s.1 b f n).w.beings.at a).foe = (s.1.beings.at a).foe := fun a a0 => by
        by_cases e : a = f
        · rw [e, hwf]
        · rw [hwc a a0 e]
      have hHc : ∀ c, 0 ≤ c → c ≠ f → ((hurtA s.2).put f ((hurtA s.2).at f + n)).at c = (hurtA s.2).at c := fun c c0 hne => Vector.at_putn f0 f6 c0 hne
      have hHf : ((hurtA s.2).put f ((hurtA s.2).at f + n)).at f = (hurtA s.2).at f + n := Vector.at_put' f0 f6
      split
      · rename_i h3
        have h3' := of_decide_eq_true h3
        rw [hwf] at h3'
        have h3'' : max 0 ((s.1.beings.at f).health - n) = 0 := h3'
        obtain ⟨dd, y, q, e2, y1, y2, y3⟩ := dieT_dies hf
        rw [e2, hso]
        generalize (dieT (struck s.1 b f n).w f).w = W at *
        have hA : hurtA (s.2 ++ [x] ++ y :: q) = (hurtA s.2).put f ((hurtA s.2).at f + n) ∧ diedA (s.2 ++ [x] ++ y :: q) = (diedA s.2).put f true := by
          have hq := hurtA_quiet (l := s.2 ++ [x] ++ [y]) y3
          rw [show s.2 ++ [x] ++ y :: q = s.2 ++ [x] ++ [y] ++ q by simp, hq.1, hq.2, hurtA_snoc, diedA_snoc, hH, hD, hurtS, if_neg (by rw [y1]; decide), diedS, if_pos (decide_eq_true y1), y2]
          exact ⟨rfl, rfl⟩
        refine ⟨fun e he => ?_, fun c c0 c6 hd => ?_, fun c c0 c6 hd => ?_⟩
        · rcases List.mem_append.1 he with he | he
          · exact hev e he
          · rcases List.mem_cons.1 he with he | he
            · rw [he]; exact ⟨fun e => absurd (y1.symm.trans e) (by decide), fun _ => by rw [y2]; exact ⟨f0, f6⟩⟩
            · exact ⟨fun e' => absurd e' (y3 e he).1, fun e' => absurd e' (y3 e he).2⟩
        · have hd' : ((diedA s.2).put f true).at c = false := by rw [← hA.2]; exact hd
          have hne : c ≠ f := fun e => by
            rw [e, Vector.at_put' f0 f6] at hd'; cases hd'
          rw [Vector.at_putn f0 f6 c0 hne] at hd'
          obtain ⟨q1, q2, q3⟩ := h.un c c0 c6 hd'
          obtain ⟨r1, r2, r3, _⟩ := dd.oth c c0 c6 hne
          rw [hwc c c0 hne] at r1 r2 r3
          show (W.beings.at c).health = (X.beings.at c).health - (hurtA (s.2 ++ [x] ++ y :: q)).at c ∧ _
          rw [hA.1, hHc c c0 hne]
          exact ⟨r1.trans q1, r2.trans q2, r3.trans q3⟩
        · have hd' : ((diedA s.2).put f true).at c = true := by rw [← hA.2]; exact hd
          show (X.beings.at c).health ≤ (hurtA (s.2 ++ [x] ++ y :: q)).at c ∧ _
          rw [hA.1]
          by_cases hne : c = f
          · subst hne
            rw [hHf]
            refine ⟨by omega, dd.here, dd.foe, fun a a0 a6 => ?_⟩
            by_cases ea : a = c
            · rw [ea, dd.foe]; omega
            · exact (dd.oth a a0 a6 ea).2.2.2.2
          · rw [Vector.at_putn f0 f6 c0 hne] at hd'
            rw [hHc c c0 hne]
            obtain ⟨q1, q2, q3, q4⟩ := h.di c c0 c6 hd'
            obtain ⟨_, _, r3, r4, _⟩ := dd.oth c c0 c6 hne
            rw [hwc c c0 hne] at r3 r4
            refine ⟨q1, r3.trans q2, ?_, fun a a0 a6 => ?_⟩
            · rcases r4 with r4 | r4
              · exact r4.trans q3
              · exact r4
            · by_cases ea : a = f
              · rw [ea, dd.foe]; omega
              · have := q4 a a0 a6
                have r := (dd.oth a a0 a6 ea).2.2.2.1
                rw [hwc a a0 ea] at r
                rcases r with r | r
                · rw [r]; exact this
                · rw [r]; omega
      · rename_i h3
        have h3' : ¬ ((struck s.1 b f n).w.beings.at f).health = 0 := fun e => h3 (decide_eq_true e)
        rw [hwf] at h3'
        have h3'' : ¬ max 0 ((s.1.beings.at f).health - n) = 0 := h3'
        rw [hso]
        refine ⟨hev, fun c c0 c6 hd => ?_, fun c c0 c6 hd => ?_⟩
        · have hd' : (diedA s.2).at c = false := by rw [← hD]; exact hd
          show ((struck s.1 b f n).w.beings.at c).health = (X.beings.at c).health - (hurtA (s.2 ++ [x])).at c ∧ _
          rw [hH]
          by_cases hne : c = f
          · subst hne
            rw [hHf, hwf]
            refine ⟨?_, hfe.2.1, hfe.2.2⟩
            show max 0 ((s.1.beings.at c).health - n) = _
            have := hfe.1
            omega
          · rw [hHc c c0 hne, hwc c c0 hne]
            exact h.un c c0 c6 hd'
        · have hd' : (diedA s.2).at c = true := by rw [← hD]; exact hd
          have hne : c ≠ f := fun e => by rw [e, hnd] at hd'; cases hd'
          show (X.beings.at c).health ≤ (hurtA (s.2 ++ [x])).at c ∧ _
          rw [hH, hHc c c0 hne]
          obtain ⟨q1, q2, q3, q4⟩ := h.di c c0 c6 hd'
          refine ⟨q1, by rw [hwc c c0 hne]; exact q2, by rw [hwc c c0 hne]; exact q3, fun a a0 a6 => by rw [hwa a a0]; exact q4 a a0 a6⟩
theorem round_all {X : Land} {draw : Int} (hg : X.good = true) (hw : X.Brief) : ∀ k : Nat, k ≤ 6 → Loss X (roundK X draw k) ∧ (roundK X draw k).1.good = true ∧ (roundK X draw k).1.Brief ∧ (roundK X draw k).2.length ≤ 13 * k
  | 0, _ => ⟨.start X, hg, hw, Nat.le_refl _⟩
  | k + 1, hk => by
    obtain ⟨h1, h2, h3, h4⟩ := round_all hg hw k (by omega)
    obtain ⟨g1, g2, g3⟩ := roundS_good (draw := draw) (b := (k : Int)) h2 h3 (by omega) (by omega)
    exact ⟨h1.next h2 h3 (by omega) (by omega), g1, g2, by show (roundS draw k (roundK X draw k)).2.length ≤ _; omega⟩
theorem round_ok {X : Land} {draw : Int} (hw : X.Brief) (h : (roundR X draw).2.2 = 0) : Loss X ((roundR X draw).1, (roundR X draw).2.1) ∧ (roundR X draw).1.good = true ∧ (roundR X draw).2.1.length ≤ 78 := by
  unfold roundR at h ⊢
  split at h
  · cases h
  · rename_i h1
    rw [if_neg h1]
    obtain ⟨q1, q2, _, q4⟩ := round_all (draw := draw) (by simpa using h1) hw 6 (Nat.le_refl _)
    generalize roundK X draw 6 = S at *
    exact ⟨q1, q2, Nat.le_trans q4 (by decide)⟩
end Turn
end Go.Ing
/- The document's side of what beings do: plain functions and laws. -/
namespace Go.Ing
open Go
namespace Turn
theorem listS_app (w : Land) (a : Str) : ∀ (l : List Int) (s : Str), listS w (a ++ s) l = a ++ listS w s l
  | [], s => rfl
  | i :: r, s => by
    rw [listS, listS]
    split
    · rw [← listS_app w a r]; simp
    · rw [← listS_app w a r]; simp
theorem listS_pos (w : Land) : ∀ (l : List Int) (s : Str), s.length ≤ (listS w s l).length
  | [], s => Nat.le_refl _
  | i :: r, s => by
    rw [listS]
    split
    · refine Nat.le_trans ?_ (listS_pos w r _); simp
    · refine Nat.le_trans ?_ (listS_pos w r _); simp
def namedR (w : Land) (l : List Int) : Str := if decide (listS w [] l = []) = true then [32, 110, 111, 116, 104, 105, 110, 103, 46] else listS w [] l ++ [46]
theorem named_list (T : Turn) (s : Str) (l : List Int) : T.tell (s ++ namedR T.w l) = T.list s l := by
  have hs : listS T.w s l = s ++ listS T.w [] l := by have := listS_app T.w s l []; rwa [List.append_nil] at this
  unfold list listT namedR
  cases l with
  | nil =>
    rw [if_pos (by simp [listS]), if_pos (by simp [listS])]
    rw [hs]
    simp [listS]
  | cons i r =>
    have hne : listS T.w [] (i :: r) ≠ [] := by
      intro e
      have h2 : 1 ≤ (listS T.w [] (i :: r)).length := by
        rw [listS]
        split
        · refine Nat.le_trans ?_ (listS_pos T.w r _); simp
        · refine Nat.le_trans ?_ (listS_pos T.w r _); simp
      rw [e] at h2; simp at h2
    rw [if_neg (by simpa using hne), if_neg (by simp; omega), hs, List.append_assoc]
theorem listS_len {w : Land} (hw : w.Brief) : ∀ (l : List Int) (s : Str), (listS w s l).length ≤ s.length + l.length * 140737488351234
  | [], s => by simp [listS]
  | i :: r, s => by
    have hn := hw.th i
    rw [listS]
    have ih := listS_len hw r
    split
    · refine Nat.le_trans (ih _) ?_
      simp only [List.length_append, List.length_cons, List.length_nil]; omega
    · refine Nat.le_trans (ih _) ?_
      simp only [List.length_append, List.length_cons, List.length_nil]; omega
theorem namedR_len {w : Land} (hw : w.Brief) {l : List Int} (hl : l.length ≤ 9) : (namedR w l).length ≤ 1266637395161115 := by
  have h := listS_len hw l []
  unfold namedR
  split
  · simp
  · simp only [List.length_append, List.length_cons, List.length_nil] at h ⊢; omega
theorem seen_bright {T : Turn} (h : (!T.w.bright T.me.room) = false) : T.seen = T.w.has 0 T.me.room := if_neg (by rw [h]; decide)
theorem add_t (T : Turn) {k o d n : Int} {x u : Str} (h : decide (0 ≤ o) = true) : T.happens { evk k with other := o, dir := d, n := n, thing := x, text := u } = { T with out := T.out ++ [T.w.allN ⟨k, (T.w.beings.at T.b).room, T.b, o, d, n, (T.w.beings.at T.b).name, (T.w.beings.at o).name, x, u, default⟩ 6] } := by
  unfold happens event2
  rw [if_pos h]; rfl
theorem add_f (T : Turn) {k o d n : Int} {x u : Str} (h : decide (0 ≤ o) = false) : T.happens { evk k with other := o, dir := d, n := n, thing := x, text := u } = { T with out := T.out ++ [T.w.allN ⟨k, (T.w.beings.at T.b).room, T.b, o, d, n, (T.w.beings.at T.b).name, [], x, u, default⟩ 6] } := by
  unfold happens event2
  rw [if_neg (by rw [h]; decide)]; rfl
/-! #### names of players -/
def low (c : UInt8) : Bool := decide ((c.toNat : Int) < 97) || decide (122 < (c.toNat : Int))
/-! #### who enters -/
def newB (s : Str) : Being := { (default : Being) with name := s, here := true, health := 10 }
end Turn
end Go.Ing
/- A round, as the document says it: plain laws. -/
namespace Go.Ing
open Go
theorem vec_ext {α : Type} [Inhabited α] {n : Nat} {v u : Vector α n} (h : ∀ i : Int, 0 ≤ i → i < n → v.at i = u.at i) : v = u := by
  apply Vector.ext
  intro i hi
  have := h (i : Int) (by omega) (by omega)
  unfold Vector.at at this
  rw [List.getD_eq_getElem?_getD, List.getD_eq_getElem?_getD] at this
  simpa [hi] using this
namespace Turn
/-- All that a being has, as the document lets it lie. -/
def leaveK (T : Turn) : Nat → Turn
  | 0 => T
  | k + 1 => if (decide (((leaveK T k).w.things.at (k : Int)).whr = 1) && decide (((leaveK T k).w.things.at (k : Int)).at_ = (leaveK T k).b)) = true then (leaveK T k).dropOne k else leaveK T k
theorem leaveK_step {T : Turn} {k : Int} (h : 0 ≤ k) : leaveK T (k + 1).toNat = if (decide (((leaveK T k.toNat).w.things.at k).whr = 1) && decide (((leaveK T k.toNat).w.things.at k).at_ = (leaveK T k.toNat).b)) = true then (leaveK T k.toNat).dropOne k else leaveK T k.toNat := by
  obtain ⟨m, rfl⟩ := Int.eq_ofNat_of_zero_le h
  rfl
theorem dropAll_snoc : ∀ (l : List Int) (T : Turn) (i : Int), T.dropAll (l ++ [i]) = (T.dropAll l).dropOne i
  | [], _, _ => rfl
  | j :: r, T, i => by rw [List.cons_append, dropAll, dropAll_snoc r, dropAll]
theorem hasL_lt {X : Land} {a c : Int} {n : Nat} {i : Int} (h : i ∈ X.hasL a c n) : 0 ≤ i ∧ i < n := by
  unfold Land.hasL at h
  obtain ⟨m, hm, rfl⟩ := List.mem_map.1 (List.mem_filter.1 h).1
  have := List.mem_range.1 hm
  exact ⟨by simp, by show ((m : Nat) : Int) < n; omega⟩
theorem dropAll_out : ∀ {l : List Int} {T : Turn} {j : Int}, (∀ i ∈ l, 0 ≤ i ∧ i < 9) → 0 ≤ j → j ∉ l → (T.dropAll l).w.things.at j = T.w.things.at j
  | [], _, _, _, _, _ => rfl
  | i :: r, T, j, hm, j0, hn => by
    have hi := hm i (List.mem_cons_self ..)
    rw [dropAll, dropAll_out (fun x hx => hm x (List.mem_cons_of_mem _ hx)) j0 (fun hx => hn (List.mem_cons_of_mem _ hx)), dropOne_things hi.1 hi.2 j0, if_neg (fun e => hn (by rw [e]; exact List.mem_cons_self ..))]
theorem leaveK_eq (T : Turn) : ∀ k : Nat, k ≤ 9 → leaveK T k = T.dropAll (T.w.hasL 1 T.b k)
  | 0, _ => rfl
  | k + 1, hk => by
    have ih := leaveK_eq T k (by omega)
    have ht : (leaveK T k).w.things.at (k : Int) = T.w.things.at (k : Int) := by
      rw [ih]
      exact dropAll_out (fun i hi => by have := hasL_lt hi; omega) (by omega) (fun hi => by have := hasL_lt hi; omega)
    have hb : (leaveK T k).b = T.b := by rw [ih]; exact (dropAll_b _ _).1
    unfold leaveK
    rw [ht, hb]
    have e1 : ((k : Int) + 1).toNat = k + 1 := by omega
    have e2 : ((k : Int)).toNat = k := by omega
    by_cases c : (decide ((T.w.things.at (k : Int)).whr = 1) && decide ((T.w.things.at (k : Int)).at_ = T.b)) = true
    · have := Land.hasL_t (X := T.w) (k := (k : Int)) (by omega) c
      rw [e1, e2] at this
      rw [if_pos c, this, dropAll_snoc, ih]
    · have := Land.hasL_f (X := T.w) (k := (k : Int)) (by omega) (Bool.eq_false_iff.2 c)
      rw [e1, e2] at this
      rw [if_neg c, this, ih]
theorem calmK_w (T : Turn) : ∀ k : Nat, (T.calmK k).w.rooms = T.w.rooms ∧ (T.calmK k).w.things = T.w.things
  | 0 => ⟨rfl, rfl⟩
  | k + 1 => by
    unfold calmK
    split
    · exact calmK_w T k
    · exact calmK_w T k
theorem turn_ext {A B : Turn} (h1 : A.w.rooms = B.w.rooms) (h2 : A.w.things = B.w.things) (h3 : A.w.beings = B.w.beings) (h4 : A.b = B.b) (h5 : A.out = B.out) : A = B := by
  cases A with
  | mk w b o =>
    cases B with
    | mk w' b' o' =>
      cases w; cases w'
      simp only at h1 h2 h3 h4 h5
      subst h1; subst h2; subst h3; subst h4; subst h5
      rfl
theorem leave_fall (T : Turn) (hb : 0 ≤ T.b ∧ T.b < 6) : ((leaveK T 9).setFoe (leaveK T 9).b 0).calmK 6 = T.fall := by
  have e : leaveK T 9 = T.dropAll T.own := leaveK_eq T 9 (Nat.le_refl _)
  have eb : (T.dropAll T.own).b = T.b := (dropAll_b _ _).1
  rw [e, fall_eq, eb]
  generalize T.dropAll T.own = D at *
  rw [← eb] at hb ⊢
  have c1 := calmK_w (D.setFoe D.b 0) 6
  have c2 := calmK_w D 6
  have b1 := calmK_b (D.setFoe D.b 0) 6
  have b2 := calmK_b D 6
  have k1 := calmK_be (D.setFoe D.b 0) hb.1 6 (Nat.le_refl _)
  have k2 := calmK_be D hb.1 6 (Nat.le_refl _)
  have hs : ∀ c, 0 ≤ c → (D.setFoe D.b 0).w.beings.at c = if c = D.b then { D.w.beings.at D.b with foe := 0 } else D.w.beings.at c := fun c c0 => at_put _ _ _ _ hb.1 hb.2 c0
  generalize D.calmK 6 = C at *
  generalize (D.setFoe D.b 0).calmK 6 = C' at *
  have hs2 : ∀ c, 0 ≤ c → ((C).setFoe D.b 0).w.beings.at c = if c = D.b then { C.w.beings.at D.b with foe := 0 } else C.w.beings.at c := fun c c0 => at_put _ _ _ _ hb.1 hb.2 c0
  refine turn_ext (c1.1.trans (c2.1.symm)) (c1.2.trans (c2.2.symm)) (vec_ext fun c c0 c6 => ?_) (b1.1.trans b2.1.symm) (b1.2.trans b2.2.symm)
  have q1 := k1 c c0 (by omega)
  have q2 := k2 c c0 (by omega)
  have q3 := k2 D.b hb.1 hb.2
  rw [if_pos (by omega)] at q1 q2 q3
  rw [hs2 c c0, q1, hs c c0]
  by_cases e2 : c = D.b
  · rw [if_pos e2, if_pos e2, q3]
    unfold calm
    by_cases e3 : (0 : Int) = D.b + 1
    · simp [← e3]
    · show ({ D.w.beings.at D.b with foe := if (0 : Int) = D.b + 1 then 0 else 0 } : Being) = _
      rw [if_neg e3]
  · rw [if_neg e2, if_neg e2, q2]; rfl
/-- What falls depends on the land and the being alone. -/
theorem dropAll_w : ∀ (l : List Int) (A B : Turn), A.w = B.w → A.b = B.b → (A.dropAll l).w = (B.dropAll l).w
  | [], _, _, h, _ => h
  | i :: r, A, B, h, hb => dropAll_w r _ _ (by unfold dropOne setThing me; rw [h, hb]) hb
theorem calmK_w2 {A B : Turn} (h : A.w = B.w) (hb : A.b = B.b) : ∀ k : Nat, (A.calmK k).w = (B.calmK k).w
  | 0 => h
  | k + 1 => by
    have ih := calmK_w2 h hb k
    unfold calmK
    rw [ih, hb]
    split
    · show ({ (A.calmK k).w with beings := _ } : Land) = _
      rw [ih]; rfl
    · exact ih
theorem fall_w {A B : Turn} (h : A.w = B.w) (hb : A.b = B.b) : A.fall.w = B.fall.w := by
  have e : A.own = B.own := by unfold own; rw [h, hb]
  have h1 := dropAll_w A.own A B h hb
  have b1 : (A.dropAll A.own).b = (B.dropAll A.own).b := (dropAll_b _ _).1.trans (hb.trans (dropAll_b _ _).1.symm)
  have h2 := calmK_w2 h1 b1 6
  rw [fall_eq, fall_eq, ← e, ← hb]
  show ({ ((A.dropAll A.own).calmK 6).w with beings := _ } : Land) = _
  rw [h2]; rfl
/-- What happened before. -/
def pre (o : List Event) (T : Turn) : Turn := ⟨T.w, T.b, o ++ T.out⟩
theorem happens_pre (o : List Event) (T : Turn) (e : Event) : (pre o T).happens e = pre o (T.happens e) := by
  show (⟨T.w, T.b, (o ++ T.out) ++ [_]⟩ : Turn) = ⟨T.w, T.b, o ++ (T.out ++ [_])⟩
  rw [List.append_assoc]; rfl
theorem tell_pre (o : List Event) (T : Turn) (s : Str) : (pre o T).tell s = pre o (T.tell s) := happens_pre o T _
theorem hereK_pre (o : List Event) (T : Turn) : ∀ k : Nat, (pre o T).hereK k = pre o (T.hereK k)
  | 0 => rfl
  | k + 1 => by
    unfold hereK
    rw [show (pre o T).b = T.b from rfl, show (pre o T).w = T.w from rfl, hereK_pre o T k]
    split
    · exact tell_pre o _ _
    · rfl
theorem look_pre (o : List Event) (T : Turn) : (pre o T).look = pre o T.look := by
  have ha : (pre o T).lookA = pre o T.lookA := by
    unfold lookA
    rw [show (pre o T).w = T.w from rfl, show (pre o T).me = T.me from rfl, tell_pre, tell_pre]
  have hb : (pre o T).lookB = pre o T.lookB := by
    unfold lookB
    rw [show (pre o T).w = T.w from rfl, show (pre o T).me = T.me from rfl, ha]
    split
    · exact tell_pre o _ _
    · rfl
  unfold look
  rw [show (pre o T).w = T.w from rfl, show (pre o T).me = T.me from rfl, hb, tell_pre, hereK_pre]
  split <;> rfl
theorem hit_eq {d k : Int} (h0 : 0 ≤ k) (h6 : k < 6) : ([1, 2, 3] : List Int).getD ((((d.tmod 3 + 3).tmod 3 + k).tmod 3).toNat) 0 = hit d k ∧ 0 ≤ ((d.tmod 3 + 3).tmod 3 + k).tmod 3 ∧ ((d.tmod 3 + 3).tmod 3 + k).tmod 3 < 3 := by
  have hm := tmod3 d
  unfold hit
  generalize d.tmod 3 = m at *
  have e1 : (m + 3).tmod 3 = (m + 3) % 3 := Int.tmod_eq_emod_of_nonneg (by omega)
  rw [e1]
  have e2 : ((m + 3) % 3 + k).tmod 3 = ((m + 3) % 3 + k) % 3 := Int.tmod_eq_emod_of_nonneg (by omega)
  have e3 : (m + 3 + k).tmod 3 = (m + 3 + k) % 3 := Int.tmod_eq_emod_of_nonneg (by omega)
  rw [e2, e3]
  have e4 : ((m + 3) % 3 + k) % 3 = (m + 3 + k) % 3 := by omega
  rw [e4]
  have hr : (m + 3 + k) % 3 = 0 ∨ (m + 3 + k) % 3 = 1 ∨ (m + 3 + k) % 3 = 2 := by omega
  rcases hr with e | e | e <;> rw [e] <;> exact ⟨rfl, by decide, by decide⟩
theorem leaveK_fit {T : Turn} (h : T.Fit) (k : Nat) (hk : k ≤ 9) : Goes T (leaveK T k) := by
  rw [leaveK_eq T k hk]
  refine (dropAll_goes h fun i hi => ?_).1
  have h1 := hasL_lt hi
  unfold Land.hasL at hi
  have h2 := (List.mem_filter.1 hi).2
  rw [Bool.and_eq_true] at h2
  exact ⟨h1.1, by omega, fun _ => of_decide_eq_true h2.2⟩
theorem leave_t (T : Turn) {i : Int} (h0 : 0 ≤ i) (h9 : i < 9) (c : decide ((((T.w.things.put i { T.w.things.at i with whr := 0 }).put i { (T.w.things.put i { T.w.things.at i with whr := 0 }).at i with at_ := (T.w.beings.at T.b).room }).at i).kind = 2) = true) : ({ T.w with things := ((T.w.things.put i { T.w.things.at i with whr := 0 }).put i { (T.w.things.put i { T.w.things.at i with whr := 0 }).at i with at_ := (T.w.beings.at T.b).room }).put i { ((T.w.things.put i { T.w.things.at i with whr := 0 }).put i { (T.w.things.put i { T.w.things.at i with whr := 0 }).at i with at_ := (T.w.beings.at T.b).room }).at i with on := false } } : Land) = (T.dropOne i).w := by
  rw [Vector.at_put' h0 h9, Vector.at_put' h0 h9] at c
  rw [Vector.at_put' h0 h9, Vector.put_put', Vector.at_put' h0 h9, Vector.put_put']
  unfold dropOne
  rw [if_pos (show decide ((T.w.things.at i).kind = 2) = true from c)]; rfl
theorem leave_f (T : Turn) {i : Int} (h0 : 0 ≤ i) (h9 : i < 9) (c : decide ((((T.w.things.put i { T.w.things.at i with whr := 0 }).put i { (T.w.things.put i { T.w.things.at i with whr := 0 }).at i with at_ := (T.w.beings.at T.b).room }).at i).kind = 2) = false) : ({ T.w with things := (T.w.things.put i { T.w.things.at i with whr := 0 }).put i { (T.w.things.put i { T.w.things.at i with whr := 0 }).at i with at_ := (T.w.beings.at T.b).room } } : Land) = (T.dropOne i).w := by
  rw [Vector.at_put' h0 h9, Vector.at_put' h0 h9] at c
  rw [Vector.at_put' h0 h9, Vector.put_put']
  unfold dropOne
  rw [if_neg (show ¬ decide ((T.w.things.at i).kind = 2) = true from by rw [show decide ((T.w.things.at i).kind = 2) = false from c]; decide)]; rfl
theorem leaveK_b (T : Turn) (k : Nat) (h : k ≤ 9) : (leaveK T k).b = T.b ∧ (leaveK T k).out = T.out ∧ (leaveK T k).w.beings = T.w.beings := by
  rw [leaveK_eq T k h]
  exact ⟨(dropAll_b _ _).1, (dropAll_b _ _).2, dropAll_be _ _⟩
theorem struck_lt {w : Land} {b f n : Int} (h : n < (w.beings.at f).health) : (struck w b f n).w = { w with beings := w.beings.put f { w.beings.at f with health := (w.beings.at f).health - n } } := by
  show w.putB f { w.beings.at f with health := max 0 ((w.beings.at f).health - n) } = _
  rw [show max 0 ((w.beings.at f).health - n) = (w.beings.at f).health - n by omega]; rfl
theorem struck_hp {w : Land} {b f n : Int} (f0 : 0 ≤ f) (f6 : f < 6) : ((struck w b f n).w.beings.at f).health = max 0 ((w.beings.at f).health - n) := by
  show ((w.putB f _).beings.at f).health = _
  rw [Land.putB_eq f0 f6]
theorem die0_w {w : Land} {b f n : Int} (f0 : 0 ≤ f) (f6 : f < 6) : die0 (struck w b f n).w f = ⟨w.putB f { w.beings.at f with health := 1 }, f, []⟩ := by
  unfold die0
  have e : (struck w b f n).w.putB f { (struck w b f n).w.beings.at f with health := 1 } = w.putB f { w.beings.at f with health := 1 } := by
    show (w.putB f _).putB f { (w.putB f _).beings.at f with health := 1 } = _
    rw [putB_putB, Land.putB_eq f0 f6]
  rw [e]
theorem ref_die {w F : Land} {b f n : Int} {o : List Event} (f0 : 0 ≤ f) (f6 : f < 6) (h : F = (Turn.kind ⟨w.putB f { w.beings.at f with health := 1 }, f, o⟩ 15).fall.w) : F = ((die0 (struck w b f n).w f).kind 15).fall.w ∧ (Turn.kind ⟨w.putB f { w.beings.at f with health := 1 }, f, o⟩ 15).out = o ++ ((die0 (struck w b f n).w f).kind 15).out := by
  rw [die0_w f0 f6]
  exact ⟨h.trans (fall_w rfl rfl), rfl⟩
theorem ref_round_t {w F : Land} {b f n : Int} {o : List Event} (f0 : 0 ≤ f) (f6 : f < 6) (h2 : decide (f < 2) = true) (h : F = (Turn.kind ⟨w.putB f { w.beings.at f with health := 1 }, f, o ++ (struck w b f n).out⟩ 15).fall.w) : ((dieT (struck w b f n).w f).w, (o ++ (struck w b f n).out) ++ (dieT (struck w b f n).w f).out) = ({ F with beings := F.beings.put f default }, (Turn.kind ⟨w.putB f { w.beings.at f with health := 1 }, f, o ++ (struck w b f n).out⟩ 15).out) := by
  obtain ⟨e1, e2⟩ := ref_die (b := b) (n := n) f0 f6 h
  have hd : dieT (struck w b f n).w f = _ := if_pos h2
  rw [die1_eq e1] at hd
  rw [hd, e2]; rfl
theorem ref_round_f {w F : Land} {b f n : Int} {o : List Event} (f0 : 0 ≤ f) (f6 : f < 6) (h2 : decide (f < 2) = false) (h : F = (Turn.kind ⟨w.putB f { w.beings.at f with health := 1 }, f, o ++ (struck w b f n).out⟩ 15).fall.w) : ((dieT (struck w b f n).w f).w, (o ++ (struck w b f n).out) ++ (dieT (struck w b f n).w f).out) = ((Turn.kind ⟨F.putB f { F.beings.at f with room := 0, health := 10 }, f, (Turn.kind ⟨w.putB f { w.beings.at f with health := 1 }, f, o ++ (struck w b f n).out⟩ 15).out⟩ 17).look.w, (Turn.kind ⟨F.putB f { F.beings.at f with room := 0, health := 10 }, f, (Turn.kind ⟨w.putB f { w.beings.at f with health := 1 }, f, o ++ (struck w b f n).out⟩ 15).out⟩ 17).look.out) := by
  obtain ⟨e1, e2⟩ := ref_die (b := b) (n := n) f0 f6 h
  have hd : dieT (struck w b f n).w f = ((die2 (struck w b f n).w f).kind 17).look := if_neg (by rw [h2]; decide)
  rw [die2_eq e1] at hd
  rw [hd, e2]
  generalize o ++ (struck w b f n).out = O at *
  generalize ((die0 (struck w b f n).w f).kind 15).out = R at *
  have hp : Turn.kind ⟨F.putB f { F.beings.at f with room := 0, health := 10 }, f, O ++ R⟩ 17 = pre O (Turn.kind ⟨F.putB f { F.beings.at f with room := 0, health := 10 }, f, R⟩ 17) := happens_pre O ⟨F.putB f { F.beings.at f with room := 0, health := 10 }, f, R⟩ (evk 17)
  rw [hp, look_pre]
  rfl
theorem ref_fit3 {w F : Land} {b f n : Int} {o : List Event} (f0 : 0 ≤ f) (f6 : f < 6) (hs : (die0 (struck w b f n).w f).Fit) (h : F = (Turn.kind ⟨w.putB f { w.beings.at f with health := 1 }, f, o⟩ 15).fall.w) (R : List Event) : Fit ⟨F.putB f { F.beings.at f with room := 0, health := 10 }, f, R⟩ := by
  have hf2 := die2_fit hs
  rw [die2_eq (ref_die (b := b) (n := n) f0 f6 h).1] at hf2
  exact hf2.of_w rfl rfl
theorem here_of {x : Being} (h : BeOk x) (hf : ¬ x.foe = 0) : x.here = true := by
  cases hh : x.here with
  | true => rfl
  | false => exact absurd (h.off hh) hf
theorem being_rng' {w : Land} {f : Int} (f0 : 0 ≤ f) (f6 : f < 6) : w.being f = (w.beings.at f).here := by
  unfold Land.being
  rw [decide_eq_true f0, decide_eq_true f6]; rfl
theorem round_len {X : Land} (hw : X.Brief) (draw : Int) : (roundR X draw).2.1.length ≤ 78 := by
  by_cases h : (roundR X draw).2.2 = 0
  · exact (round_ok hw h).2.2
  · unfold roundR at h ⊢
    split
    · exact Nat.zero_le _
    · rename_i h1
      rw [if_neg h1] at h
      exact absurd rfl h
end Turn
end Go.Ing
/- Engine: the same rules, said shorter. -/
namespace Go.Ing
open Go
section
variable {F : List (Nat × Value)} {v0 v1 v2 v3 v4 v5 v6 v7 v8 v9 v10 v11 : Value}
theorem Sub.t1 (k0 : Nat) (h0 : lk k0 F = some v0 := by rfl) : Sub F [(k0, v0)] := .cons h0 (.nil _)
theorem Sub.t2 (k0 k1 : Nat) (h0 : lk k0 F = some v0 := by rfl) (h1 : lk k1 F = some v1 := by rfl) : Sub F [(k0, v0), (k1, v1)] := .cons h0 (.cons h1 (.nil _))
theorem Sub.t3 (k0 k1 k2 : Nat) (h0 : lk k0 F = some v0 := by rfl) (h1 : lk k1 F = some v1 := by rfl) (h2 : lk k2 F = some v2 := by rfl) : Sub F [(k0, v0), (k1, v1), (k2, v2)] := .cons h0 (.cons h1 (.cons h2 (.nil _)))
end
section
variable {P : Program} {n : Nat} {w0 : World} {M : List Nat} {Q : Exit → Go.Act → World → Prop} {F F' : List (Nat × Value)} {L L' A K : List Res} {ops : Array Oper} {rest l : List Oper} {d id : Nat} {op : Op} {T : TypeId} {pos : String} {aft : Array Edge} {v v' : Value} {x y : Code}
end
section
variable {P : Program} {n : Nat} {w0 : World} {M : List Nat} {Q : Exit → Go.Act → World → Prop} {l : List Oper} {Rs : List Nat} {F : List (Nat × Value)}
variable {k i j d : Nat} {V A : List Nat} {D : List (Nat × (Nat × Value))} {L : List Res} {op : Op} {T : TypeId} {pos : String} {aft : Array Edge} {v v' : Value}
end
section
variable {P : Program} {n : Nat} {w0 : World} {M : List Nat} {F : List (Nat × Value)} {L : List Res}
end
/-- What a bool's being so says, in words. -/
class Nz (a : Prop) (b : outParam Prop) : Prop where
  h : a → b
theorem kz {a b : Prop} [i : Nz a b] (h : a) : b := i.h h
section
variable {p : Prop} [Decidable p] {a b : Bool} {x y : Prop} {m n : Int}
instance (priority := low) : Nz p p := ⟨id⟩
instance : Nz (decide p = true) p := ⟨of_decide_eq_true⟩
instance (priority := low) : Nz (decide p = false) (¬ p) := ⟨of_decide_eq_false⟩
instance : Nz (decide (m < n) = false) (n ≤ m) := ⟨fun h => Int.not_lt.1 (of_decide_eq_false h)⟩
instance : Nz (decide (m ≤ n) = false) (n < m) := ⟨fun h => Int.not_le.1 (of_decide_eq_false h)⟩
instance [i : Nz (a = false) x] : Nz ((!a) = true) x := ⟨fun h => i.h (by simpa using h)⟩
instance [i : Nz (a = true) x] : Nz ((!a) = false) x := ⟨fun h => i.h (by simpa using h)⟩
instance [i : Nz (a = true) x] [j : Nz (b = true) y] : Nz ((a && b) = true) (x ∧ y) := ⟨fun h => ⟨i.h (kAa ▸ h).1, j.h (kAa ▸ h).2⟩⟩
instance [i : Nz (a = false) x] [j : Nz (b = false) y] : Nz ((a || b) = false) (x ∧ y) := ⟨fun h => ⟨i.h (kOb ▸ h).1, j.h (kOb ▸ h).2⟩⟩
instance [i : Nz (a = true) x] [j : Nz (b = true) y] : Nz ((a || b) = true) (x ∨ y) := ⟨fun h => (kOa ▸ h : a = true ∨ b = true).imp i.h j.h⟩
instance [i : Nz (a = false) x] [j : Nz (b = false) y] : Nz ((a && b) = false) (x ∨ y) := ⟨fun h => (kAb ▸ h : a = false ∨ b = false).imp i.h j.h⟩
end
section
variable {F : List (Nat × Value)} {P : Program} {L L' K rs : List Res} {r r' s : Res} {x : Operand} {v : Value} {xs : List Operand} {vs : List Value}
theorem Upd.h : Upd (r :: L) r r' (r' :: L) := .head
theorem Upd.t (h : Upd L r r' L') : Upd (s :: L) r r' (s :: L') := .tail h
theorem Pull.h : Pull (r :: L) r L := .head
theorem Pull.t (h : Pull L r L') : Pull (s :: L) r (s :: L') := .tail h
theorem Pulls.n : Pulls L [] L := .nil
theorem Pulls.c (h : Pull L r L') (hs : Pulls L' rs K) : Pulls L (r :: rs) K := .cons h hs
theorem Evs.n : Evs F [] [] := .nil
theorem Evs.c (h : ev F x = some v) (hs : Evs F xs vs) : Evs F (x :: xs) (v :: vs) := .cons h hs
theorem Rs.n : Rs P F L [] [] := .nil
end
section
variable {α : Type} {a b c d e f g h i j : α} {l : List α}
theorem _root_.List.Mem.m0 : List.Mem a (a :: l) := .head _
theorem _root_.List.Mem.m1 : List.Mem a (b :: a :: l) := .tail _ .m0
theorem _root_.List.Mem.m2 : List.Mem a (b :: c :: a :: l) := .tail _ .m1
theorem _root_.List.Mem.m3 : List.Mem a (b :: c :: d :: a :: l) := .tail _ .m2
end
end Go.Ing
/- Engine: texts deep within what came in, and how much they can take. -/
namespace Go.Ing
open Go
section
open Go.RowKit Go.ChangeShapes Go.WideShapes Go.ChangeAt
variable {H : Type} {enc : TypeId × Value → H} {P : Program} {w : World}
theorem wts_all {e : TypeId} {d : DataW H} : ∀ {l : List (DataW H)}, d ∈ l → ∀ n ∈ d.weights P e, n ∈ DataW.weightsAll P e l
  | [], h, _, _ => by cases h
  | x :: r, h, n, hn => by
    simp only [DataW.weightsAll]
    rcases List.mem_cons.1 h with rfl | h
    · exact List.mem_append_left _ hn
    · exact List.mem_append_right _ (wts_all h n hn)
theorem wfld {t T : TypeId} {fs : Array Field} {i o z fuel : Nat} {cs : List Value} {x : DataW H × List MemPlace} (hu : P.underlying t = some (.struct fs)) (hfi : (fs[i]?).map (fun f => (f.type, f.offset)) = some (T, o)) (hz : P.cellsOf T = z)
    (hf : DataW.trod enc P w 0 (fun _ => true) true fuel t cs = some x) : ∃ (m : Nat) (y : DataW H × List MemPlace), DataW.trod enc P w 0 (fun _ => true) true m T ((cs.drop o).take z) = some y ∧ ∀ n ∈ y.1.weights P T, n ∈ x.1.weights P t := by
  obtain ⟨xs, n, _, hx, hl, hlen, hfl⟩ := DataW.trod_struct hu hf
  cases hfi' : fs[i]? with
  | none => rw [hfi'] at hfi; cases hfi
  | some f =>
    rw [hfi'] at hfi
    simp at hfi
    obtain ⟨rfl, rfl⟩ := hfi
    have h1 := hfl i f hfi'
    have hi : i < fs.size := by
      rcases Nat.lt_or_ge i fs.size with h' | h'
      · exact h'
      · rw [Array.getElem?_eq_none h'] at hfi'; cases hfi'
    have h2 : xs[i]? = some (xs[i]'(by omega)) := List.getElem?_eq_getElem (by omega)
    rw [h2, hz] at h1
    refine ⟨n, xs[i]'(by omega), h1, fun k hk => ?_⟩
    rw [congrArg Prod.fst hx]
    simp only [DataW.weights, hu]
    refine DataW.weights_mem_each (j := i) (t := f.type) (d := (xs[i]'(by omega)).1) ?_ ?_ _ hk
    · rw [List.getElem?_map]; simp [hfi']
    · rw [List.getElem?_map, h2]; rfl
theorem welt {t e : TypeId} {n i z fuel : Nat} {cs : List Value} {x : DataW H × List MemPlace} (hu : P.underlying t = some (.array n e)) (hz : P.cellsOf e = z) (hi : i < n)
    (hf : DataW.trod enc P w 0 (fun _ => true) true fuel t cs = some x) : ∃ (m : Nat) (y : DataW H × List MemPlace), DataW.trod enc P w 0 (fun _ => true) true m e ((cs.drop (i * z)).take z) = some y ∧ ∀ n ∈ y.1.weights P e, n ∈ x.1.weights P t := by
  obtain ⟨xs, m, _, hx, hl, hlen, hfl⟩ := DataW.trod_array hu hf
  have h1 := hfl i hi
  have h2 : xs[i]? = some (xs[i]'(by omega)) := List.getElem?_eq_getElem (by omega)
  rw [h2, hz] at h1
  refine ⟨m, xs[i]'(by omega), h1, fun k hk => ?_⟩
  rw [congrArg Prod.fst hx]
  simp only [DataW.weights, hu]
  exact wts_all (List.mem_map.2 ⟨xs[i]'(by omega), List.getElem_mem _, rfl⟩) k hk
theorem wstr {TS fuel : Nat} {s : Str} {x : DataW H × List MemPlace} (hS : P.underlying TS = some .string) (h : DataW.trod enc P w 0 (fun _ => true) true fuel TS [vstr s] = some x) : s.length ∈ x.1.weights P TS := by
  obtain ⟨s', e1, e2, _⟩ := DataW.trod_string hS h
  have hs' : s'.data.toList = s := by
    have e3 : vstr s = .string s' := by simpa using e1
    simp [vstr] at e3
    rw [← e3]
  rw [e2, hs']
  simp [DataW.weights]
/-- The first field, a text, of a struct in an array in a struct. -/
theorem reach3 {t TA TE TS : TypeId} {fs gs : Array Field} {q oA n z i : Nat} {v : Value} {d : DataW H} {p : List MemPlace} {s : Str} (hu : P.underlying t = some (.struct fs)) (hq : (fs[q]?).map (fun f => (f.type, f.offset)) = some (TA, oA)) (hA : P.underlying TA = some (.array n TE)) (zA : P.cellsOf TA = n * z)
    (hE : P.underlying TE = some (.struct gs)) (h0 : (gs[0]?).map (fun f => (f.type, f.offset)) = some (TS, 0)) (zE : P.cellsOf TE = z) (hS : P.underlying TS = some .string) (zS : P.cellsOf TS = 1) (hi : i < n) (hz : 0 < z)
    (hd : DataW.Trod enc P w 0 (fun _ => true) true t v d p) (hh : (v.cells.toList.drop (oA + i * z)).take 1 = [vstr s]) (hw : ∀ n ∈ d.weights P t, n ≤ reachBytes) : s.length ≤ 140737488351232 := by
  obtain ⟨fuel, hf⟩ := hd
  obtain ⟨m1, y1, t1, k1⟩ := wfld hu hq zA hf
  obtain ⟨m2, y2, t2, k2⟩ := welt hA zE hi t1
  obtain ⟨m3, y3, t3, k3⟩ := wfld hE h0 zS t2
  have hle : i * z + z ≤ n * z := by
    have := Nat.mul_le_mul_right z (show i + 1 ≤ n by omega)
    rw [Nat.add_mul, Nat.one_mul] at this
    exact this
  have hc : (((((v.cells.toList.drop oA).take (n * z)).drop (i * z)).take z).drop 0).take 1 = [vstr s] := by
    rw [List.drop_zero, List.take_take, Nat.min_eq_left (by omega), List.drop_take, List.take_take, Nat.min_eq_left (by omega), List.drop_drop]
    exact hh
  rw [hc] at t3
  exact hw _ (k1 _ (k2 _ (k3 _ (wstr hS t3))))
end
end Go.Ing
