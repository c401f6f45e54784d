/- What the functions that the law of this seat reaches compute, and the plain laws of it. No condition. -/
import Derived.Test.YthaobbemigbcgaaGreatDoorRulesFightsEc3
import Derived.Lib.Bytealg
import Derived.Laws.Externs
import Derived.MapKept
import Derived.Lib.LaidTab
import Derived.Shelf.Strconv.Itoa3
import Derived.Lib.ItoaLen
import Derived.Shelf.Strconv.ErrVarAll
import Derived.Stop.LaidErr
set_option linter.unusedSimpArgs false
set_option linter.unusedVariables false
/- Engine: how much a slice within a struct that came in can take. -/
namespace Go.Ing
open Go Go.RowKit Go.ChangeShapes Go.WideShapes Go.ChangeAt
section
variable {H : Type} {enc : TypeId × Value → H} {P : Program} {w : World}
theorem sized_arg {ts : List TypeId} {ds : List (DataW H)} (h : (DataW.weightsEach P ts ds).all (· ≤ reachBytes) = true) {j : Nat} {t : TypeId} {d : DataW H} (ht : ts[j]? = some t) (hd : ds[j]? = some d) : ∀ n ∈ d.weights P t, n ≤ reachBytes := fun n hn => by
  simpa using List.all_eq_true.1 h n (DataW.weights_mem_each ht hd n hn)
end
section
variable {P : Program} {n : Nat} {w0 : World} {M : List Nat} {Q : Exit → Go.Act → World → Prop} {F F' : List (Nat × Value)} {L L' : List Res} {ops : Array Oper} {rest : List Oper}
/-! #### closures -/
end
end Go.Ing
/- The plain functions of the telnet codec. -/
namespace Go.Ing
open Go
def u8 (n : Int) : UInt8 := UInt8.ofNat n.toNat
theorem u8_val {n : Int} (h0 : 0 ≤ n) (h1 : n ≤ 255) : ((u8 n).toNat : Int) = n := by
  simp [u8]; omega
namespace Telnet
def badOpt (t : Telnet) (i : Int) : Bool := decide (t.us.at i < 0) || decide (2 < t.us.at i) || decide (t.them.at i < 0) || decide (2 < t.them.at i)
def goodA (t : Telnet) : Bool :=
  decide (0 ≤ t.at_) && decide (t.at_ ≤ 4) && (decide (t.at_ = 2) == !decide (t.verb = 0)) && (decide (t.verb = 0) || (decide (251 ≤ t.verb) && decide (t.verb ≤ 254))) && decide ((t.sub.length : Int) ≤ 16) && (decide (3 ≤ t.at_) || decide (t.sub = [])) && decide (0 ≤ t.height) && decide (t.height ≤ 200)
def good (t : Telnet) : Bool := allFrom 3 (fun i => !t.badOpt i) 3 && (!(!decide (t.us.at 2 = 0) || !decide (t.them.at 0 = 0)) && t.goodA)
def place (opt : Int) : Int × Bool × Bool := if decide (opt = 1) = true then (0, true, false) else if decide (opt = 3) = true then (1, true, true) else if decide (opt = 31) = true then (2, false, true) else (-1, false, false)
def say (verb opt : Int) : Str := [255, u8 verb, u8 opt]
def turnS (was : Int) (on : Bool) (opt yes no : Int) : Str := if (on && decide (was = 0)) = true then say yes opt else if (!on && decide (was = 1)) = true then say no opt else []
def onI (on : Bool) : Int := if on = true then 1 else 0
def turnUs (t : Telnet) (k : Int) (on : Bool) : Telnet := { t with us := t.us.put k (onI on) }
def turnThem (t : Telnet) (k : Int) (on : Bool) : Telnet := { t with them := t.them.put k (onI on) }
def negotiate (t : Telnet) (verb opt : Int) : Telnet × Str :=
  let k := (place opt).1
  if decide (verb = 253) = true then (if (!(place opt).2.1) = true then (t, say 252 opt) else (t.turnUs k true, turnS (t.us.at k) true opt 251 252))
  else if decide (verb = 254) = true then (if (place opt).2.1 = true then (t.turnUs k false, turnS (t.us.at k) false opt 251 252) else (t, []))
  else if decide (verb = 251) = true then (if (!(place opt).2.2) = true then (t, say 254 opt) else (t.turnThem k true, turnS (t.them.at k) true opt 253 254))
  else if decide (verb = 252) = true then (if (place opt).2.2 = true then (t.turnThem k false, turnS (t.them.at k) false opt 253 254) else (t, []))
  else (t, [])
def collect (t : Telnet) (b : UInt8) : Telnet := if decide ((t.sub.length : Int) < 16) = true then { t with sub := t.sub ++ [b] } else t
def byteAt (s : Str) (i : Int) : Int := ((s.getD i.toNat 0).toNat : Int)
def measure (t : Telnet) : Telnet :=
  if (decide ((t.sub.length : Int) = 5) && decide (byteAt t.sub 0 = 31) && decide (t.them.at 2 = 1)) = true then { t with height := min (byteAt t.sub 3 * 256 + byteAt t.sub 4) 200 } else t
/-- One byte: the codec behind it, what is text, what is answered. -/
def step (t : Telnet) (b : UInt8) : Telnet × Str × Str :=
  let c : Int := (b.toNat : Int)
  if decide (t.at_ = 0) = true then (if decide (c = 255) = true then ({ t with at_ := 1 }, [], []) else (t, [b], []))
  else if decide (t.at_ = 1) = true then
    (if decide (c = 255) = true then ({ t with at_ := 0 }, [b], [])
     else if decide (c = 250) = true then ({ t with at_ := 3 }, [], [])
     else if decide (251 ≤ c) = true then ({ t with at_ := 2, verb := c }, [], [])
     else ({ t with at_ := 0 }, [], []))
  else if decide (t.at_ = 2) = true then ({ (t.negotiate t.verb c).1 with at_ := 0, verb := 0 }, [], (t.negotiate t.verb c).2)
  else if decide (t.at_ = 3) = true then (if decide (c = 255) = true then ({ t with at_ := 4 }, [], []) else (t.collect b, [], []))
  else if decide (t.at_ = 4) = true then
    (if decide (c = 255) = true then (collect { t with at_ := 3 } b, [], [])
     else if decide (c = 240) = true then ({ t.measure with at_ := 0, sub := [] }, [], [])
     else ({ t with at_ := 0, sub := [] }, [], []))
  else (t, [], [])
def feed : Telnet → Str → Telnet × Str × Str
  | t, [] => (t, [], [])
  | t, b :: s => ((feed (t.step b).1 s).1, (t.step b).2.1 ++ (feed (t.step b).1 s).2.1, (t.step b).2.2 ++ (feed (t.step b).1 s).2.2)
def Feed (t : Telnet) (s : Str) : Telnet × Str × Str × Int := if (!t.good) = true then (t, [], [], 2) else ((t.feed s).1, (t.feed s).2.1, (t.feed s).2.2, 0)
theorem place_us {opt : Int} (h : (place opt).2.1 = true) : (opt = 1 ∧ place opt = (0, true, false)) ∨ (opt = 3 ∧ place opt = (1, true, true)) := by
  unfold place at *
  repeat' split at h
  all_goals simp_all
theorem place_them {opt : Int} (h : (place opt).2.2 = true) : (opt = 3 ∧ place opt = (1, true, true)) ∨ (opt = 31 ∧ place opt = (2, false, true)) := by
  unfold place at *
  repeat' split at h
  all_goals simp_all
theorem turnS_len (w : Int) (on : Bool) (o y n : Int) : (turnS w on o y n).length ≤ 3 := by
  unfold turnS say; repeat' split
  all_goals simp
theorem negotiate_len (t : Telnet) (v o : Int) : (t.negotiate v o).2.length ≤ 3 := by
  unfold negotiate; dsimp only
  repeat' split
  all_goals try exact turnS_len _ _ _ _ _
  all_goals try simp [say]
  all_goals exact turnS_len _ _ _ _ _
theorem negotiate_sub (t : Telnet) (v o : Int) : (t.negotiate v o).1.sub = t.sub := by
  unfold negotiate; dsimp only
  repeat' split
  all_goals rfl
theorem collect_sub (t : Telnet) (b : UInt8) (h : t.sub.length ≤ 16) : (t.collect b).sub.length ≤ 16 := by
  unfold collect; split
  · rename_i h1; simp at h1 ⊢; omega
  · exact h
theorem step_sub (t : Telnet) (b : UInt8) (h : t.sub.length ≤ 16) : (t.step b).1.sub.length ≤ 16 := by
  unfold step; dsimp only
  repeat' split
  all_goals first | exact h | exact collect_sub _ _ h | (simp; done) | (rw [negotiate_sub]; exact h)
theorem step_len (t : Telnet) (b : UInt8) : (t.step b).2.1.length ≤ 1 ∧ (t.step b).2.2.length ≤ 3 := by
  unfold step; dsimp only
  repeat' split
  all_goals first | (simp; done) | (exact ⟨by simp, negotiate_len _ _ _⟩)
/-- What holds while bytes are fed: 'k' of them are behind. -/
structure FeedI (X : Telnet) (u : Str) (k : Int) (t : Telnet) (x y : Str) : Prop where
  k0 : 0 ≤ k
  k1 : k ≤ u.length
  sub : t.sub.length ≤ 16
  xl : (x.length : Int) ≤ k
  yl : (y.length : Int) ≤ 3 * k
  e1 : (X.feed u).1 = (t.feed (u.drop k.toNat)).1
  e2 : (X.feed u).2.1 = x ++ (t.feed (u.drop k.toNat)).2.1
  e3 : (X.feed u).2.2 = y ++ (t.feed (u.drop k.toNat)).2.2
theorem drop_getD {u : Str} {k : Int} (h0 : 0 ≤ k) (h1 : k < u.length) : u.drop k.toNat = u.getD k.toNat 0 :: u.drop (k + 1).toNat := by
  have hk : k.toNat < u.length := by omega
  rw [List.drop_eq_getElem_cons hk, show (k + 1).toNat = k.toNat + 1 by omega]
  simp [List.getD, hk]
theorem FeedI.start {X : Telnet} {u : Str} (h : X.sub.length ≤ 16) : FeedI X u 0 X [] [] := ⟨by omega, by omega, h, by simp, by simp, rfl, rfl, rfl⟩
theorem FeedI.next {X t t' : Telnet} {u x y x' y' : Str} {k : Int} (h : FeedI X u k t x y) (hk : k < u.length) (ht : t' = (t.step (u.getD k.toNat 0)).1) (hx : x' = x ++ (t.step (u.getD k.toNat 0)).2.1) (hy : y' = y ++ (t.step (u.getD k.toNat 0)).2.2) : FeedI X u (k + 1) t' x' y' := by
  have hd := drop_getD h.k0 hk
  have hl := step_len t (u.getD k.toNat 0)
  have h1 := h.xl
  have h2 := h.yl
  have h0 := h.k0
  subst ht; subst hx; subst hy
  refine ⟨by omega, by omega, step_sub _ _ h.sub, by simp only [List.length_append]; omega, by simp only [List.length_append]; omega, ?_, ?_, ?_⟩
  · rw [h.e1, hd]; rfl
  · rw [h.e2, hd, List.append_assoc]; rfl
  · rw [h.e3, hd, List.append_assoc]; rfl
theorem FeedI.done {X t : Telnet} {u x y : Str} {k : Int} (h : FeedI X u k t x y) (hk : ¬ k < u.length) : X.feed u = (t, x, y) := by
  have h1 := h.k1
  have hk' : k.toNat = u.length := by omega
  have e1 := h.e1
  have e2 := h.e2
  have e3 := h.e3
  rw [hk', List.drop_length] at e1 e2 e3
  simp only [feed, List.append_nil] at e1 e2 e3
  rw [← e1, ← e2, ← e3]
def badOptR (t : Telnet) (i : Int) : Bool := decide (t.us.at i < 0) || decide (2 < t.us.at i) || decide (t.them.at i < 0) || decide (2 < t.them.at i)
def refGoodA (t : Telnet) : Bool :=
  if (!decide (t.us.at 2 = 0) || !decide (t.them.at 0 = 0) || decide (t.height < 0) || decide (200 < t.height) || decide (16 < (t.sub.length : Int))) = true then false
  else if decide (t.at_ = 0) = true then decide (t.verb = 0) && decide (t.sub = [])
  else if decide (t.at_ = 1) = true then decide (t.verb = 0) && decide (t.sub = [])
  else if decide (t.at_ = 2) = true then decide (251 ≤ t.verb) && decide (t.verb ≤ 254) && decide (t.sub = [])
  else if decide (t.at_ = 3) = true then decide (t.verb = 0)
  else if decide (t.at_ = 4) = true then decide (t.verb = 0)
  else false
def refGood (t : Telnet) : Bool := allFrom 3 (fun i => !t.badOptR i) 3 && t.refGoodA
theorem refGood_eq (t : Telnet) : t.refGood = t.good := by
  unfold refGood good
  congr 1
  rw [Bool.eq_iff_iff]
  unfold refGoodA goodA
  repeat' split
  all_goals simp_all
  all_goals omega
end Telnet
end Go.Ing
/- The plain laws of the telnet codec. -/
namespace Go.Ing
open Go
theorem at_put {α : Type} [Inhabited α] {n : Nat} (v : Vector α n) (k i : Int) (x : α) (hk : 0 ≤ k) (hk' : k < n) (hi : 0 ≤ i) : (v.put k x).at i = if i = k then x else v.at i := by
  simp only [Vector.at, Vector.put, Vector.toList_setIfInBounds, List.getD_eq_getElem?_getD, List.getElem?_set, Vector.length_toList]
  by_cases h : k.toNat = i.toNat
  · rw [if_pos h, if_pos (by omega), if_pos (by omega)]; rfl
  · rw [if_neg h, if_neg (by omega)]
namespace Telnet
theorem feed_append (t : Telnet) (a b : Str) : t.feed (a ++ b) = (((t.feed a).1.feed b).1, (t.feed a).2.1 ++ ((t.feed a).1.feed b).2.1, (t.feed a).2.2 ++ ((t.feed a).1.feed b).2.2) := by
  induction a generalizing t with
  | nil => simp [feed]
  | cons c a ih => simp only [List.cons_append, feed, ih, List.append_assoc]
def okA (t : Telnet) : Prop := (0 ≤ t.us.at 0 ∧ t.us.at 0 ≤ 2 ∧ 0 ≤ t.us.at 1 ∧ t.us.at 1 ≤ 2 ∧ t.us.at 2 = 0) ∧ (t.them.at 0 = 0 ∧ 0 ≤ t.them.at 1 ∧ t.them.at 1 ≤ 2 ∧ 0 ≤ t.them.at 2 ∧ t.them.at 2 ≤ 2)
def okB (t : Telnet) : Prop := 0 ≤ t.at_ ∧ t.at_ ≤ 4 ∧ (t.at_ = 2 ↔ t.verb ≠ 0) ∧ (t.verb = 0 ∨ 251 ≤ t.verb ∧ t.verb ≤ 254) ∧ t.sub.length ≤ 16 ∧ (3 ≤ t.at_ ∨ t.sub = []) ∧ 0 ≤ t.height ∧ t.height ≤ 200
theorem good_iff (t : Telnet) : t.good = true ↔ t.okA ∧ t.okB := by
  have e : t.goodA = true ↔ t.okB := by
    simp only [goodA, okB, Bool.and_eq_true, decide_eq_true_eq, Bool.or_eq_true, beq_iff_eq]
    have : (decide (t.at_ = 2) = !decide (t.verb = 0)) ↔ (t.at_ = 2 ↔ t.verb ≠ 0) := by
      by_cases h1 : t.at_ = 2 <;> by_cases h2 : t.verb = 0 <;> simp [h1, h2]
    rw [this]
    constructor
    · rintro ⟨⟨⟨⟨⟨⟨⟨h1, h2⟩, h3⟩, h4⟩, h5⟩, h6⟩, h7⟩, h8⟩; exact ⟨h1, h2, h3, h4, by omega, h6, h7, h8⟩
    · rintro ⟨h1, h2, h3, h4, h5, h6, h7, h8⟩; exact ⟨⟨⟨⟨⟨⟨⟨h1, h2⟩, h3⟩, h4⟩, by omega⟩, h6⟩, h7⟩, h8⟩
  rw [← e]
  simp only [good, allFrom, badOpt, okA, Bool.and_eq_true]
  simp
  generalize t.goodA = g
  constructor
  · intro h; exact ⟨by omega, h.2.2⟩
  · intro h; exact ⟨by omega, by omega, h.2⟩
theorem negotiate_same (t : Telnet) (v o : Int) : (t.negotiate v o).1.at_ = t.at_ ∧ (t.negotiate v o).1.verb = t.verb ∧ (t.negotiate v o).1.sub = t.sub ∧ (t.negotiate v o).1.height = t.height := by
  unfold negotiate; dsimp only
  repeat' split
  all_goals exact ⟨rfl, rfl, rfl, rfl⟩
theorem onI_le (b : Bool) : 0 ≤ onI b ∧ onI b ≤ 2 := by cases b <;> decide
theorem turnUs_ok {t : Telnet} (h : t.okA) {o : Int} (b : Bool) (hp : (place o).2.1 = true) : (t.turnUs (place o).1 b).okA := by
  obtain ⟨⟨h1, h2, h3, h4, h5⟩, h6⟩ := h
  have hb := onI_le b
  refine ⟨?_, h6⟩
  show 0 ≤ (t.us.put _ _).at 0 ∧ (t.us.put _ _).at 0 ≤ 2 ∧ 0 ≤ (t.us.put _ _).at 1 ∧ (t.us.put _ _).at 1 ≤ 2 ∧ (t.us.put _ _).at 2 = 0
  rcases place_us hp with ⟨_, e⟩ | ⟨_, e⟩ <;> rw [e] <;> simp [at_put] <;> omega
theorem turnThem_ok {t : Telnet} (h : t.okA) {o : Int} (b : Bool) (hp : (place o).2.2 = true) : (t.turnThem (place o).1 b).okA := by
  obtain ⟨h6, ⟨h1, h2, h3, h4, h5⟩⟩ := h
  have hb := onI_le b
  refine ⟨h6, ?_⟩
  show (t.them.put _ _).at 0 = 0 ∧ 0 ≤ (t.them.put _ _).at 1 ∧ (t.them.put _ _).at 1 ≤ 2 ∧ 0 ≤ (t.them.put _ _).at 2 ∧ (t.them.put _ _).at 2 ≤ 2
  rcases place_them hp with ⟨_, e⟩ | ⟨_, e⟩ <;> rw [e] <;> simp [at_put] <;> omega
theorem negotiate_ok {t : Telnet} (h : t.okA) (v o : Int) : (t.negotiate v o).1.okA := by
  unfold negotiate; dsimp only
  repeat' split
  all_goals first | exact h | (rename_i hp; exact turnUs_ok h _ (by simpa using hp)) | (rename_i hp; exact turnThem_ok h _ (by simpa using hp))
/-! #### the document's answer -/
/-! #### answers to answers come to an end -/
def ends : Nat → Telnet → Telnet → Str → Bool
  | 0, _, _, _ => false
  | n + 1, t, u, s =>
    if decide ((t.Feed s).2.2.1 = []) = true then decide ((t.Feed s).2.2.2 = 0) && true
    else if (!decide ((t.Feed s).2.2.2 = 0) || !decide ((u.Feed (t.Feed s).2.2.1).2.2.2 = 0)) = true then false
    else if decide ((u.Feed (t.Feed s).2.2.1).2.2.1 = []) = true then true
    else ends n (t.Feed s).1 (u.Feed (t.Feed s).2.2.1).1 (u.Feed (t.Feed s).2.2.1).2.2.1
def calm (t : Telnet) : Telnet := { t with at_ := 0, verb := 0, sub := [] }
/-- What one codec makes of a verb: what it does and lets do of the option, and the verb of its answer. -/
def neg (pu pt : Bool) (v a b : Int) : Int × Int × Option Int :=
  if v = 253 then (if pu then (1, b, if a = 0 then some 251 else none) else (a, b, some 252))
  else if v = 254 then (if pu then (0, b, if a = 1 then some 252 else none) else (a, b, none))
  else if v = 251 then (if pt then (a, 1, if b = 0 then some 253 else none) else (a, b, some 254))
  else if v = 252 then (if pt then (a, 0, if b = 1 then some 254 else none) else (a, b, none))
  else (a, b, none)
/-- The codec stands between commands; what it does of the option. -/
structure Rest (o a b : Int) (t : Telnet) : Prop where
  at0 : t.at_ = 0
  v0 : t.verb = 0
  ok : t.good = true
  us : (place o).2.1 = true → t.us.at (place o).1 = a
  them : (place o).2.2 = true → t.them.at (place o).1 = b
theorem negotiate_at (t : Telnet) (x y v o : Int) : ({ t with at_ := x, verb := y } : Telnet).negotiate v o = ({ (t.negotiate v o).1 with at_ := x, verb := y }, (t.negotiate v o).2) := by
  unfold negotiate; dsimp only
  repeat' split
  all_goals rfl
def ansS (o : Int) : Option Int → Str
  | none => []
  | some w => say w o
theorem place_rng {o : Int} (h : (place o).2.1 = true ∨ (place o).2.2 = true) : 0 ≤ (place o).1 ∧ (place o).1 < 3 := by
  rcases h with h | h
  · rcases place_us h with ⟨_, e⟩ | ⟨_, e⟩ <;> rw [e] <;> decide
  · rcases place_them h with ⟨_, e⟩ | ⟨_, e⟩ <;> rw [e] <;> decide
theorem negotiate_neg {t : Telnet} {o a b : Int} (h : Rest o a b t) {v : Int} (hv : 251 ≤ v ∧ v ≤ 254) :
    (t.negotiate v o).2 = ansS o (neg (place o).2.1 (place o).2.2 v a b).2.2 ∧ ((place o).2.1 = true → (t.negotiate v o).1.us.at (place o).1 = (neg (place o).2.1 (place o).2.2 v a b).1) ∧ ((place o).2.2 = true → (t.negotiate v o).1.them.at (place o).1 = (neg (place o).2.1 (place o).2.2 v a b).2.1) := by
  have hu := h.us
  have ht := h.them
  have hr := @place_rng o
  have hv' : v = 251 ∨ v = 252 ∨ v = 253 ∨ v = 254 := by omega
  revert hu ht hr
  cases hp : (place o).2.1 <;> cases hq : (place o).2.2 <;> intro hu ht hr <;> rcases hv' with rfl | rfl | rfl | rfl <;>
    simp [hp, hq] at hu ht hr <;> simp [negotiate, neg, hp, hq, ansS, turnS, turnUs, turnThem, onI, hu, ht]
  all_goals first
    | done
    | (repeat' split) <;> simp_all [at_put, ansS]
theorem u8_nat (b : UInt8) : u8 (b.toNat : Int) = b := by simp [u8]
theorem negotiate_good {t : Telnet} (h : t.good = true) (v o : Int) (h0 : t.at_ = 0) (h1 : t.verb = 0) : ({ (t.negotiate v o).1 with at_ := 0, verb := 0 } : Telnet).good = true := by
  have e : ({ (t.negotiate v o).1 with at_ := 0, verb := 0 } : Telnet) = (t.negotiate v o).1 := by
    obtain ⟨n1, n2, _⟩ := negotiate_same t v o
    rw [h0] at n1; rw [h1] at n2
    revert n1 n2
    generalize (t.negotiate v o).1 = z
    intro n1 n2
    cases z; simp_all
  rw [e]
  rw [good_iff] at h ⊢
  obtain ⟨n1, n2, n3, n4⟩ := negotiate_same t v o
  exact ⟨negotiate_ok h.1 v o, by unfold okB; rw [n1, n2, n3, n4]; exact h.2⟩
theorem feed_cmd {t : Telnet} {v : Int} {o : UInt8} (hv : 251 ≤ v ∧ v ≤ 254) (h0 : t.at_ = 0) : t.feed (say v (o.toNat : Int)) = ({ (t.negotiate v (o.toNat : Int)).1 with at_ := 0, verb := 0 }, [], (t.negotiate v (o.toNat : Int)).2) := by
  have e1 : t.step 255 = ({ t with at_ := 1 }, [], []) := by simp [step, h0]
  have ev := u8_val (n := v) (by omega) (by omega)
  have e2 : ({ t with at_ := 1 } : Telnet).step (u8 v) = ({ t with at_ := 2, verb := v }, [], []) := by
    have h1 : ¬ v = 255 := by omega
    have h2 : ¬ v = 250 := by omega
    simp [step, ev, h1, h2, hv.1]
  have e3 : ({ t with at_ := 2, verb := v } : Telnet).step o = ({ (t.negotiate v (o.toNat : Int)).1 with at_ := 0, verb := 0 }, [], (t.negotiate v (o.toNat : Int)).2) := by
    have := negotiate_at t 2 v v (o.toNat : Int)
    simp [step, this]
  simp only [say, u8_nat, feed, e1, e2, e3, List.append_nil, List.nil_append]
theorem Rest.feed {t : Telnet} {o : UInt8} {a b v : Int} (h : Rest (o.toNat : Int) a b t) (hv : 251 ≤ v ∧ v ≤ 254) :
    ∃ t', t.Feed (say v (o.toNat : Int)) = (t', [], ansS (o.toNat : Int) (neg (place (o.toNat : Int)).2.1 (place (o.toNat : Int)).2.2 v a b).2.2, 0) ∧ Rest (o.toNat : Int) (neg (place (o.toNat : Int)).2.1 (place (o.toNat : Int)).2.2 v a b).1 (neg (place (o.toNat : Int)).2.1 (place (o.toNat : Int)).2.2 v a b).2.1 t' := by
  obtain ⟨n1, n2, n3⟩ := negotiate_neg h hv
  refine ⟨{ (t.negotiate v (o.toNat : Int)).1 with at_ := 0, verb := 0 }, ?_, ?_⟩
  · simp [Feed, h.ok, feed_cmd hv h.at0, n1]
  · exact ⟨rfl, rfl, negotiate_good h.ok _ _ h.at0 h.v0, n2, n3⟩
end Telnet
end Go.Ing
/- The plain functions of lines. -/
namespace Go.Ing
open Go
theorem PS_conv {P : Program} {n : Nat} {w0 : World} {M : List Nat} {F : List (Nat × Value)} {L : List Res} {op : Op} {T : TypeId} {v v' : Value} (h : PS P n w0 M op T F L v L) (e : v = v') : PS P n w0 M op T F L v' L := e ▸ h
namespace Line
def plainB (b : UInt8) : Bool := decide (32 ≤ (b.toNat : Int)) && decide ((b.toNat : Int) < 127)
def strOk (s : Str) : Bool := !decide (60 < (s.length : Int)) && s.all plainB
def badHead (l : LineV) : Bool := decide (60 < (l.now.length : Int)) || decide (6 < (l.queue.len : Int)) || (l.long && decide (60 < (l.now.length : Int))) || (l.ret && (!decide (l.now = []) || l.long))
def good (l : LineV) (qs : List Str) : Bool := !badHead l && (qs ++ [l.now]).all strOk
/-- A line's bytes as they come: what it is, how many found no room. -/
structure S where
  now : Str
  long : Bool
  ret : Bool
  queue : List Str
  lost : Int
  deriving DecidableEq
def step (x : S) (b : UInt8) : S :=
  let c : Int := (b.toNat : Int)
  if (x.ret && (decide (c = 10) || decide (c = 0))) = true then { x with ret := false }
  else if (decide (c = 13) || decide (c = 10)) = true then
    (if decide ((x.queue.length : Int) < 6) = true then { x with queue := x.queue ++ [x.now], now := [], long := false, ret := decide (c = 13) } else { x with lost := x.lost + 1, now := [], long := false, ret := decide (c = 13) })
  else if (decide (c = 8) || decide (c = 127)) = true then (if decide (0 < (x.now.length : Int)) = true then { x with now := x.now.take ((x.now.length : Int) - 1).toNat, ret := false } else { x with ret := false })
  else if (!plainB b) = true then { x with ret := false }
  else if decide (60 ≤ (x.now.length : Int)) = true then { x with long := true, ret := false }
  else { x with now := x.now ++ [b], ret := false }
def feed (x : S) (s : Str) : S := s.foldl step x
def start (l : LineV) (qs : List Str) : S := ⟨l.now, l.long, l.ret, qs, 0⟩
/-- What holds while bytes are read. -/
structure I (x0 : S) (u : Str) (k : Int) (x : S) : Prop where
  k0 : 0 ≤ k
  k1 : k ≤ u.length
  now : x.now.length ≤ 60
  queue : x.queue.length ≤ 6
  lost : 0 ≤ x.lost ∧ x.lost ≤ k
  e : feed x0 u = feed x (u.drop k.toNat)
theorem step_now {x : S} (b : UInt8) (h : x.now.length ≤ 60) : (step x b).now.length ≤ 60 := by
  unfold step; dsimp only
  repeat' split
  all_goals first | exact h | (simp; done) | (simp; omega) | (rename_i h1 _; simp at *; omega) | skip
  all_goals simp_all
  all_goals omega
theorem step_queue {x : S} (b : UInt8) (h : x.queue.length ≤ 6) : (step x b).queue.length ≤ 6 := by
  unfold step; dsimp only
  repeat' split
  all_goals first | exact h | (simp at *; omega)
theorem step_lost (x : S) (b : UInt8) : x.lost ≤ (step x b).lost ∧ (step x b).lost ≤ x.lost + 1 := by
  unfold step; dsimp only
  repeat' split
  all_goals (constructor <;> dsimp only <;> omega)
theorem I.start {x : S} {u : Str} (h1 : x.now.length ≤ 60) (h2 : x.queue.length ≤ 6) (h3 : x.lost = 0) : I x u 0 x := ⟨by omega, by omega, h1, h2, by omega, rfl⟩
theorem I.next {x0 x : S} {u : Str} {k : Int} (h : I x0 u k x) (hk : k < u.length) {now : Str} {long ret : Bool} {queue : List Str} {lost : Int} (hs : step x (u.getD k.toNat 0) = ⟨now, long, ret, queue, lost⟩) : I x0 u (k + 1) ⟨now, long, ret, queue, lost⟩ := by
  have h0 := h.k0
  have hk' : k.toNat < u.length := by omega
  have hd : u.drop k.toNat = u.getD k.toNat 0 :: u.drop (k + 1).toNat := by
    rw [List.drop_eq_getElem_cons hk', show (k + 1).toNat = k.toNat + 1 by omega]
    simp [List.getD, hk']
  have hl := step_lost x (u.getD k.toNat 0)
  have hl' := h.lost
  have hn := step_now (u.getD k.toNat 0) h.now
  have hq := step_queue (u.getD k.toNat 0) h.queue
  rw [hs] at hl hn hq
  refine ⟨by omega, by omega, hn, hq, by dsimp only at *; omega, ?_⟩
  rw [h.e, hd, ← hs]; rfl
theorem I.done {x0 x : S} {u : Str} {k : Int} (h : I x0 u k x) (hk : ¬ k < u.length) : feed x0 u = x := by
  have h1 := h.k1
  have hk' : k.toNat = u.length := by omega
  rw [h.e, hk', List.drop_length]; rfl
/-! #### what is said of lines -/
structure Ok (x : S) : Prop where
  now : strOk x.now = true
  queue : ∀ s ∈ x.queue, strOk s = true
  len : x.queue.length ≤ 6
  ret : x.ret = true → x.now = [] ∧ x.long = false
theorem strOk_iff (s : Str) : strOk s = true ↔ s.length ≤ 60 ∧ ∀ b ∈ s, plainB b = true := by
  simp only [strOk, Bool.and_eq_true, Bool.not_eq_true', decide_eq_false_iff_not, List.all_eq_true]
  constructor
  · rintro ⟨h1, h2⟩; exact ⟨by omega, h2⟩
  · rintro ⟨h1, h2⟩; exact ⟨by omega, h2⟩
theorem strOk_nil : strOk [] = true := rfl
theorem good_iff {l : LineV} {qs : List Str} (hl : l.queue.len = qs.length) : good l qs = true ↔ Ok (start l qs) := by
  simp only [good, badHead, Bool.and_eq_true, Bool.not_eq_true', Bool.or_eq_false_iff, decide_eq_false_iff_not, List.all_append, List.all_cons, List.all_nil, Bool.and_true, List.all_eq_true]
  constructor
  · rintro ⟨⟨⟨⟨h1, h2⟩, h3⟩, h4⟩, h5, h6⟩
    refine ⟨h6, h5, by show qs.length ≤ 6; omega, fun h => ?_⟩
    have h : l.ret = true := h
    rw [h] at h4
    simp at h4
    exact h4
  · rintro ⟨h1, h2, h3, h4⟩
    have h3 : qs.length ≤ 6 := h3
    have h5 := ((strOk_iff _).1 h1).1
    have h5 : l.now.length ≤ 60 := h5
    refine ⟨⟨⟨⟨by omega, by omega⟩, ?_⟩, ?_⟩, h2, h1⟩
    · cases l.long <;> simp; omega
    · have h4 : l.ret = true → l.now = [] ∧ l.long = false := h4
      cases hr : l.ret with
      | false => rfl
      | true => obtain ⟨a, b⟩ := h4 hr; simp [a, b]
theorem step_ok {x : S} (h : Ok x) (b : UInt8) : Ok (step x b) := by
  obtain ⟨h1, h2, h3, h4⟩ := h
  have h1' := (strOk_iff _).1 h1
  unfold step; dsimp only
  repeat' split
  all_goals try simp only [decide_eq_true_eq, Bool.not_eq_true', Bool.or_eq_true] at *
  · exact ⟨h1, h2, h3, fun h => by cases h⟩
  · rename_i hq
    refine ⟨strOk_nil, fun s hs => ?_, by show (x.queue ++ [x.now]).length ≤ 6; rw [List.length_append, List.length_singleton]; omega, fun _ => ⟨rfl, rfl⟩⟩
    rcases List.mem_append.1 hs with hs | hs
    · exact h2 s hs
    · simp at hs; subst hs; exact h1
  · exact ⟨strOk_nil, h2, h3, fun _ => ⟨rfl, rfl⟩⟩
  · refine ⟨(strOk_iff _).2 ⟨?_, fun c hc => h1'.2 c (List.mem_of_mem_take hc)⟩, h2, h3, fun h => by cases h⟩
    have := h1'.1
    show (x.now.take _).length ≤ 60
    rw [List.length_take]; omega
  · exact ⟨h1, h2, h3, fun h => by cases h⟩
  · exact ⟨h1, h2, h3, fun h => by cases h⟩
  · exact ⟨h1, h2, h3, fun h => by cases h⟩
  · rename_i hp hl
    refine ⟨(strOk_iff _).2 ⟨by show (x.now ++ [b]).length ≤ 60; rw [List.length_append, List.length_singleton]; omega, fun c hc => ?_⟩, h2, h3, fun h => by cases h⟩
    rcases List.mem_append.1 hc with hc | hc
    · exact h1'.2 c hc
    · simp at hc; subst hc; simpa using hp
theorem feed_append (x : S) (a b : Str) : feed x (a ++ b) = feed (feed x a) b := List.foldl_append ..
/-- A line's value with its queue's header. -/
def val (x : S) (h : Hd) : LineV := ⟨x.now, x.long, x.ret, h⟩
theorem pickE {α : Type} {xs ys : List α} {i : Nat} (hl : xs.length = ys.length) (ht : xs.take i = ys.take i) (hi : ¬ i < xs.length) : xs = ys := by
  rw [List.take_of_length_le (by omega), List.take_of_length_le (by omega)] at ht; exact ht
theorem take_next {α : Type} {xs ys : List α} {i : Int} {d : α} (h0 : 0 ≤ i) (hl : xs.length = ys.length) (hi : i < xs.length) (ht : xs.take i.toNat = ys.take i.toNat) (he : xs.getD i.toNat d = ys.getD i.toNat d) : xs.take (i + 1).toNat = ys.take (i + 1).toNat := by
  have h1 : i.toNat < xs.length := by omega
  have h2 : i.toNat < ys.length := by omega
  rw [show (i + 1).toNat = i.toNat + 1 by omega, List.take_succ_eq_append_getElem h1, List.take_succ_eq_append_getElem h2, ht]
  simp only [List.getD, List.getElem?_eq_getElem h1, List.getElem?_eq_getElem h2, Option.getD_some] at he
  rw [he]
theorem ne_of_getD {α : Type} {xs ys : List α} {i : Nat} {d : α} (h : xs.getD i d ≠ ys.getD i d) : xs ≠ ys := fun e => h (by rw [e])
def plainK (b : UInt8) : Bool := !(decide ((b.toNat : Int) < 32) || decide (126 < (b.toNat : Int)))
def cleanK (s : Str) : Bool := s.all plainK && decide ((s.length : Int) ≤ 60)
theorem plainK_eq (b : UInt8) : plainK b = plainB b := by
  rw [Bool.eq_iff_iff]; simp [plainK, plainB]; omega
theorem cleanK_iff (s : Str) : cleanK s = true ↔ strOk s = true := by
  rw [strOk_iff]
  simp only [cleanK, Bool.and_eq_true, List.all_eq_true, decide_eq_true_eq, plainK_eq]
  constructor
  · rintro ⟨h1, h2⟩; exact ⟨by omega, h1⟩
  · rintro ⟨h1, h2⟩; exact ⟨h2, by omega⟩
/-! #### text that is typed -/
theorem plain_rng {b : UInt8} (h : plainB b = true) : 32 ≤ (b.toNat : Int) ∧ (b.toNat : Int) < 127 := by
  simpa [plainB] using h
theorem step_plain {x : S} {b : UInt8} (h : plainB b = true) (hn : x.now.length < 60) : step x b = { x with now := x.now ++ [b], ret := false } := by
  have hb := plain_rng h
  have e1 : decide ((b.toNat : Int) = 10) = false := decide_eq_false (by omega)
  have e2 : decide ((b.toNat : Int) = 0) = false := decide_eq_false (by omega)
  have e3 : decide ((b.toNat : Int) = 13) = false := decide_eq_false (by omega)
  have e4 : decide ((b.toNat : Int) = 8) = false := decide_eq_false (by omega)
  have e5 : decide ((b.toNat : Int) = 127) = false := decide_eq_false (by omega)
  have e6 : decide (60 ≤ (x.now.length : Int)) = false := decide_eq_false (by omega)
  simp only [step, e1, e2, e3, e4, e5, e6, h]
  simp
theorem feed_plain (s : Str) : ∀ x : S, (∀ b ∈ s, plainB b = true) → x.now.length + s.length ≤ 60 → s ≠ [] → feed x s = { x with now := x.now ++ s, ret := false } := by
  induction s with
  | nil => intro x _ _ h; exact absurd rfl h
  | cons b s ih =>
    intro x hp hl _
    rw [List.length_cons] at hl
    show feed (step x b) s = _
    rw [step_plain (hp b (by simp)) (by omega)]
    cases s with
    | nil => rfl
    | cons c s =>
      rw [ih _ (fun d hd => hp d (by simp [hd])) (by simp at hl ⊢; omega) (by simp)]
      simp
def emptyL : LineV := ⟨[], false, false, ⟨none, 0, 0⟩⟩
def s0 : S := start emptyL []
/-- Lines that stand as they are, each ended alike. -/
def Ends (W : Str) : Prop := W = [13, 10] ∨ W = [10] ∨ W = [13, 0] ∨ W = [13]
structure Wait (W : Str) (x : S) (q : List Str) : Prop where
  now : x.now = []
  long : x.long = false
  ret : x.ret = true → W = [13]
  queue : x.queue = q
  lost : x.lost = 0
theorem wait_end {W : Str} (hW : Ends W) {x : S} {q : List Str} (hq : q.length < 6) {s : Str} (hn : x.now = s) (hl : x.long = false) (hr : x.ret = true → W = [13] ∧ s = []) (hx : x.queue = q) (h0 : x.lost = 0) : Wait W (feed x W) (q ++ [s]) := by
  have hc : decide ((x.queue.length : Int) < 6) = true := decide_eq_true (by rw [hx]; omega)
  obtain ⟨n, l, r, qq, lo⟩ := x
  simp only at hn hl hr hx h0 hc
  subst hn; subst hl; subst hx; subst h0
  have h13 : ((13 : UInt8).toNat : Int) = 13 := rfl
  have h10 : ((10 : UInt8).toNat : Int) = 10 := rfl
  have h00 : ((0 : UInt8).toNat : Int) = 0 := rfl
  have e13 : step ⟨n, false, r, qq, 0⟩ 13 = ⟨[], false, true, qq ++ [n], 0⟩ := by
    simp only [step, h13, hc]; simp
  have e10 : r = false → step ⟨n, false, r, qq, 0⟩ 10 = ⟨[], false, false, qq ++ [n], 0⟩ := by
    intro hr; subst hr
    simp only [step, h10, hc]; simp
  rcases hW with rfl | rfl | rfl | rfl
  · have : feed ⟨n, false, r, qq, 0⟩ [13, 10] = ⟨[], false, false, qq ++ [n], 0⟩ := by
      show step (step _ 13) 10 = _
      rw [e13]; simp [step, h10]
    rw [this]; exact ⟨rfl, rfl, fun h => (by cases h), rfl, rfl⟩
  · have hr' : r = false := by
      cases r with
      | false => rfl
      | true => have := (hr rfl).1; simp at this
    have : feed ⟨n, false, r, qq, 0⟩ [10] = ⟨[], false, false, qq ++ [n], 0⟩ := e10 hr'
    rw [this]; exact ⟨rfl, rfl, fun h => (by cases h), rfl, rfl⟩
  · have : feed ⟨n, false, r, qq, 0⟩ [13, 0] = ⟨[], false, false, qq ++ [n], 0⟩ := by
      show step (step _ 13) 0 = _
      rw [e13]; simp [step, h00]
    rw [this]; exact ⟨rfl, rfl, fun h => (by cases h), rfl, rfl⟩
  · have : feed ⟨n, false, r, qq, 0⟩ [13] = ⟨[], false, true, qq ++ [n], 0⟩ := e13
    rw [this]; exact ⟨rfl, rfl, fun _ => rfl, rfl, rfl⟩
theorem wait_next {W : Str} (hW : Ends W) {x : S} {q : List Str} (h : Wait W x q) (hq : q.length < 6) {s : Str} (hs : strOk s = true) : Wait W (feed x (s ++ W)) (q ++ [s]) := by
  obtain ⟨h1, h2⟩ := (strOk_iff s).1 hs
  rw [feed_append]
  cases s with
  | nil => exact wait_end hW hq h.now h.long (fun hr => ⟨h.ret hr, rfl⟩) h.queue h.lost
  | cons b s =>
    rw [feed_plain _ _ h2 (by rw [h.now]; simpa using h1) (by simp)]
    exact wait_end hW hq (by simp [h.now]) h.long (fun hr => by cases hr) h.queue h.lost
def pick (k n : Int) : Int := k.tmod n + if k.tmod n < 0 then n else 0
/-- Lines, as they are typed. -/
def typed (W : Str) (qs : List Str) : Str := qs.flatMap (· ++ W)
theorem typed_wait {W : Str} (hW : Ends W) (qs : List Str) : ∀ (x : S) (q : List Str), Wait W x q → q.length + qs.length ≤ 6 → (∀ s ∈ qs, strOk s = true) → Wait W (feed x (typed W qs)) (q ++ qs) := by
  induction qs with
  | nil => intro x q h _ _; simpa [typed, feed] using h
  | cons s qs ih =>
    intro x q h hl hs
    rw [List.length_cons] at hl
    have h1 := wait_next hW h (by omega) (hs s (by simp))
    have h2 := ih _ _ h1 (by simp; omega) (fun t ht => hs t (by simp [ht]))
    have e : typed W (s :: qs) = (s ++ W) ++ typed W qs := rfl
    rw [e, feed_append]
    simpa using h2
theorem whole {W : Str} (hW : Ends W) {qs : List Str} (hl : qs.length ≤ 6) (hs : ∀ s ∈ qs, strOk s = true) : Wait W (feed s0 (typed W qs)) qs := by
  have := typed_wait hW qs s0 [] ⟨rfl, rfl, fun h => (by cases h), rfl, rfl⟩ (by simpa using hl) hs
  simpa using this
/-! #### the document's -/
def refGood (l : LineV) (qs : List Str) : Bool := qs.all cleanK && (cleanK l.now && decide ((l.queue.len : Int) ≤ 6) && (!l.ret || (decide (l.now = []) && !l.long)))
theorem refGood_eq (l : LineV) (qs : List Str) : refGood l qs = good l qs := by
  have e : ∀ s, cleanK s = strOk s := fun s => Bool.eq_iff_iff.2 (cleanK_iff s)
  have e2 : cleanK = strOk := funext e
  rw [Bool.eq_iff_iff]
  simp only [refGood, good, badHead, e2, List.all_append, List.all_cons, List.all_nil, Bool.and_true, Bool.and_eq_true]
  constructor
  · rintro ⟨h1, ⟨h2, h3⟩, h4⟩
    have h5 := ((strOk_iff _).1 h2).1
    simp at h3
    refine ⟨?_, h1, h2⟩
    have a1 : decide (60 < (l.now.length : Int)) = false := decide_eq_false (by omega)
    have a2 : decide (6 < (l.queue.len : Int)) = false := decide_eq_false (by omega)
    rw [a1, a2]
    cases hr : l.ret with
    | false => simp
    | true =>
      rw [hr] at h4
      simp at h4
      rw [h4.1, h4.2]; simp
  · rintro ⟨h1, h2, h3⟩
    simp only [Bool.not_eq_true', Bool.or_eq_false_iff, decide_eq_false_iff_not] at h1
    obtain ⟨⟨⟨h4, h5⟩, h6⟩, h7⟩ := h1
    refine ⟨h2, ⟨h3, by simp; omega⟩, ?_⟩
    cases hr : l.ret <;> cases hl : l.long <;> simp_all
def refEnd (x : S) : S := ⟨[], false, x.ret, if decide ((x.queue.length : Int) = 6) = true then x.queue else x.queue ++ [x.now], if decide ((x.queue.length : Int) = 6) = true then x.lost + 1 else x.lost⟩
def refB (x : S) (b : UInt8) : S :=
  if decide ((b.toNat : Int) = 13) = true then { refEnd x with ret := true }
  else if decide ((b.toNat : Int) = 10) = true then refEnd x
  else if (decide ((b.toNat : Int) = 8) || decide ((b.toNat : Int) = 127)) = true then { x with now := x.now.take (max ((x.now.length : Int) - 1) 0).toNat }
  else if (decide (32 ≤ (b.toNat : Int)) && decide ((b.toNat : Int) ≤ 126) && decide ((x.now.length : Int) = 60)) = true then { x with long := true }
  else if (decide (32 ≤ (b.toNat : Int)) && decide ((b.toNat : Int) ≤ 126)) = true then { x with now := x.now ++ [b] }
  else x
def refStep (x : S) (b : UInt8) : S :=
  if x.ret = true then (if (decide ((b.toNat : Int) = 10) || decide ((b.toNat : Int) = 0)) = true then { x with ret := false } else refB { x with ret := false } b) else refB x b
theorem refB_eq {x : S} (h : Ok x) (b : UInt8) (hr : x.ret = false) : refB x b = step x b := by
  obtain ⟨n, l, r, q, lo⟩ := x
  simp only at hr
  subst hr
  have h1 : q.length ≤ 6 := h.len
  have h2 : n.length ≤ 60 := ((strOk_iff _).1 h.now).1
  have hmax : (max ((n.length : Int) - 1) 0).toNat = ((n.length : Int) - 1).toNat := by omega
  unfold refB step refEnd plainB
  dsimp only
  by_cases c13 : (b.toNat : Int) = 13
  · by_cases hq : (q.length : Int) = 6
    · have : ¬ (q.length : Int) < 6 := by omega
      simp [c13, hq]
    · have : (q.length : Int) < 6 := by omega
      simp [c13, hq, this]
  · by_cases c10 : (b.toNat : Int) = 10
    · by_cases hq : (q.length : Int) = 6
      · have : ¬ (q.length : Int) < 6 := by omega
        simp [c10, hq]
      · have : (q.length : Int) < 6 := by omega
        simp [c10, hq, this]
    · by_cases c8 : (b.toNat : Int) = 8 ∨ (b.toNat : Int) = 127
      · have e8 : (decide ((b.toNat : Int) = 8) || decide ((b.toNat : Int) = 127)) = true := by simpa using c8
        rw [hmax]
        by_cases hn : 0 < (n.length : Int)
        · simp only [c13, c10, e8, hn, decide_false, decide_true, Bool.false_and, Bool.or_self, if_true, Bool.false_eq_true, if_false]
        · have : n = [] := List.length_eq_zero_iff.1 (by omega)
          subst this
          simp only [c13, c10, e8, hn, decide_false, decide_true, Bool.false_and, Bool.or_self, if_true, Bool.false_eq_true, if_false, List.take_nil]
      · have e8 : (decide ((b.toNat : Int) = 8) || decide ((b.toNat : Int) = 127)) = false := by simpa using c8
        have ep : (decide (32 ≤ (b.toNat : Int)) && decide ((b.toNat : Int) < 127)) = (decide (32 ≤ (b.toNat : Int)) && decide ((b.toNat : Int) ≤ 126)) := by
          rw [Bool.eq_iff_iff]; simp; omega
        rw [ep]
        simp only [c13, c10, e8, decide_false, Bool.false_and, Bool.or_self, Bool.false_eq_true, if_false]
        cases hp : (decide (32 ≤ (b.toNat : Int)) && decide ((b.toNat : Int) ≤ 126)) with
        | false => simp
        | true =>
          by_cases h60 : (n.length : Int) = 60
          · simp [h60]
          · have : ¬ 60 ≤ (n.length : Int) := by omega
            simp [h60, this]
theorem step_ret (x : S) (b : UInt8) (h : ¬ ((b.toNat : Int) = 10 ∨ (b.toNat : Int) = 0)) : step x b = step { x with ret := false } b := by
  have e : (decide ((b.toNat : Int) = 10) || decide ((b.toNat : Int) = 0)) = false := by simpa using h
  unfold step; simp only [e, Bool.and_false]
theorem Ok.noret {x : S} (h : Ok x) : Ok { x with ret := false } := ⟨h.now, h.queue, h.len, fun e => by cases e⟩
theorem refStep_eq {x : S} (h : Ok x) (b : UInt8) : refStep x b = step x b := by
  unfold refStep
  cases hr : x.ret with
  | false => exact refB_eq h b hr
  | true =>
    rw [if_pos rfl]
    cases hc : (decide ((b.toNat : Int) = 10) || decide ((b.toNat : Int) = 0)) with
    | true => simp only [step, hr, hc]; rfl
    | false => rw [if_neg (by decide), refB_eq h.noret b rfl, step_ret x b (by simpa using hc)]
/-- What holds while the document's answer reads bytes. -/
structure RI (x0 : S) (u : Str) (k : Int) (x : S) : Prop where
  k0 : 0 ≤ k
  k1 : k ≤ u.length
  ok : Ok x
  lost : 0 ≤ x.lost ∧ x.lost ≤ k
  e : feed x0 u = feed x (u.drop k.toNat)
theorem RI.start {x : S} {u : Str} (h : Ok x) (h0 : x.lost = 0) : RI x u 0 x := ⟨by omega, by omega, h, by omega, rfl⟩
theorem RI.next {x0 x x' : S} {u : Str} {k : Int} (h : RI x0 u k x) (hk : k < u.length) (hs : refStep x (u.getD k.toNat 0) = x') : RI x0 u (k + 1) x' := by
  rw [refStep_eq h.ok] at hs
  have h0 := h.k0
  have hk' : k.toNat < u.length := by omega
  have hd : u.drop k.toNat = u.getD k.toNat 0 :: u.drop (k + 1).toNat := by
    rw [List.drop_eq_getElem_cons hk', show (k + 1).toNat = k.toNat + 1 by omega]
    simp [List.getD, hk']
  have hl := step_lost x (u.getD k.toNat 0)
  have hl' := h.lost
  have ho := step_ok h.ok (u.getD k.toNat 0)
  rw [hs] at hl ho
  exact ⟨by omega, by omega, ho, by omega, by rw [h.e, hd, ← hs]; rfl⟩
theorem RI.done {x0 x : S} {u : Str} {k : Int} (h : RI x0 u k x) (hk : ¬ k < u.length) : feed x0 u = x := by
  have h1 := h.k1
  have hk' : k.toNat = u.length := by omega
  rw [h.e, hk', List.drop_length]; rfl
end Line
end Go.Ing
/- Engine, part 14: the library's own entries; slices that came in or are the call's own. -/
namespace Go.Ing
open Go
section
variable {P : Program} {n : Nat} {w0 : World} {M : List Nat} {Q : Exit → Go.Act → World → Prop} {F F' : List (Nat × Value)} {L L' : List Res} {ops : Array Oper} {rest : List Oper}
end
end Go.Ing
/- The plain functions of pages. -/
namespace Go.Ing
open Go
namespace Page
/-! #### what is escaped -/
def escape (s : Str) : Str := s.flatMap fun b => if b = 255 then [255, 255] else [b]
theorem escape_none (s : Str) (h : s.count 255 = 0) : escape s = s := by
  induction s with
  | nil => rfl
  | cons b s ih =>
    have hb : b ≠ 255 := fun e => by subst e; simp at h
    have hs : s.count 255 = 0 := by rw [List.count_cons_of_ne (by simpa using hb)] at h; exact h
    have e : escape (b :: s) = (if b = 255 then [255, 255] else [b]) ++ escape s := rfl
    rw [e, if_neg hb, ih hs]; rfl
/-- What holds while parts are replaced. -/
structure RepI (s : Str) (m : Nat) (k start : Int) (x : Str) : Prop where
  k0 : 0 ≤ k
  k1 : k ≤ m
  s0 : 0 ≤ start
  s1 : start ≤ s.length
  e : x ++ escape (s.drop start.toNat) = escape s
  c : ((s.drop start.toNat).count 255 : Int) = m - k
  xl : (x.length : Int) ≤ 2 * start
theorem RepI.start {s : Str} {m : Nat} (h : s.count 255 = m) : RepI s m 0 0 [] := ⟨by omega, by omega, by omega, by omega, rfl, by simp [h], by simp⟩
theorem RepI.done {s : Str} {m : Nat} {k start : Int} {x : Str} (h : RepI s m k start x) (hk : ¬ k < m) : x ++ s.drop start.toNat = escape s := by
  have := h.e
  rwa [escape_none _ (by have := h.c; omega)] at this
/-! #### pages -/
structure Pg where
  shown : Int
  asking : Bool
  ring : Str
  cut : Bool
  deriving DecidableEq, Inhabited
def of (p : PageV) : Pg := ⟨p.shown, p.asking, p.ring, p.cut⟩
def good (p : PageV) : Bool := decide ((p.wait.len : Int) ≤ 60) && decide ((p.ring.length : Int) ≤ 700) && decide (0 ≤ p.shown) && decide (p.shown ≤ 200)
def put (x : Pg) (s : Str) : Pg := if x.cut = true then x else if decide (700 - (x.ring.length : Int) < s.length) = true then { x with cut := true } else { x with ring := x.ring ++ s }
def send (p : PageV) (s : Str) : Pg × Int := if (!good p) = true then (of p, 2) else if p.cut = true then (of p, 6) else (put (of p) s, 0)
theorem send_put {p : PageV} (h : good p = true) (s : Str) : (send p s).1 = put (of p) s := by
  unfold send
  rw [h]
  cases hc : p.cut <;> simp [put, of, hc]
theorem put_ring {x : Pg} {s : Str} (h : x.ring.length ≤ 700) : (put x s).ring.length ≤ 700 := by
  unfold put
  split
  · exact h
  · split
    · exact h
    · rename_i h1
      simp only [List.length_append]
      simp at h1; omega
theorem put_shown (x : Pg) (s : Str) : (put x s).shown = x.shown := by
  unfold put; split
  · rfl
  · split <;> rfl
def moreS : Str := [45, 45, 32, 109, 111, 114, 101, 32, 45, 45, 13, 10]
def flow (ht : Int) : List Str → Pg → Pg × List Str
  | [], x => (x, [])
  | s :: r, x => if (x.asking || x.cut) = true then (x, s :: r) else if (decide (0 < ht) && decide (ht ≤ x.shown)) = true then (put { x with asking := true } moreS, s :: r) else flow ht r (put { x with shown := min (x.shown + 1) 200 } (escape s ++ [13, 10]))
theorem good_of {p : PageV} (h1 : p.wait.len ≤ 60) (h2 : p.ring.length ≤ 700) (h3 : 0 ≤ p.shown) (h4 : p.shown ≤ 200) : good p = true := by
  simp only [good, Bool.and_eq_true, decide_eq_true_eq]; omega
theorem good_iff (p : PageV) : good p = true ↔ p.wait.len ≤ 60 ∧ p.ring.length ≤ 700 ∧ 0 ≤ p.shown ∧ p.shown ≤ 200 := by
  simp only [good, Bool.and_eq_true, decide_eq_true_eq]; omega
/-- What holds while lines are shown. -/
structure FI (ht : Int) (qs : List Str) (x0 : Pg) (rest : List Str) (h : Hd) (x : Pg) : Prop where
  n : rest.length ≤ 60
  hl : h.len = rest.length
  ring : x.ring.length ≤ 700
  s0 : 0 ≤ x.shown
  s1 : x.shown ≤ 200
  len : ∀ s ∈ rest, s.length ≤ 70368744000000
  e : flow ht qs x0 = flow ht rest x
theorem FI.start {ht : Int} {qs : List Str} {p : PageV} (hg : good p = true) (hl : p.wait.len = qs.length) (hs : ∀ s ∈ qs, s.length ≤ 70368744000000) : FI ht qs (of p) qs p.wait (of p) := by
  obtain ⟨h1, h2, h3, h4⟩ := (good_iff p).1 hg
  exact ⟨by omega, hl, h2, h3, h4, hs, rfl⟩
theorem FI.good {ht : Int} {qs rest : List Str} {x0 x : Pg} {h : Hd} (hI : FI ht qs x0 rest h x) {n : Hd} (hn : n.len ≤ 60) {a : Bool} {c : Bool} : Page.good ⟨n, x.shown, a, x.ring, c⟩ = true := good_of hn hI.ring hI.s0 hI.s1
/-- The next line is shown. -/
theorem FI.next {ht : Int} {qs r : List Str} {s : Str} {x0 : Pg} {h h' : Hd} {sh : Int} {az ct : Bool} {ring : Str} (hI : FI ht qs x0 (s :: r) h ⟨sh, az, ring, ct⟩) (ha : az = false) (hc : ct = false) (hm : (decide (0 < ht) && decide (ht ≤ sh)) = false) (hl : h'.len = r.length) {y : Pg}
    (hy : y = (send ⟨h', min (sh + 1) 200, az, ring, ct⟩ (escape s ++ [13, 10])).1) : FI ht qs x0 r h' y := by
  obtain ⟨h1, h2, h3, h4, h5, h6, h7⟩ := hI
  subst ha; subst hc
  simp only at h3 h4 h5
  have h1' := h1
  rw [List.length_cons] at h1'
  have hg : Page.good ⟨h', min (sh + 1) 200, false, ring, false⟩ = true := good_of (by rw [hl]; omega) h3 (by simp only; omega) (by simp only; omega)
  rw [send_put hg] at hy
  subst hy
  refine ⟨by omega, hl, put_ring h3, ?_, ?_, fun t ht => h6 t (by simp [ht]), ?_⟩
  · rw [put_shown]; show 0 ≤ min (sh + 1) 200; omega
  · rw [put_shown]; show min (sh + 1) 200 ≤ 200; omega
  · rw [h7, flow]
    simp only [Bool.or_self, Bool.false_eq_true, if_false, hm]
    rfl
theorem FI.ends {ht : Int} {qs rest : List Str} {x0 x : Pg} {h : Hd} (hI : FI ht qs x0 rest h x) (hc : rest = [] ∨ x.asking = true ∨ x.cut = true) : flow ht qs x0 = (x, rest) := by
  rw [hI.e]
  cases rest with
  | nil => rfl
  | cons s r =>
    have : (x.asking || x.cut) = true := by
      rcases hc with h | h | h
      · cases h
      · simp [h]
      · simp [h]
    rw [flow, if_pos this]
theorem FI.hd {ht : Int} {qs rest : List Str} {x0 x : Pg} {h h' : Hd} (hI : FI ht qs x0 rest h x) (hl : h'.len = rest.length) : FI ht qs x0 rest h' x := ⟨hI.n, hl, hI.ring, hI.s0, hI.s1, hI.len, hI.e⟩
@[reducible] def K (n : Int) (r : Str) : Nat := (max 0 (min n (r.length : Int))).toNat
end Page
end Go.Ing
/- The plain functions of the land: what the program's package 'land' computes. -/
namespace Go.Ing
open Go
namespace Land
def climb (w : Land) : Nat → Thing → Bool
  | 0, _ => false
  | n + 1, t => if (!decide (t.whr = 2)) = true then true else if (decide (n = 0) || decide (t.at_ < 0) || decide (9 ≤ t.at_)) = true then false else climb w n (w.things.at t.at_)
def goodThing (w : Land) (i : Int) : Bool :=
  if (decide ((w.things.at i).kind < 0) || decide (3 < (w.things.at i).kind) || (decide ((w.things.at i).kind = 0) && (w.things.at i).on) || decide ((w.things.at i).at_ < 0)) = true then false
  else if decide ((w.things.at i).whr = 0) = true then decide ((w.things.at i).at_ < 6) && !(decide ((w.things.at i).kind = 2) && (w.things.at i).on)
  else if decide ((w.things.at i).whr = 1) = true then decide ((w.things.at i).at_ < 6) && (w.beings.at (w.things.at i).at_).here
  else if decide ((w.things.at i).whr = 2) = true then (if (decide (9 ≤ (w.things.at i).at_) || (!decide ((w.things.at (w.things.at i).at_).kind = 3)) || (decide ((w.things.at i).kind = 2) && (w.things.at i).on)) = true then false else climb w 10 (w.things.at i))
  else false
def opposite (d : Int) : Int := (max 0 (min d 5) + 3).tmod 6
def inside (w : Land) (box : Int) : Nat → Int → Bool
  | 0, _ => false
  | n + 1, i => if decide (i = box) = true then true else if (decide (i < 0) || decide (9 ≤ i) || !decide ((w.things.at i).whr = 2)) = true then false else inside w box n (w.things.at i).at_
def isIn (w : Land) (i box : Int) : Bool := inside w box 10 i
def roomFrom (w : Land) : Nat → Int → Bool → Int × Bool
  | 0, _, _ => (-1, false)
  | n + 1, i, o =>
    if (decide (i < 0) || decide (9 ≤ i)) = true then (-1, false)
    else if decide ((w.things.at i).whr = 0) = true then ((w.things.at i).at_, o)
    else if decide ((w.things.at i).whr = 1) = true then (if (decide ((w.things.at i).at_ < 0) || decide (6 ≤ (w.things.at i).at_)) = true then (-1, false) else ((w.beings.at (w.things.at i).at_).room, o))
    else if decide ((w.things.at i).whr = 2) = true then
      (if (decide (0 ≤ (w.things.at i).at_) && decide ((w.things.at i).at_ < 9) && !(w.things.at (w.things.at i).at_).on) = true then roomFrom w n (w.things.at i).at_ false else roomFrom w n (w.things.at i).at_ o)
    else (-1, false)
def room (w : Land) (i : Int) : Int × Bool := roomFrom w 10 i true
def badExit (r : Room) (d : Int) : Bool := decide (r.exits.at d < 0) || decide (6 < r.exits.at d) || (decide (r.exits.at d = 0) && r.shut.at d)
def badBeing (b : Being) : Bool := decide (b.room < 0) || decide (6 ≤ b.room) || decide (b.health < 0) || decide (10 < b.health) || decide (b.foe < 0) || decide (6 < b.foe) || (!b.here && !decide (b.foe = 0)) || b.here != decide (0 < b.health)
def goodRoom (w : Land) (k : Int) : Bool := allFrom 6 (fun d => !badExit (w.rooms.at k) d) 6
def good (w : Land) : Bool := allFrom 6 w.goodRoom 6 && (allFrom 6 (fun k => !badBeing (w.beings.at k)) 6 && allFrom 9 w.goodThing 9)
def has (w : Land) (whr at_ : Int) : List Int := ((List.range 9).map Int.ofNat).filter fun k => decide ((w.things.at k).whr = whr) && decide ((w.things.at k).at_ = at_)
end Land
end Go.Ing
/- The land as it begins. -/
namespace Go.Ing
open Go
namespace Land
def ex (a b c d e f : Int) : Vector Int 6 := ((((((Vector.replicate 6 default).put 0 a).put 1 b).put 2 c).put 3 d).put 4 e).put 5 f
def sh (i : Int) : Vector Bool 6 := (Vector.replicate 6 default).put i true
def roomsV : Vector Room 6 := (((((((Vector.replicate 6 default).put 0 ⟨[104, 101, 97, 114, 116, 104], false, (ex 2 3 4 0 0 5), sh 5⟩).put 1 ⟨[121, 97, 114, 100], false, (ex 0 0 0 1 0 0), default⟩).put 2 ⟨[112, 97, 110, 116, 114, 121], true, (ex 0 0 0 0 1 0), default⟩).put 3 ⟨[108, 111, 102, 116], true, (ex 0 6 0 0 0 1), default⟩).put 4 ⟨[99, 101, 108, 108, 97, 114], true, (ex 0 0 1 0 0 0), sh 2⟩).put 5 ⟨[97, 116, 116, 105, 99], false, (ex 0 0 0 0 4 0), default⟩)
def thingsV : Vector Thing 9 := ((((((((((Vector.replicate 9 default).put 0 ⟨[108, 97, 109, 112], 1, 0, 0, false⟩).put 1 ⟨[108, 97, 109, 112], 1, 0, 3, false⟩).put 2 ⟨[99, 108, 111, 97, 107], 2, 0, 0, false⟩).put 3 ⟨[99, 104, 101, 115, 116], 3, 0, 4, false⟩).put 4 ⟨[99, 111, 105, 110], 0, 2, 3, false⟩).put 5 ⟨[99, 111, 105, 110], 0, 0, 1, false⟩).put 6 ⟨[109, 117, 103], 0, 0, 0, false⟩).put 7 ⟨[98, 111, 120], 3, 0, 0, true⟩).put 8 ⟨[107, 101, 121], 0, 1, 1, false⟩)
def newA : Nat → Land
  | 0 => default
  | k + 1 => { newA k with rooms := (newA k).rooms.put k (roomsV.toList.getD k default) }
def newB : Nat → Land
  | 0 => newA 6
  | k + 1 => { newB k with things := (newB k).things.put k (thingsV.toList.getD k default) }
def new : Land := { newB 9 with beings := ((newB 9).beings.put 0 ⟨[99, 97, 116], true, true, 0, 10, 0⟩).put 1 ⟨[114, 97, 116], true, false, 4, 3, 0⟩ }
theorem newA_step {k : Int} (h : 0 ≤ k) : newA (k + 1).toNat = { newA k.toNat with rooms := (newA k.toNat).rooms.put k (roomsV.toList.getD k.toNat default) } := by
  obtain ⟨m, rfl⟩ := Int.eq_ofNat_of_zero_le h
  rfl
theorem newB_step {k : Int} (h : 0 ≤ k) : newB (k + 1).toNat = { newB k.toNat with things := (newB k.toNat).things.put k (thingsV.toList.getD k.toNat default) } := by
  obtain ⟨m, rfl⟩ := Int.eq_ofNat_of_zero_le h
  rfl
end Land
end Go.Ing
/- Plain laws of lands. -/
namespace Go.Ing
open Go
namespace Land
variable {X : Land}
theorem good_thing (h : X.good = true) {i : Int} (h0 : 0 ≤ i) (h9 : i < 9) : X.goodThing i = true := by
  unfold good at h
  rw [Bool.and_eq_true, Bool.and_eq_true] at h
  exact (allFrom_iff 9).1 h.2.2 i (by omega) h9
theorem good_being (h : X.good = true) {b : Int} (h0 : 0 ≤ b) (h9 : b < 6) : badBeing (X.beings.at b) = false := by
  unfold good at h
  rw [Bool.and_eq_true, Bool.and_eq_true] at h
  simpa using (allFrom_iff 6).1 h.2.1 b (by omega) h9
theorem good_exit (h : X.good = true) {r d : Int} (h0 : 0 ≤ r) (h6 : r < 6) (d0 : 0 ≤ d) (d6 : d < 6) : badExit (X.rooms.at r) d = false := by
  unfold good at h
  rw [Bool.and_eq_true, Bool.and_eq_true] at h
  have := (allFrom_iff 6).1 h.1 r (by omega) h6
  unfold goodRoom at this
  simpa using (allFrom_iff 6).1 this d (by omega) d6
structure ThingOk (X : Land) (i : Int) : Prop where
  k0 : 0 ≤ (X.things.at i).kind
  k3 : (X.things.at i).kind ≤ 3
  plain : (X.things.at i).kind = 0 → (X.things.at i).on = false
  a0 : 0 ≤ (X.things.at i).at_
  whr : ((X.things.at i).whr = 0 ∧ (X.things.at i).at_ < 6 ∧ ¬ ((X.things.at i).kind = 2 ∧ (X.things.at i).on = true)) ∨
    ((X.things.at i).whr = 1 ∧ (X.things.at i).at_ < 6 ∧ (X.beings.at (X.things.at i).at_).here = true) ∨
    ((X.things.at i).whr = 2 ∧ (X.things.at i).at_ < 9 ∧ (X.things.at (X.things.at i).at_).kind = 3 ∧ ¬ ((X.things.at i).kind = 2 ∧ (X.things.at i).on = true) ∧ X.climb 10 (X.things.at i) = true)
theorem thing_ok {i : Int} (h : X.goodThing i = true) : ThingOk X i := by
  unfold goodThing at h
  split at h
  · cases h
  · rename_i h1
    simp only [Bool.or_eq_true, Bool.and_eq_true, decide_eq_true_eq, not_or, not_and, Bool.not_eq_true] at h1
    obtain ⟨⟨⟨a1, a2⟩, a3⟩, a4⟩ := h1
    refine ⟨by omega, by omega, a3, by omega, ?_⟩
    split at h
    · rename_i h2
      simp only [Bool.and_eq_true, decide_eq_true_eq, Bool.not_eq_true'] at h h2
      refine .inl ⟨h2, h.1, fun ⟨x, y⟩ => ?_⟩
      simp [x, y] at h
    · rename_i h2
      split at h
      · rename_i h3
        simp only [Bool.and_eq_true, decide_eq_true_eq] at h h3
        exact .inr (.inl ⟨h3, h.1, h.2⟩)
      · split at h
        · rename_i h4
          split at h
          · cases h
          · rename_i h5
            simp only [Bool.or_eq_true, Bool.and_eq_true, decide_eq_true_eq, not_or, not_and, Bool.not_eq_true, Bool.not_eq_true', decide_eq_false_iff_not, Decidable.not_not] at h4 h5
            refine .inr (.inr ⟨h4, by omega, h5.1.2, fun ⟨x, y⟩ => ?_, h⟩)
            have := h5.2 x
            rw [y] at this; cases this
        · cases h
/-- Out of box after box, in n steps, to what is in no box. -/
def Out (X : Land) : Nat → Int → Prop
  | 0, i => (X.things.at i).whr ≠ 2
  | n + 1, i => (X.things.at i).whr = 2 ∧ 0 ≤ (X.things.at i).at_ ∧ (X.things.at i).at_ < 9 ∧ Out X n (X.things.at i).at_
theorem out_of_climb : ∀ (n : Nat) (i : Int), X.climb n (X.things.at i) = true → ∃ m, m < n ∧ Out X m i
  | 0, i, h => by simp [climb] at h
  | n + 1, i, h => by
    unfold climb at h
    split at h
    · rename_i h1; exact ⟨0, by omega, by simpa [Out] using h1⟩
    · rename_i h1
      split at h
      · cases h
      · rename_i h2
        simp only [Bool.or_eq_true, decide_eq_true_eq, not_or] at h2
        obtain ⟨m, hm, ho⟩ := out_of_climb n _ h
        exact ⟨m + 1, by omega, by simpa using h1, by omega, by omega, ho⟩
theorem good_out (h : X.good = true) {i : Int} (h0 : 0 ≤ i) (h9 : i < 9) : ∃ n, n < 10 ∧ Out X n i := by
  have ht := thing_ok (good_thing h h0 h9)
  rcases ht.whr with ⟨w, _⟩ | ⟨w, _⟩ | ⟨_, _, _, _, c⟩
  · exact ⟨0, by omega, by simp [Out, w]⟩
  · exact ⟨0, by omega, by simp [Out, w]⟩
  · exact out_of_climb 10 i c
theorem Out.uniq : ∀ {n m : Nat} {i : Int}, Out X n i → Out X m i → n = m
  | 0, 0, _, _, _ => rfl
  | 0, m + 1, i, h, k => absurd k.1 h
  | n + 1, 0, i, h, k => absurd h.1 k
  | n + 1, m + 1, i, h, k => by rw [Out.uniq h.2.2.2 k.2.2.2]
end Land
end Go.Ing
/- Engine: the strings of a slice within a struct that came in, as parts of its reading. -/
namespace Go.Ing
open Go Go.RowKit Go.ChangeShapes Go.WideShapes Go.ChangeAt
section
variable {H : Type} {enc : TypeId × Value → H} {P : Program} {w : World}
end
end Go.Ing
/- Engine: maps of the call's own, from integers. -/
namespace Go.Ing
open Go Go.MapKept
/-- A map that the call owns, its keys integers, in the order in which they came. -/
def Res.imap (b : Nat) (kv : List (Int × Value)) : Res where
  foot := [b]
  ok w := ∃ es clock, w.heap[b]? = some (.map es clock) ∧ es.toList.map (fun e => (e.key, e.val)) = kv.map (fun p => (Value.int .i64 p.1, p.2))
  loc w w' h hw := by
    obtain ⟨es, clock, h1, h2⟩ := hw
    exact ⟨es, clock, by rw [h b (by simp)]; exact h1, h2⟩
def fnd (kv : List (Int × Value)) (k : Int) : Option Value := (kv.find? fun p => k == p.1).map (·.2)
theorem findNow_kv {k : Int} : ∀ (es : List MapEntry) (kv : List (Int × Value)) (i : Nat), es.map (fun e => (e.key, e.val)) = kv.map (fun p => (Value.int .i64 p.1, p.2)) →
    ∃ r, Instr.findNow (.int .i64) (.int .i64 k) es i = some r ∧ r.map (·.2) = fnd kv k
  | [], [], i, _ => ⟨none, rfl, rfl⟩
  | [], _ :: _, i, h => by simp at h
  | _ :: _, [], i, h => by simp at h
  | e :: es, p :: kv, i, h => by
    simp only [List.map_cons, List.cons.injEq, Prod.mk.injEq] at h
    obtain ⟨⟨h1, h2⟩, h3⟩ := h
    obtain ⟨r, h4, h5⟩ := findNow_kv (k := k) es kv (i + 1) h3
    by_cases hk : k = p.1
    · refine ⟨some (i, e.val), ?_, ?_⟩
      · simp [Instr.findNow, h1, Instr.sameNow, hk]
      · simp [fnd, hk, h2]
    · refine ⟨r, ?_, ?_⟩
      · have hkb : (k == p.1) = false := by simpa using hk
        simp [Instr.findNow, h1, Instr.sameNow, hkb, h4]
      · rw [h5]
        have : (k == p.1) = false := by simpa using hk
        simp [fnd, this]
section
variable {P : Program} {n : Nat} {w0 : World} {M : List Nat} {Q : Exit → Go.Act → World → Prop} {F F' : List (Nat × Value)} {L L' : List Res} {ops : Array Oper} {rest : List Oper}
theorem St.allocO {w : World} (h : St w0 M w L) (o : Obj) (r : Res) (hf : r.foot = [w.heap.size]) (hok : r.ok (w.alloc o)) : St w0 M (w.alloc o) (r :: L) := by
  have hb : ∀ k, k < w.heap.size → (w.alloc o).heap[k]? = w.heap[k]? := fun k hk => RowKit.Below.heap_alloc _ _ _ hk
  refine ⟨h.os, h.tape, h.output, by have := h.size; simp; omega, fun k hk hM => (hb k (by have := h.size; omega)).trans (h.old k hk hM), ?_, ?_, ?_⟩
  · intro s hs
    rcases List.mem_cons.1 hs with rfl | hs
    · exact hok
    · exact s.loc w _ (fun b hbr => hb b (h.foot s hs b hbr).1) (h.ok s hs)
  · intro s hs b hbr
    rcases List.mem_cons.1 hs with rfl | hs
    · rw [hf] at hbr; simp at hbr; subst hbr
      refine ⟨by simp, fun hlt => ?_⟩
      have := h.size; omega
    · have := h.foot s hs b hbr
      exact ⟨by simp; omega, this.2⟩
  · refine List.pairwise_cons.2 ⟨fun s hs b hbr hbs => ?_, h.disj⟩
    rw [hf] at hbr; simp at hbr; subst hbr
    have := (h.foot s hs _ hbs).1
    omega
theorem GL_makeMap {d T U : Nat} {pos : String} {aft : Array Edge} (hd : Nat.blt d n = true) (k : ∀ b, GL P n w0 M ops Q rest ((d, .map (some b)) :: F) (Res.imap b [] :: L)) : GL P n w0 M ops Q (⟨some d, .makeMap T none, U, pos, aft, none⟩ :: rest) F L := by
  refine GL_new (R := fun v L' => ∃ b, v = .map (some b) ∧ L' = Res.imap b [] :: L) hd ?_ (fun v L' ⟨b, e1, e2⟩ => by subst e1; subst e2; exact k b)
  intro a w hF hS
  refine ⟨_, _, w.alloc (.map #[] 0), ⟨w.heap.size, rfl, rfl⟩, ?_, St.allocO hS _ _ rfl ⟨#[], 0, (heap_alloc w _).1, by simp⟩⟩
  rfl
theorem PU_mapSet {T kt et b : Nat} {x y z : Operand} {k : Int} {v : Value} {kv : List (Int × Value)} (hu : P.underlying T = some (.map kt et)) (hk : P.underlying kt = some (.int .i64)) (hx : ev F x = some (.map (some b))) (hy : ev F y = some (.int .i64 k)) (hz : ev F z = some v)
    (hn : fnd kv k = none) (hU : Upd L (Res.imap b kv) (Res.imap b (kv ++ [(k, v)])) L') {U : TypeId} : PU P n w0 M (.mapUpdate T x y z) U F L L' ∧ PU P n w0 M (.insert T x y z) U F L L' := by
  have main : ∀ a w, Fr n a F → St w0 M w L → ∃ w', (Instr.mapUpdate T (a.eval x) (a.eval y) (a.eval z)).run P w = .ok () w' ∧ St w0 M w' L' := by
    intro a w hF hS
    obtain ⟨es, clock, h1, h2⟩ := hS.ok _ hU.mem
    obtain ⟨r, h3, h4⟩ := findNow_kv (k := k) es.toList kv 0 h2
    rw [hn] at h4
    have hr : r = none := by cases r with
      | none => rfl
      | some r => simp at h4
    subst hr
    have h5 := run_findKey (P := P) (w := w) hk h3
    have h6 : (Instr.checkKey false 10000 kt (.int .i64 k)).run P w = .ok () w := run_checkKey (n := 9999) hk (by simp [IsKey]) false
    have h7 := run_setObj_map (P := P) (.map (es.push { key := .int .i64 k, val := v, born := clock }) (clock + 1)) h1
    have hlt : b < w.heap.size := (Array.getElem?_eq_some_iff.1 h1).1
    refine ⟨{ w with heap := w.heap.setIfInBounds b (.map (es.push { key := .int .i64 k, val := v, born := clock }) (clock + 1)) }, ?_, hS.turn hU rfl rfl rfl (by simp) (fun j hj hjf => ?_) ⟨_, _, (heap_set h1).1, ?_⟩ (fun c hc => ?_)⟩
    · have h8 := Go.MapKept.run_getObj_map (P := P) h1
      simp only [hF.ev hx, hF.ev hy, hF.ev hz, Instr.mapUpdate, Sem.run_bind, run_underlying hu, Result.andThen_ok, h8, h6, h5, h7]
    · exact (heap_set h1).2 j (fun e => hjf (by simp [Res.imap, e]))
    · simp [h2]
    · simp [Res.imap] at hc ⊢
      subst hc
      exact ⟨hlt, .inl rfl⟩
  constructor
  · intro a w hF hS
    obtain ⟨w', h1, h2⟩ := main a w hF hS
    exact ⟨w', by simp [execOp, h1], h2⟩
  · intro a w hF hS
    obtain ⟨w', h1, h2⟩ := main a w hF hS
    exact ⟨w', by simp [execOp, h1], h2⟩
theorem run_lookup {T kt et b : Nat} {k : Int} {w : World} {z : Value} {kv : List (Int × Value)} (hu : P.underlying T = some (.map kt et)) (hk : P.underlying kt = some (.int .i64)) (hz : ZV P et z) (hok : (Res.imap b kv).ok w) (c : Bool) :
    (Instr.lookup T (.map (some b)) (.int .i64 k) c).run P w = .ok (if c then .tuple #[(fnd kv k).getD z, .bool (fnd kv k).isSome] else (fnd kv k).getD z) w := by
  obtain ⟨es, clock, h1, h2⟩ := hok
  obtain ⟨r, h3, h4⟩ := findNow_kv (k := k) es.toList kv 0 h2
  have h5 := run_findKey (P := P) (w := w) hk h3
  have h6 : (Instr.checkKey es.isEmpty 10000 kt (.int .i64 k)).run P w = .ok () w := run_checkKey (n := 9999) hk (by simp [IsKey]) _
  have h8 := Go.MapKept.run_getObj_map (P := P) h1
  simp only [Instr.lookup, Sem.run_bind, run_underlying hu, Result.andThen_ok, h8, Sem.run_pure, h6, h5]
  rw [← h4]
  cases r with
  | none => simp [hz w]
  | some r => obtain ⟨i, v⟩ := r; simp
theorem PS_lookup1 {T kt et b : Nat} {x y : Operand} {k : Int} {z : Value} {kv : List (Int × Value)} {U : TypeId} (hu : P.underlying T = some (.map kt et)) (hk : P.underlying kt = some (.int .i64)) (hz : ZV P et z) (hx : ev F x = some (.map (some b))) (hy : ev F y = some (.int .i64 k)) (hm : Res.imap b kv ∈ L) :
    PS P n w0 M (.lookup T x y false) U F L ((fnd kv k).getD z) L := fun a w hF hS => by
  refine ⟨w, ?_, rfl, rfl⟩
  have := run_lookup (k := k) hu hk hz (hS.ok _ hm) false
  simp only [execOp, hF.ev hx, hF.ev hy]
  simp [this]
end
end Go.Ing
/- The plain functions of sense. -/
namespace Go.Ing
open Go
namespace Land
def lit (w : Land) (r i : Int) : Bool := !(!decide ((w.things.at i).kind = 1) || !(w.things.at i).on) && (decide ((w.room i).1 = r) && (w.room i).2)
def bright (w : Land) (r : Int) : Bool := if (decide (r < 0) || decide (6 ≤ r)) = true then false else if (!(w.rooms.at r).dark) = true then true else !(allFrom 9 (fun i => !w.lit r i) 9)
def cloaked (w : Land) (b i : Int) : Bool := decide ((w.things.at i).kind = 2) && (w.things.at i).on && decide ((w.things.at i).whr = 1) && decide ((w.things.at i).at_ = b)
def hidden (w : Land) (b : Int) : Bool := !(allFrom 9 (fun i => !w.cloaked b i) 9)
def being (w : Land) (b : Int) : Bool := decide (0 ≤ b) && decide (b < 6) && (w.beings.at b).here
def sees (w : Land) (a b : Int) : Bool := if (!w.being a || !w.being b) = true then false else if decide (a = b) = true then true else decide ((w.beings.at a).room = (w.beings.at b).room) && w.bright (w.beings.at a).room && ((w.beings.at a).keen || !w.hidden b)
def loud (k : Int) : Bool := decide (k = 7) || decide (k = 14) || decide (k = 15)
def unseen (w : Land) (b : Int) (e : Event) : Bool := decide (0 ≤ e.other) && decide (e.other < 6) && !w.sees b e.other
def perceives (w : Land) (b : Int) (e : Event) : Int :=
  if (!w.being b) = true then 0
  else if decide (b = e.actor) = true then (if (decide (e.other < 0) || decide (6 ≤ e.other) || w.sees b e.other) = true then 1 else 5)
  else if (decide (e.kind = 16) || !decide ((w.beings.at b).room = e.room)) = true then 0
  else if (!w.sees b e.actor) = true then (if (!loud e.kind) = true then 0 else if w.unseen b e = true then 1 + 2 + 4 else 1 + 2)
  else if w.unseen b e = true then 1 + 4 else 1
def allN (w : Land) (e : Event) : Nat → Event
  | 0 => e
  | k + 1 => { allN w e k with by_ := (allN w e k).by_.put k (perceives w k (allN w e k)) }
theorem allN_step {w : Land} {e : Event} {k : Int} (h : 0 ≤ k) : w.allN e (k + 1).toNat = { w.allN e k.toNat with by_ := (w.allN e k.toNat).by_.put k (w.perceives k (w.allN e k.toNat)) } := by
  obtain ⟨m, rfl⟩ := Int.eq_ofNat_of_zero_le h
  rfl
/-! #### what is heard of who says -/
def sayT : Str := [89, 111, 117, 32, 115, 97, 121, 58, 32, 88]
def said (t : Str) (k : Int) : Str := if k ≤ 9 then sayT.take k.toNat else sayT.take 9 ++ t
/-! #### laws -/
theorem perceives_cases (w : Land) (b : Int) (e : Event) : w.perceives b e = 0 ∨ (w.being b = true ∧ ((b = e.actor ∧ (w.perceives b e = 1 ∨ w.perceives b e = 5)) ∨
    (b ≠ e.actor ∧ e.kind ≠ 16 ∧ (w.beings.at b).room = e.room ∧ ((w.sees b e.actor = false ∧ loud e.kind = true ∧ (w.perceives b e = 3 ∨ w.perceives b e = 7)) ∨ (w.sees b e.actor = true ∧ (w.perceives b e = 1 ∨ w.perceives b e = 5)))))) := by
  unfold perceives
  repeat' split
  all_goals simp_all
theorem being_rng {w : Land} {b : Int} (h : w.being b = true) : 0 ≤ b ∧ b < 6 ∧ (w.beings.at b).here = true := by
  simpa [being, and_assoc] using h
section
variable {w : Land} {b : Int} {e : Event}
end
end Land
end Go.Ing
/- Where a thing is at last: two roads. -/
namespace Go.Ing
open Go
def kvOf (s : List Int) : List (Int × Value) := s.map fun j => (j, .bool true)
theorem kvOf_snoc (s : List Int) (i : Int) : kvOf (s ++ [i]) = kvOf s ++ [(i, .bool true)] := by simp [kvOf]
theorem seen_fnd (s : List Int) (i : Int) : fnd (kvOf s) i = if i ∈ s then some (.bool true) else none := by
  induction s with
  | nil => rfl
  | cons j s ih =>
    by_cases h : i = j
    · simp [fnd, kvOf, h]
    · have hb : (i == j) = false := by simpa using h
      have e : fnd (kvOf (j :: s)) i = fnd (kvOf s) i := by simp [fnd, kvOf, hb]
      rw [e, ih]
      simp [h]
theorem seen_eq (s : List Int) (i : Int) : (fnd (kvOf s) i).getD (.bool false) = .bool (decide (i ∈ s)) := by
  rw [seen_fnd]; by_cases h : i ∈ s <;> simp [h]
theorem seen_none {s : List Int} {i : Int} (h : i ∉ s) : fnd (kvOf s) i = none := by rw [seen_fnd, if_neg h]
def un (s : List Int) (j : Int) : Nat := if j ∈ s then 0 else 1
def leftN (s : List Int) : Nat := un s 0 + un s 1 + un s 2 + un s 3 + un s 4 + un s 5 + un s 6 + un s 7 + un s 8
theorem un_snoc (s : List Int) (i j : Int) (hj : j ≠ i) : un (s ++ [i]) j = un s j := by simp [un, hj]
theorem un_hit (s : List Int) (i : Int) : un (s ++ [i]) i = 0 := by simp [un]
theorem un_new {s : List Int} {i : Int} (h : i ∉ s) : un s i = 1 := by simp [un, h]
theorem leftN_snoc {s : List Int} {i : Int} (h : i ∉ s) (h0 : 0 ≤ i) (h9 : i < 9) : leftN (s ++ [i]) + 1 = leftN s := by
  have hc : i = 0 ∨ i = 1 ∨ i = 2 ∨ i = 3 ∨ i = 4 ∨ i = 5 ∨ i = 6 ∨ i = 7 ∨ i = 8 := by omega
  have hh := un_hit s i
  have hn := un_new h
  have g : ∀ j : Int, j ≠ i → un (s ++ [i]) j = un s j := fun j hj => un_snoc s i j hj
  unfold leftN
  rcases hc with e | e | e | e | e | e | e | e | e
  · have g1 := g 1 (by omega); have g2 := g 2 (by omega); have g3 := g 3 (by omega); have g4 := g 4 (by omega); have g5 := g 5 (by omega); have g6 := g 6 (by omega); have g7 := g 7 (by omega); have g8 := g 8 (by omega)
    rw [e] at hh hn g1 g2 g3 g4 g5 g6 g7 g8 ⊢; omega
  · have g0 := g 0 (by omega); have g2 := g 2 (by omega); have g3 := g 3 (by omega); have g4 := g 4 (by omega); have g5 := g 5 (by omega); have g6 := g 6 (by omega); have g7 := g 7 (by omega); have g8 := g 8 (by omega)
    rw [e] at hh hn g0 g2 g3 g4 g5 g6 g7 g8 ⊢; omega
  · have g0 := g 0 (by omega); have g1 := g 1 (by omega); have g3 := g 3 (by omega); have g4 := g 4 (by omega); have g5 := g 5 (by omega); have g6 := g 6 (by omega); have g7 := g 7 (by omega); have g8 := g 8 (by omega)
    rw [e] at hh hn g0 g1 g3 g4 g5 g6 g7 g8 ⊢; omega
  · have g0 := g 0 (by omega); have g1 := g 1 (by omega); have g2 := g 2 (by omega); have g4 := g 4 (by omega); have g5 := g 5 (by omega); have g6 := g 6 (by omega); have g7 := g 7 (by omega); have g8 := g 8 (by omega)
    rw [e] at hh hn g0 g1 g2 g4 g5 g6 g7 g8 ⊢; omega
  · have g0 := g 0 (by omega); have g1 := g 1 (by omega); have g2 := g 2 (by omega); have g3 := g 3 (by omega); have g5 := g 5 (by omega); have g6 := g 6 (by omega); have g7 := g 7 (by omega); have g8 := g 8 (by omega)
    rw [e] at hh hn g0 g1 g2 g3 g5 g6 g7 g8 ⊢; omega
  · have g0 := g 0 (by omega); have g1 := g 1 (by omega); have g2 := g 2 (by omega); have g3 := g 3 (by omega); have g4 := g 4 (by omega); have g6 := g 6 (by omega); have g7 := g 7 (by omega); have g8 := g 8 (by omega)
    rw [e] at hh hn g0 g1 g2 g3 g4 g6 g7 g8 ⊢; omega
  · have g0 := g 0 (by omega); have g1 := g 1 (by omega); have g2 := g 2 (by omega); have g3 := g 3 (by omega); have g4 := g 4 (by omega); have g5 := g 5 (by omega); have g7 := g 7 (by omega); have g8 := g 8 (by omega)
    rw [e] at hh hn g0 g1 g2 g3 g4 g5 g7 g8 ⊢; omega
  · have g0 := g 0 (by omega); have g1 := g 1 (by omega); have g2 := g 2 (by omega); have g3 := g 3 (by omega); have g4 := g 4 (by omega); have g5 := g 5 (by omega); have g6 := g 6 (by omega); have g8 := g 8 (by omega)
    rw [e] at hh hn g0 g1 g2 g3 g4 g5 g6 g8 ⊢; omega
  · have g0 := g 0 (by omega); have g1 := g 1 (by omega); have g2 := g 2 (by omega); have g3 := g 3 (by omega); have g4 := g 4 (by omega); have g5 := g 5 (by omega); have g6 := g 6 (by omega); have g7 := g 7 (by omega)
    rw [e] at hh hn g0 g1 g2 g3 g4 g5 g6 g7 ⊢; omega
namespace Land
/-- What holds while a way is gone, from box to box. -/
structure SeenI (w : Land) (s : List Int) (i : Int) : Prop where
  cnt : s.length + leftN s = 9
  rng : ∀ j ∈ s, 0 ≤ j ∧ j < 9 ∧ (w.things.at j).whr = 2 ∧ ((w.things.at j).at_ ∈ s ∨ (w.things.at j).at_ = i)
theorem SeenI.start (w : Land) (i : Int) : SeenI w [] i := ⟨by decide, fun j hj => by simp at hj⟩
theorem SeenI.next {w : Land} {s : List Int} {i : Int} (h : SeenI w s i) (h0 : 0 ≤ i) (h9 : i < 9) (hn : i ∉ s) (hw : (w.things.at i).whr = 2) : SeenI w (s ++ [i]) (w.things.at i).at_ := by
  refine ⟨?_, fun j hj => ?_⟩
  · have := leftN_snoc hn h0 h9
    have := h.cnt
    simp only [List.length_append, List.length_cons, List.length_nil]
    omega
  · rcases List.mem_append.1 hj with hj | hj
    · obtain ⟨a, b, c, d⟩ := h.rng j hj
      refine ⟨a, b, c, ?_⟩
      rcases d with d | d
      · exact .inl (by simp [d])
      · exact .inl (by simp [d])
    · simp at hj; subst hj
      exact ⟨h0, h9, hw, .inr rfl⟩
def rootF (w : Land) : Nat → Int → Bool → Int × Int × Bool × Bool
  | 0, _, _ => (0, 0, false, false)
  | n + 1, i, o =>
    if (decide (0 ≤ i) && decide (i < 9)) = true then
      (if (!decide ((w.things.at i).whr = 2)) = true then ((w.things.at i).whr, (w.things.at i).at_, o, decide ((w.things.at i).whr = 0) || decide ((w.things.at i).whr = 1))
       else rootF w n (w.things.at i).at_ (if (decide (0 ≤ (w.things.at i).at_) && decide ((w.things.at i).at_ < 9)) = true then o && (w.things.at (w.things.at i).at_).on else o))
    else (0, 0, false, false)
def root (w : Land) (i : Int) : Int × Int × Bool × Bool := rootF w 10 i true
theorem rootF_closed {w : Land} {s : List Int} (hs : ∀ j ∈ s, 0 ≤ j ∧ j < 9 ∧ (w.things.at j).whr = 2 ∧ (w.things.at j).at_ ∈ s) : ∀ (n : Nat) (j : Int) (o : Bool), j ∈ s → rootF w n j o = (0, 0, false, false)
  | 0, _, _, _ => rfl
  | n + 1, j, o, hj => by
    obtain ⟨h1, h2, h3, h4⟩ := hs j hj
    have a : (decide (0 ≤ j) && decide (j < 9)) = true := by simp; omega
    rw [rootF, if_pos a, h3, if_neg (by decide)]
    exact rootF_closed hs n _ _ h4
theorem SeenI.closed {w : Land} {s : List Int} {i : Int} (h : SeenI w s i) (hi : i ∈ s) : ∀ j ∈ s, 0 ≤ j ∧ j < 9 ∧ (w.things.at j).whr = 2 ∧ (w.things.at j).at_ ∈ s := fun j hj => by
  obtain ⟨a, b, c, d⟩ := h.rng j hj
  exact ⟨a, b, c, by rcases d with d | d; exact d; rw [d]; exact hi⟩
theorem SeenI.len {w : Land} {s : List Int} {i : Int} (h : SeenI w s i) : s.length ≤ 9 := by have := h.cnt; omega
/-- The way ends: it is gone too far, or in a ring. -/
theorem SeenI.ends {w : Land} {s : List Int} {i : Int} {o : Bool} (h : SeenI w s i) (hc : (decide (0 ≤ i) && decide (i < 9) && !decide (i ∈ s)) = false) : rootF w (10 - s.length) i o = (0, 0, false, false) := by
  have hl := h.len
  by_cases hi : i ∈ s
  · exact rootF_closed (h.closed hi) _ _ _ hi
  · have a : ¬ (decide (0 ≤ i) && decide (i < 9)) = true := by
      intro e
      rw [e] at hc
      simp [hi] at hc
    rw [show 10 - s.length = (9 - s.length) + 1 by omega, rootF, if_neg a]
theorem SeenI.out {w : Land} {s : List Int} {i : Int} {o : Bool} (h : SeenI w s i) (h0 : 0 ≤ i) (h9 : i < 9) (hw : (!decide ((w.things.at i).whr = 2)) = true) : rootF w (10 - s.length) i o = ((w.things.at i).whr, (w.things.at i).at_, o, decide ((w.things.at i).whr = 0) || decide ((w.things.at i).whr = 1)) := by
  have hl := h.len
  have a : (decide (0 ≤ i) && decide (i < 9)) = true := by simp; omega
  rw [show 10 - s.length = (9 - s.length) + 1 by omega, rootF, if_pos a, if_pos hw]
theorem SeenI.step {w : Land} {s : List Int} {i : Int} {o : Bool} (_h : SeenI w s i) (h' : SeenI w (s ++ [i]) (w.things.at i).at_) (h0 : 0 ≤ i) (h9 : i < 9) (hw : (!decide ((w.things.at i).whr = 2)) = false) : rootF w (10 - s.length) i o = rootF w (10 - (s ++ [i]).length) (w.things.at i).at_ (if (decide (0 ≤ (w.things.at i).at_) && decide ((w.things.at i).at_ < 9)) = true then o && (w.things.at (w.things.at i).at_).on else o) := by
  have hl := h'.len
  simp only [List.length_append, List.length_cons, List.length_nil] at hl ⊢
  have a : (decide (0 ≤ i) && decide (i < 9)) = true := by simp; omega
  rw [show 10 - s.length = (10 - (s.length + (0 + 1))) + 1 by omega, rootF, if_pos a, if_neg (by rw [hw]; decide)]
/-- The room of it: the same. -/
def conv (w : Land) (r : Int × Int × Bool × Bool) : Int × Bool :=
  if (r.2.2.2 && decide (r.1 = 1)) = true then (if (decide (r.2.1 < 0) || decide (5 < r.2.1)) = true then (-1, false) else ((w.beings.at r.2.1).room, r.2.2.1))
  else if (!r.2.2.2) = true then (-1, false) else (r.2.1, r.2.2.1)
theorem conv_root (w : Land) : ∀ (n : Nat) (i : Int) (o : Bool), conv w (rootF w n i o) = roomFrom w n i o
  | 0, i, o => rfl
  | n + 1, i, o => by
    rw [rootF, roomFrom]
    by_cases hr : (decide (0 ≤ i) && decide (i < 9)) = true
    · have hr' : ¬ (decide (i < 0) || decide (9 ≤ i)) = true := by simp at hr ⊢; omega
      rw [if_pos hr, if_neg hr']
      by_cases h0 : (w.things.at i).whr = 0
      · simp [h0, conv]
      · by_cases h1 : (w.things.at i).whr = 1
        · have e : (decide ((w.things.at i).at_ < 0) || decide (5 < (w.things.at i).at_)) = (decide ((w.things.at i).at_ < 0) || decide (6 ≤ (w.things.at i).at_)) := by
            rw [Bool.eq_iff_iff]; simp; omega
          simp only [h1, conv, e]
          rfl
        · by_cases h2 : (w.things.at i).whr = 2
          · have e2 : (!decide ((w.things.at i).whr = 2)) = false := by rw [h2]; rfl
            have e0 : decide ((w.things.at i).whr = 0) = false := decide_eq_false h0
            have e1 : decide ((w.things.at i).whr = 1) = false := decide_eq_false h1
            have e22 : decide ((w.things.at i).whr = 2) = true := decide_eq_true h2
            rw [e2, e0, e1, e22]
            simp only [Bool.false_eq_true, if_false, if_true]
            rw [conv_root w n]
            by_cases ha : (decide (0 ≤ (w.things.at i).at_) && decide ((w.things.at i).at_ < 9)) = true
            · rw [if_pos ha, ha]
              cases hon : (w.things.at (w.things.at i).at_).on <;> simp
            · rw [if_neg ha]
              have ha' : (decide (0 ≤ (w.things.at i).at_) && decide ((w.things.at i).at_ < 9)) = false := by simpa using ha
              rw [ha']; rfl
          · simp [h0, h1, h2, conv]
    · have hr' : (decide (i < 0) || decide (9 ≤ i)) = true := by simp at hr ⊢; omega
      rw [if_neg hr, if_pos hr']; rfl
theorem roomOf (w : Land) (i : Int) : conv w (root w i) = w.room i := conv_root w 10 i true
/-! #### inside -/
/-! #### the document's sense -/
theorem bright_step (w : Land) (r k : Int) (c A : Bool) : (c || !(!w.lit r k && A)) = ((c || (decide ((w.things.at k).kind = 1) && (w.things.at k).on && (w.room k).2 && decide ((w.room k).1 = r))) || !A) := by
  unfold lit
  cases c <;> cases A <;> cases decide ((w.things.at k).kind = 1) <;> cases (w.things.at k).on <;> cases (w.room k).2 <;> cases decide ((w.room k).1 = r) <;> rfl
theorem bright_eq {w : Land} {r : Int} (h : (decide (r < 0) || decide (5 < r)) = false) : w.bright r = (!(w.rooms.at r).dark || !(allFrom 9 (fun i => !w.lit r i) 9)) := by
  have h' : (decide (r < 0) || decide (6 ≤ r)) = false := by simp at h ⊢; omega
  unfold bright
  rw [h', if_neg (by decide)]
  cases (w.rooms.at r).dark <;> simp
theorem bright_out {w : Land} {r : Int} (h : (decide (r < 0) || decide (5 < r)) = true) : w.bright r = false := by
  have h' : (decide (r < 0) || decide (6 ≤ r)) = true := by simp at h ⊢; omega
  unfold bright
  rw [h', if_pos rfl]
theorem cloaked_eq (w : Land) (b k : Int) : w.cloaked b k = (decide ((w.things.at k).whr = 1) && decide ((w.things.at k).at_ = b) && decide ((w.things.at k).kind = 2) && (w.things.at k).on) := by
  unfold cloaked
  cases decide ((w.things.at k).kind = 2) <;> cases (w.things.at k).on <;> cases decide ((w.things.at k).whr = 1) <;> cases decide ((w.things.at k).at_ = b) <;> rfl
theorem sees_out {w : Land} {a b : Int} (h : (!w.being a || !w.being b) = true) : w.sees a b = false := if_pos h
theorem sees_eq {w : Land} {a b : Int} (h : (!w.being a || !w.being b) = false) : w.sees a b = (decide (a = b) || (decide ((w.beings.at a).room = (w.beings.at b).room) && w.bright (w.beings.at b).room && (!w.hidden b || (w.beings.at a).keen))) := by
  unfold sees
  rw [h, if_neg (by decide)]
  by_cases e : a = b
  · simp [e]
  · by_cases hr : (w.beings.at a).room = (w.beings.at b).room
    · simp [e, hr, Bool.or_comm]
    · simp [e, hr]
def perceivesR (w : Land) (b : Int) (e : Event) : Int :=
  if (!w.being b) = true then 0
  else if (!decide (b = e.actor) && (decide (e.kind = 16) || !decide ((w.beings.at b).room = e.room))) = true then 0
  else if (!decide (b = e.actor) && !w.sees b e.actor) = true then (if (!decide (e.kind = 7) && !decide (e.kind = 14) && !decide (e.kind = 15)) = true then 0 else if w.unseen b e = true then 3 + 4 else 3)
  else if w.unseen b e = true then 1 + 4 else 1
theorem perceivesR_eq (w : Land) (b : Int) (e : Event) : w.perceivesR b e = w.perceives b e := by
  unfold perceivesR perceives
  by_cases hb : (!w.being b) = true
  · rw [if_pos hb, if_pos hb]
  · rw [if_neg hb, if_neg hb]
    have hl : (!loud e.kind) = (!decide (e.kind = 7) && !decide (e.kind = 14) && !decide (e.kind = 15)) := by
      unfold loud
      cases decide (e.kind = 7) <;> cases decide (e.kind = 14) <;> cases decide (e.kind = 15) <;> rfl
    by_cases ho : b = e.actor
    · have h0 : decide (b = e.actor) = true := decide_eq_true ho
      rw [h0, if_pos rfl]
      have hu : w.unseen b e = !(decide (e.other < 0) || decide (6 ≤ e.other) || w.sees b e.other) := by
        unfold unseen
        rw [show decide (0 ≤ e.other) = !decide (e.other < 0) by rw [Bool.eq_iff_iff]; simp, show decide (e.other < 6) = !decide (6 ≤ e.other) by rw [Bool.eq_iff_iff]; simp]
        cases decide (e.other < 0) <;> cases decide (6 ≤ e.other) <;> cases w.sees b e.other <;> rfl
      rw [hu]
      cases (decide (e.other < 0) || decide (6 ≤ e.other) || w.sees b e.other) <;> rfl
    · have h0 : decide (b = e.actor) = false := decide_eq_false ho
      rw [h0, hl]
      simp only [Bool.not_false, Bool.true_and, Bool.false_eq_true, if_false]
      rfl
end Land
end Go.Ing
/- How the land stands: plain laws. -/
namespace Go.Ing
open Go
namespace Land
def hasL (X : Land) (whr at_ : Int) (n : Nat) : List Int := ((List.range n).map Int.ofNat).filter fun k => decide ((X.things.at k).whr = whr) && decide ((X.things.at k).at_ = at_)
theorem has_eq (X : Land) (whr at_ : Int) : X.has whr at_ = X.hasL whr at_ (9 : Int).toNat := rfl
theorem hasL_len (X : Land) (whr at_ : Int) (n : Nat) : (X.hasL whr at_ n).length ≤ n := by
  unfold hasL
  refine Nat.le_trans (List.length_filter_le _ _) ?_
  simp
theorem hasL_t {X : Land} {whr at_ k : Int} (h : 0 ≤ k) (c : (decide ((X.things.at k).whr = whr) && decide ((X.things.at k).at_ = at_)) = true) : X.hasL whr at_ (k + 1).toNat = X.hasL whr at_ k.toNat ++ [k] := by
  obtain ⟨n, rfl⟩ := Int.eq_ofNat_of_zero_le h
  rw [show ((n : Int) + 1).toNat = n + 1 by omega, show ((n : Int)).toNat = n by omega]
  unfold hasL
  rw [List.range_succ, List.map_append, List.filter_append]
  congr 1
  simp only [List.map_cons, List.map_nil]
  exact (List.filter_cons_of_pos (p := fun k => decide ((X.things.at k).whr = whr) && decide ((X.things.at k).at_ = at_)) (a := (n : Int)) (l := []) c).trans rfl
theorem hasL_f {X : Land} {whr at_ k : Int} (h : 0 ≤ k) (c : (decide ((X.things.at k).whr = whr) && decide ((X.things.at k).at_ = at_)) = false) : X.hasL whr at_ (k + 1).toNat = X.hasL whr at_ k.toNat := by
  obtain ⟨n, rfl⟩ := Int.eq_ofNat_of_zero_le h
  rw [show ((n : Int) + 1).toNat = n + 1 by omega, show ((n : Int)).toNat = n by omega]
  unfold hasL
  rw [List.range_succ, List.map_append, List.filter_append]
  refine Eq.trans (congrArg _ ?_) (List.append_nil _)
  simp only [List.map_cons, List.map_nil]
  exact (List.filter_cons_of_neg (p := fun k => decide ((X.things.at k).whr = whr) && decide ((X.things.at k).at_ = at_)) (a := (n : Int)) (l := []) (fun e => by have := c.symm.trans e; cases this)).trans rfl
/-! #### good, as the document has it -/
def refBadExit (r : Room) (d : Int) : Bool := decide (r.exits.at d < 0) || decide (6 < r.exits.at d) || (r.shut.at d && decide (r.exits.at d = 0))
theorem refBadExit_eq (r : Room) (d : Int) : refBadExit r d = badExit r d := by
  unfold refBadExit badExit; rw [Bool.and_comm (r.shut.at d)]
def refBadBeing (b : Being) : Bool := decide (b.room < 0) || decide (5 < b.room) || decide (b.health < 0) || decide (10 < b.health) || decide (b.foe < 0) || decide (6 < b.foe) || (b.here != !decide (b.health = 0)) || (!b.here && !decide (b.foe = 0))
theorem refBadBeing_eq (b : Being) : refBadBeing b = badBeing b := by
  unfold refBadBeing badBeing
  rw [show decide (6 ≤ b.room) = decide (5 < b.room) from decide_eq_decide.2 ⟨fun _ => by omega, fun _ => by omega⟩]
  by_cases hh : b.health < 0
  · simp [hh]
  · rw [show decide (0 < b.health) = !decide (b.health = 0) from by rw [Bool.eq_iff_iff]; simp; omega]
    cases decide (b.room < 0) <;> cases decide (5 < b.room) <;> cases decide (b.health < 0) <;> cases decide (10 < b.health) <;> cases decide (b.foe < 0) <;> cases decide (6 < b.foe) <;> cases b.here <;> cases decide (b.health = 0) <;> cases decide (b.foe = 0) <;> rfl
def refBadA (X : Land) (t : Thing) : Bool := decide (t.kind < 0) || decide (3 < t.kind) || (decide (t.kind = 0) && t.on) || (decide (t.kind = 2) && t.on && !decide (t.whr = 1)) || (decide (t.whr = 2) && (decide (t.at_ < 0) || decide (8 < t.at_) || !decide ((X.things.at t.at_).kind = 3)))
def refBadB (X : Land) (r : Int × Int × Bool × Bool) : Bool := !r.2.2.2 || (decide (r.1 = 0) && (decide (r.2.1 < 0) || decide (5 < r.2.1))) || (decide (r.1 = 1) && (decide (r.2.1 < 0) || decide (5 < r.2.1) || !(X.beings.at r.2.1).here))
def refThing (X : Land) (i : Int) : Bool := !(X.refBadA (X.things.at i)) && !(X.refBadB (X.root i))
def refRoom (X : Land) (k : Int) : Bool := allFrom 6 (fun d => !refBadExit (X.rooms.at k) d) 6
def refGood (X : Land) : Bool := allFrom 6 X.refRoom 6 && (allFrom 6 (fun k => !refBadBeing (X.beings.at k)) 6 && allFrom 9 X.refThing 9)
theorem out_root {X : Land} : ∀ {n f : Nat} {i : Int} {o : Bool}, 0 ≤ i → i < 9 → Out X n i → n < f → ∃ r o', 0 ≤ r ∧ r < 9 ∧ (X.things.at r).whr ≠ 2 ∧ rootF X f i o = ((X.things.at r).whr, (X.things.at r).at_, o', decide ((X.things.at r).whr = 0) || decide ((X.things.at r).whr = 1))
  | 0, f + 1, i, o, h0, h9, h, _ => by
    have a : (decide (0 ≤ i) && decide (i < 9)) = true := by simp; omega
    have b : (!decide ((X.things.at i).whr = 2)) = true := by have : (X.things.at i).whr ≠ 2 := h; simp [this]
    exact ⟨i, o, h0, h9, h, by rw [rootF, if_pos a, if_pos b]⟩
  | n + 1, f + 1, i, o, h0, h9, h, hf => by
    have a : (decide (0 ≤ i) && decide (i < 9)) = true := by simp; omega
    have b : ¬ (!decide ((X.things.at i).whr = 2)) = true := by have : (X.things.at i).whr = 2 := h.1; simp [this]
    rw [rootF, if_pos a, if_neg b]
    exact out_root h.2.1 h.2.2.1 h.2.2.2 (by omega)
theorem root_climb {X : Land} : ∀ {f : Nat} {i : Int} {o : Bool}, (rootF X f i o).2.2.2 = true → climb X f (X.things.at i) = true
  | 0, i, o, h => by simp [rootF] at h
  | n + 1, i, o, h => by
    rw [rootF] at h
    by_cases a : (decide (0 ≤ i) && decide (i < 9)) = true
    · rw [if_pos a] at h
      rw [climb]
      by_cases b : (!decide ((X.things.at i).whr = 2)) = true
      · rw [if_pos b]
      · rw [if_neg b] at h ⊢
        cases n with
        | zero => simp [rootF] at h
        | succ m =>
          have hr : (decide (0 ≤ (X.things.at i).at_) && decide ((X.things.at i).at_ < 9)) = true := by
            refine Classical.byContradiction fun hn => ?_
            rw [rootF, if_neg hn] at h
            simp at h
          rw [if_neg (by simp at hr ⊢; omega)]
          exact root_climb h
    · rw [if_neg a] at h; simp at h
theorem refThing_of {X : Land} (hg : X.good = true) {i : Int} (h0 : 0 ≤ i) (h9 : i < 9) : X.refThing i = true := by
  have ht := thing_ok (good_thing hg h0 h9)
  obtain ⟨n, hn, ho⟩ := good_out hg h0 h9
  obtain ⟨r, o', r0, r9, rw2, e⟩ := out_root (o := true) h0 h9 ho hn
  have hr := thing_ok (good_thing hg r0 r9)
  have hA : X.refBadA (X.things.at i) = false := by
    have k0 := ht.k0; have k3 := ht.k3; have a0 := ht.a0; have pl := ht.plain
    unfold refBadA
    simp only [Bool.or_eq_false_iff, Bool.and_eq_false_imp, decide_eq_false_iff_not, decide_eq_true_eq, Bool.not_eq_false', Bool.and_eq_true, Bool.not_eq_eq_eq_not, Bool.not_false, and_imp]
    refine ⟨⟨⟨⟨by omega, by omega⟩, pl⟩, fun k2 on => ?_⟩, fun w2 => ?_⟩
    · rcases ht.whr with ⟨_, _, c⟩ | ⟨w, _⟩ | ⟨_, _, _, c, _⟩
      · exact absurd ⟨k2, on⟩ c
      · exact w
      · exact absurd ⟨k2, on⟩ c
    · rcases ht.whr with ⟨w, _⟩ | ⟨w, _⟩ | ⟨_, a, k, _⟩
      · omega
      · omega
      · exact ⟨⟨by omega, by omega⟩, k⟩
  have hB : X.refBadB (X.root i) = false := by
    rw [root, e]
    have a0 := hr.a0
    rcases hr.whr with ⟨w, a, _⟩ | ⟨w, a, b⟩ | ⟨w, _⟩
    · unfold refBadB; simp [w]; omega
    · unfold refBadB; simp [w, b]; omega
    · exact absurd w rw2
  rw [refThing, hA, hB]; rfl
theorem goodThing_of {X : Land} {i : Int} (h0 : 0 ≤ i) (h9 : i < 9) (h : X.refThing i = true) : X.goodThing i = true := by
  unfold refThing at h
  simp only [Bool.and_eq_true, Bool.not_eq_true'] at h
  obtain ⟨hA, hB⟩ := h
  unfold refBadA at hA
  simp only [Bool.or_eq_false_iff, Bool.and_eq_false_imp, decide_eq_false_iff_not, decide_eq_true_eq, Bool.not_eq_false', Bool.and_eq_true, Bool.not_eq_eq_eq_not, Bool.not_false, and_imp] at hA
  obtain ⟨⟨⟨⟨k0, k3⟩, pl⟩, cl⟩, bx⟩ := hA
  have a : (decide (0 ≤ i) && decide (i < 9)) = true := by simp; omega
  by_cases w2 : (X.things.at i).whr = 2
  · have bx := bx w2
    have hc : climb X 10 (X.things.at i) = true := root_climb (o := true) (by
      unfold refBadB at hB
      simp only [Bool.or_eq_false_iff, Bool.not_eq_false'] at hB
      exact hB.1.1)
    unfold goodThing
    have hon : decide ((X.things.at i).kind = 2) = true → (X.things.at i).on = false := fun k2 => by
      cases e : (X.things.at i).on
      · rfl
      · have := cl (of_decide_eq_true k2) e; omega
    rw [if_neg (by simp; exact ⟨⟨⟨by omega, by omega⟩, pl⟩, by omega⟩), if_neg (by simp [w2]), if_neg (by simp [w2]), if_pos (by simp [w2]), if_neg (by simp; exact ⟨⟨by omega, bx.2⟩, fun k2 => hon (decide_eq_true k2)⟩)]
    exact hc
  · have e : X.root i = ((X.things.at i).whr, (X.things.at i).at_, true, decide ((X.things.at i).whr = 0) || decide ((X.things.at i).whr = 1)) := by
      rw [root, rootF, if_pos a, if_pos (by simp [w2])]
    rw [e] at hB
    unfold refBadB at hB
    simp only [Bool.or_eq_false_iff, Bool.and_eq_false_imp, decide_eq_false_iff_not, decide_eq_true_eq, Bool.not_eq_false', Bool.or_eq_true] at hB
    obtain ⟨⟨hw, hb0⟩, hb1⟩ := hB
    unfold goodThing
    rcases hw with w | w
    · have := hb0 w
      have hon : (X.things.at i).kind = 2 → (X.things.at i).on = false := fun k2 => by
        cases e : (X.things.at i).on
        · rfl
        · have := cl k2 e; omega
      rw [if_neg (by simp; exact ⟨⟨⟨by omega, by omega⟩, pl⟩, by omega⟩), if_pos (by simp [w])]
      simp
      exact ⟨by omega, Classical.or_iff_not_imp_left.2 fun h => hon (Classical.not_not.1 h)⟩
    · have := hb1 w
      rw [if_neg (by simp; exact ⟨⟨⟨by omega, by omega⟩, pl⟩, by omega⟩), if_neg (by simp [w]), if_pos (by simp [w])]
      simp
      exact ⟨by omega, this.2⟩
theorem refGood_eq (X : Land) : X.refGood = X.good := by
  have e1 : X.refRoom = X.goodRoom := by
    funext k
    unfold refRoom goodRoom
    exact congrArg (fun f => allFrom 6 f 6) (funext fun d => by rw [refBadExit_eq])
  have e2 : (fun k => !refBadBeing (X.beings.at k)) = fun k => !badBeing (X.beings.at k) := funext fun k => by rw [refBadBeing_eq]
  cases hg : X.good with
  | true =>
    have hg' := hg
    unfold good at hg'
    rw [Bool.and_eq_true, Bool.and_eq_true] at hg'
    unfold refGood
    rw [e1, e2, hg'.1, hg'.2.1]
    simp only [Bool.true_and]
    exact (allFrom_iff 9).2 fun i hi h9 => refThing_of hg (by omega) h9
  | false =>
    cases hr : X.refGood with
    | false => rfl
    | true =>
      unfold refGood at hr
      rw [e1, e2, Bool.and_eq_true, Bool.and_eq_true] at hr
      have : X.good = true := by
        unfold good
        rw [hr.1, hr.2.1]
        simp only [Bool.true_and]
        exact (allFrom_iff 9).2 fun i hi h9 => goodThing_of (by omega) h9 ((allFrom_iff 9).1 hr.2.2 i hi h9)
      rw [hg] at this; cases this
/-! #### the land as the document makes it -/
def names : List Str := [[104, 101, 97, 114, 116, 104], [121, 97, 114, 100], [112, 97, 110, 116, 114, 121], [108, 111, 102, 116], [99, 101, 108, 108, 97, 114], [97, 116, 116, 105, 99]]
end Land
end Go.Ing
/- Engine: the program's own variables, as they are laid when a call begins; the decimal numeral. -/
namespace Go.Ing
open Go
/-- Variable g holds just these cells. -/
def GV (g : Nat) (vs : List Value) (w : World) : Prop := ∃ t fz, w.heap[g]? = some (.cells vs.toArray t fz)
theorem GV.of_old {g : Nat} {vs : List Value} {w w' : World} (h : GV g vs w) (ho : ∀ k, k < w.heap.size → w'.heap[k]? = w.heap[k]?) : GV g vs w' := by
  obtain ⟨t, fz, e⟩ := h
  have hg : g < w.heap.size := by
    rcases Nat.lt_or_ge g w.heap.size with h' | h'
    · exact h'
    · rw [Array.getElem?_eq_none h'] at e; cases e
  exact ⟨t, fz, (ho g hg).trans e⟩
theorem GV.st {g : Nat} {vs : List Value} {w0 w : World} {L : List Res} (h : GV g vs w0) (hS : St w0 [] w L) : GV g vs w := h.of_old fun k hk => hS.old k hk (by simp)
theorem GV.keep {g : Nat} {vs : List Value} {w0 w : World} (h : GV g vs w0) (hK : Keep w0 w) : GV g vs w := h.of_old hK.old
section
variable {P : Program} {n : Nat} {w0 : World} {F : List (Nat × Value)} {L : List Res}
theorem PS_ldGV {T U g o : Nat} {x : Operand} {v : Value} {vs : List Value} (hg : GV g vs w0) (hx : ev F x = some (.pointer (some ⟨g, o, none⟩))) (hT : TyS P T) (hv : vs[o]? = some v) : PS P n w0 [] (.load T x) U F L v L := by
  intro a w hF hS
  obtain ⟨t, fz, e⟩ := hg.st hS
  have hc : w.cell? ⟨g, o, none⟩ = some v := (cell_at e).trans hv
  exact ⟨w, by simp [execOp, hF.ev hx, Instr.loadAt, Instr.sureAddr, loadVar, hT w, hc], rfl, rfl⟩
end
/-- From the row's list. -/
theorem var_gv {P : Program} {w : World} {name : String} {g : Nat} {cs : Array Value} {vs : List Value} (hg : P.globalNamed name = some g) (h : w.var? P name = some cs) (e : cs.toList = vs) : GV g vs w := by
  unfold World.var? at h
  rw [hg] at h
  simp only [Option.bind_some] at h
  split at h
  · rename_i c t fz hh
    injection h with h
    subst h
    exact ⟨t, fz, by rw [hh, ← e]⟩
  · cases h
theorem laid_at {P : Program} {w : World} {name : String} {d : DataW Unit} : ∀ (laid : List (String × DataW Unit)) (ps : List MemPlace), DataW.LaidVars P w laid ps → (name, d) ∈ laid →
    ∃ g t cs fuel p, P.globalNamed name = some g ∧ (P.globals[g]?).map (·.type) = some t ∧ w.var? P name = some cs ∧ DataW.trod (fun _ => ()) P w 0 (fun _ => true) false fuel t cs.toList = some (d, p)
  | [], _, _, hm => by cases hm
  | (n, e) :: r, ps, h, hm => by
    obtain ⟨g, t, cs, fuel, p, q, h1, h2, h3, h4, h5, _⟩ := h
    rcases List.mem_cons.1 hm with hm | hm
    · injection hm with e1 e2
      subst e1; subst e2
      exact ⟨g, t, cs, fuel, p, h1, h2, h3, h4⟩
    · exact laid_at r q h5 hm
/-- The table of texts as a row lists it. -/
def strData {H : Type} (ss : List Str) : DataW H := .agg (ss.map fun s => .lit (.string s))
theorem cells_of_strs {H : Type} {enc : TypeId × Value → H} {P : Program} {w : World} {base : Nat} {sp : Nat → Bool} {held : Bool} {fuel : Nat} {t e : TypeId} {n : Nat} {cs : List Value} {zs : List Str} {p : List MemPlace}
    (ht : P.underlying t = some (.array n e)) (he : P.underlying e = some .string) (hce : P.cellsOf e = 1) (hct : P.cellsOf t = n)
    (h : DataW.trod enc P w base sp held fuel t cs = some (strData zs, p)) : cs = zs.map vstr := by
  obtain ⟨xs, m, _, hx, hl, hlen, hf⟩ := DataW.trod_array ht h
  have hxs : xs.map (·.1) = zs.map fun z => (DataW.lit (.string z) : DataW H) := by
    have := congrArg Prod.fst hx
    simpa [strData] using this.symm
  have hzl : zs.length = n := by
    have := congrArg List.length hxs
    simp at this
    omega
  apply List.ext_getElem?
  intro i
  by_cases hi : i < n
  · have h1 := hf i hi
    rw [hce] at h1
    have h2 : xs[i]? = some xs[i] := List.getElem?_eq_getElem (by omega)
    rw [h2] at h1
    obtain ⟨s, hc, e1, _⟩ := DataW.trod_string he h1
    have h3 : cs[i]? = some (.string s) := by
      have := congrArg (·[0]?) hc
      simpa [List.getElem?_take, List.getElem?_drop] using this
    have h4 : (xs.map (·.1))[i]? = some (DataW.lit (.string s.data.toList) : DataW H) := by
      rw [List.getElem?_map, h2, e1]; rfl
    rw [hxs] at h4
    simp only [List.getElem?_map, Option.map_eq_some_iff, DataW.lit.injEq, Lit.string.injEq] at h4
    obtain ⟨z', hz', rfl⟩ := h4
    rw [h3, List.getElem?_map, hz']
    rfl
  · rw [List.getElem?_eq_none (by omega), List.getElem?_eq_none (by simp; omega)]
theorem gv_strs {P : Program} {w : World} {laid : List (String × DataW Unit)} {name : String} {g : Nat} {t e : TypeId} {n : Nat} {ss : List Str} (hL : laidMet P laid w) (hm : (name, strData ss) ∈ laid) (hg : P.globalNamed name = some g) (hty : (P.globals[g]?).map (·.type) = some t) (ht : P.underlying t = some (.array n e)) (he : P.underlying e = some .string) (hce : P.cellsOf e = 1) (hct : P.cellsOf t = n) : GV g (ss.map vstr) w := by
  obtain ⟨ps, hv, _⟩ := hL
  obtain ⟨g', t', cs, fuel, p, hg', ht', hvar, hd⟩ := laid_at _ _ hv hm
  obtain rfl := Option.some.inj (hg.symm.trans hg')
  obtain rfl := Option.some.inj (hty.symm.trans ht')
  exact var_gv hg hvar (cells_of_strs ht he hce hct hd)
section
variable {P : Program} {n : Nat} {w0 : World} {M : List Nat} {Q : Exit → Go.Act → World → Prop} {F : List (Nat × Value)} {L : List Res}
end
section
open Go.RowKit Go.ChangeShapes Go.WideShapes Go.ChangeAt
variable {H : Type} {enc : TypeId × Value → H} {P : Program} {w : World}
end
end Go.Ing
/- What is told of an event: plain functions. -/
namespace Go.Ing
open Go
namespace Land
def verbs : List Str := [[110, 111, 114, 116, 104], [101, 97, 115, 116], [117, 112], [115, 111, 117, 116, 104], [119, 101, 115, 116], [100, 111, 119, 110], [108, 111, 111, 107], [103, 101, 116], [100, 114, 111, 112], [112, 117, 116], [103, 105, 118, 101], [115, 97, 121], [111, 112, 101, 110], [99, 108, 111, 115, 101], [108, 105, 103, 104, 116], [100, 111, 117, 115, 101], [119, 101, 97, 114], [100, 111, 102, 102], [104, 105, 116], [105, 110, 118, 101, 110, 116, 111, 114, 121], [113, 117, 105, 116]]
def verbsV : List Value := verbs.map vstr
theorem verbs_at {d : Int} (h0 : 0 ≤ d) (h6 : d < 6) : verbsV[0 + d.toNat * 1]? = some (vstr (verbs.getD d.toNat [])) := by
  have : d = 0 ∨ d = 1 ∨ d = 2 ∨ d = 3 ∨ d = 4 ∨ d = 5 := by omega
  rcases this with rfl | rfl | rfl | rfl | rfl | rfl <;> rfl
def called (d : Int) : Str := if (decide (d < 0) || decide (6 ≤ d)) = true then [] else verbs.getD d.toNat []
theorem calledT {d : Int} (h : (decide (0 ≤ d) && decide (d < 6)) = true) : called d = verbs.getD d.toNat [] := if_neg (by simp at h ⊢; omega)
theorem called_len (d : Int) : (called d).length ≤ 20 := by
  unfold called
  split
  · simp
  · rename_i h
    have : d = 0 ∨ d = 1 ∨ d = 2 ∨ d = 3 ∨ d = 4 ∨ d = 5 := by simp at h; omega
    rcases this with rfl | rfl | rfl | rfl | rfl | rfl <;> decide
def form (z : Int) : Str × Str :=
  if decide (z = 1) = true then ([89, 111, 117, 32, 103, 111, 32, 68, 46], [65, 32, 103, 111, 101, 115, 32, 68, 46])
  else if decide (z = 2) = true then ([], [65, 32, 99, 111, 109, 101, 115, 32, 102, 114, 111, 109, 32, 68, 46])
  else if decide (z = 3) = true then ([89, 111, 117, 32, 103, 101, 116, 32, 116, 104, 101, 32, 84, 46], [65, 32, 103, 101, 116, 115, 32, 97, 32, 84, 46])
  else if decide (z = 4) = true then ([89, 111, 117, 32, 100, 114, 111, 112, 32, 116, 104, 101, 32, 84, 46], [65, 32, 100, 114, 111, 112, 115, 32, 97, 32, 84, 46])
  else if decide (z = 5) = true then ([89, 111, 117, 32, 112, 117, 116, 32, 116, 104, 101, 32, 84, 32, 105, 110, 116, 111, 32, 116, 104, 101, 32, 88, 46], [65, 32, 112, 117, 116, 115, 32, 97, 32, 84, 32, 105, 110, 116, 111, 32, 97, 32, 88, 46])
  else if decide (z = 6) = true then ([89, 111, 117, 32, 103, 105, 118, 101, 32, 116, 104, 101, 32, 84, 32, 116, 111, 32, 79, 46], [65, 32, 103, 105, 118, 101, 115, 32, 97, 32, 84, 32, 116, 111, 32, 79, 46])
  else if decide (z = 7) = true then ([89, 111, 117, 32, 115, 97, 121, 58, 32, 88], [65, 32, 115, 97, 121, 115, 58, 32, 88])
  else if decide (z = 8) = true then ([89, 111, 117, 32, 111, 112, 101, 110, 32, 116, 104, 101, 32, 84, 46], [65, 32, 111, 112, 101, 110, 115, 32, 97, 32, 84, 46])
  else if decide (z = 9) = true then ([89, 111, 117, 32, 99, 108, 111, 115, 101, 32, 116, 104, 101, 32, 84, 46], [65, 32, 99, 108, 111, 115, 101, 115, 32, 97, 32, 84, 46])
  else if decide (z = 10) = true then ([89, 111, 117, 32, 108, 105, 103, 104, 116, 32, 116, 104, 101, 32, 84, 46], [65, 32, 108, 105, 103, 104, 116, 115, 32, 97, 32, 84, 46])
  else if decide (z = 11) = true then ([89, 111, 117, 32, 100, 111, 117, 115, 101, 32, 116, 104, 101, 32, 84, 46], [65, 32, 100, 111, 117, 115, 101, 115, 32, 97, 32, 84, 46])
  else if decide (z = 12) = true then ([89, 111, 117, 32, 112, 117, 116, 32, 111, 110, 32, 116, 104, 101, 32, 84, 46], [65, 32, 112, 117, 116, 115, 32, 111, 110, 32, 97, 32, 84, 46])
  else if decide (z = 13) = true then ([89, 111, 117, 32, 116, 97, 107, 101, 32, 111, 102, 102, 32, 116, 104, 101, 32, 84, 46], [65, 32, 116, 97, 107, 101, 115, 32, 111, 102, 102, 32, 97, 32, 84, 46])
  else if decide (z = 14) = true then ([89, 111, 117, 32, 104, 105, 116, 32, 79, 32, 102, 111, 114, 32, 78, 46], [65, 32, 104, 105, 116, 115, 32, 79, 32, 102, 111, 114, 32, 78, 46])
  else if decide (z = 15) = true then ([89, 111, 117, 32, 100, 105, 101, 46], [65, 32, 100, 105, 101, 115, 46])
  else if decide (z = 16) = true then ([88], [])
  else if decide (z = 17) = true then ([66, 101, 32, 119, 101, 108, 99, 111, 109, 101, 46], [65, 32, 97, 114, 114, 105, 118, 101, 115, 46])
  else if decide (z = 18) = true then ([], [65, 32, 102, 97, 100, 101, 115, 46])
  else ([], [])
/-- 'x & k' as the model has it. -/
def band (x k : Int) : Int := IntKind.i64.wrap ((BitVec.ofInt IntKind.i64.bits x &&& BitVec.ofInt IntKind.i64.bits k).toNat : Int)
def someone : Str := [115, 111, 109, 101, 111, 110, 101]
def you : Str := [121, 111, 117]
def single (t : Str) (i : Int) : Bool := (decide (i = 0) || decide (((t.getD (i - 1).toNat 0).toNat : Int) = 32)) && (decide (i + 1 = (t.length : Int)) || decide (((t.getD (i + 1).toNat 0).toNat : Int) = 32) || decide (((t.getD (i + 1).toNat 0).toNat : Int) = 46))
def piece (e : Event) (who whom t : Str) (i : Int) : Str :=
  if (!single t i) = true then [t.getD i.toNat 0]
  else if decide (((t.getD i.toNat 0).toNat : Int) = 65) = true then who
  else if decide (((t.getD i.toNat 0).toNat : Int) = 79) = true then whom
  else if decide (((t.getD i.toNat 0).toNat : Int) = 84) = true then e.thing
  else if decide (((t.getD i.toNat 0).toNat : Int) = 68) = true then called e.dir
  else if decide (((t.getD i.toNat 0).toNat : Int) = 88) = true then e.text
  else if decide (((t.getD i.toNat 0).toNat : Int) = 78) = true then Lib.itoa e.n
  else [t.getD i.toNat 0]
def told (e : Event) (who whom t : Str) : Nat → Str
  | 0 => []
  | k + 1 => told e who whom t k ++ piece e who whom t k
def textOf (e : Event) (b : Int) : Str := if decide (b = e.actor) = true then (form e.kind).1 else (form e.kind).2
def whoOf (e : Event) (b : Int) : Str := if (!decide (band (e.by_.at b) 2 = 0)) = true then someone else e.who
def whomA (e : Event) (b : Int) : Str := if (!decide (band (e.by_.at b) 4 = 0)) = true then someone else e.whom
def whomOf (e : Event) (b : Int) : Str := if decide (b = e.other) = true then you else whomA e b
def tell (e : Event) (b : Int) : Str × Bool :=
  if (decide (b < 0) || decide (6 ≤ b) || decide (band (e.by_.at b) 1 = 0)) = true then ([], false)
  else if decide (textOf e b = []) = true then ([], false)
  else (told e (whoOf e b) (whomOf e b) (textOf e b) (textOf e b).length, true)
/-- The sizes of what may be said. -/
structure Small (e : Event) : Prop where
  who : e.who.length ≤ 2000000
  whom : e.whom.length ≤ 2000000
  thing : e.thing.length ≤ 2000000
  text : e.text.length ≤ 2000000
  n0 : -9223372036854775808 ≤ e.n
  n1 : e.n ≤ 9223372036854775807
end Land
end Go.Ing
/- What is told: two roads, and whom it does not name. -/
namespace Go.Ing
open Go
namespace Land
/-! #### said outright, kind by kind -/
section
variable {e : Event} {a o : Str}
end
end Land
end Go.Ing
/- Engine: slices that are made, and written element by element. -/
namespace Go.Ing
open Go
section
variable {P : Program} {n : Nat} {w0 : World} {M : List Nat} {Q : Exit → Go.Act → World → Prop} {F F' : List (Nat × Value)} {L L' : List Res} {ops : Array Oper} {rest : List Oper}
end
end Go.Ing
/- Engine: errors; the numeral that is read. -/
namespace Go.Ing
open Go
/-- Variable g holds some error. -/
def GVE (g : Nat) (w : World) : Prop := ∃ tp p, GV g [.iface tp p] w
theorem GVE.st {g : Nat} {w0 w : World} {L : List Res} (h : GVE g w0) (hS : St w0 [] w L) : GVE g w := by
  obtain ⟨tp, p, h⟩ := h; exact ⟨tp, p, h.st hS⟩
section
variable {P : Program} {n : Nat} {w0 : World} {M : List Nat} {F : List (Nat × Value)} {L : List Res}
end
theorem trod_iface {H : Type} {enc : TypeId × Value → H} {P : Program} {w : World} {base : Nat} {sp : Nat → Bool} {held : Bool} {fuel t : Nat} {cs : List Value} {ms : Array (String × TypeId)} {nm : String} {d : DataW H} {p : List MemPlace} (hu : P.underlying t = some (.interface ms)) (h : DataW.trod enc P w base sp held fuel t cs = some (.iface nm d, p)) : ∃ u v, cs = [.iface u v] := by
  cases fuel with
  | zero => simp [DataW.trod] at h
  | succ n =>
    unfold DataW.trod at h
    rw [hu] at h
    split at h <;> simp_all
theorem gve {P : Program} {w : World} {laid : List (String × DataW Unit)} {name : String} {d d' : DataW Unit} {nm : String} {g : Nat} {t : TypeId} {ms : Array (String × TypeId)} (hL : laidMet P laid w) (hm : (name, d) ∈ laid) (hd : d = .iface nm d') (hg : P.globalNamed name = some g) (hty : (P.globals[g]?).map (·.type) = some t) (ht : P.underlying t = some (.interface ms)) : GVE g w := by
  subst hd
  obtain ⟨ps, hv, _⟩ := hL
  obtain ⟨g', t', cs, fuel, p, hg', ht', hvar, h⟩ := laid_at _ _ hv hm
  obtain rfl := Option.some.inj (hg.symm.trans hg')
  obtain rfl := Option.some.inj (hty.symm.trans ht')
  obtain ⟨u, v, e⟩ := trod_iface ht h
  exact ⟨u, v, var_gv hg hvar e⟩
end Go.Ing
