/- What the functions that the law TelnetParts reaches compute, and the plain laws of it. No condition. -/
import Derived.Test.YtnpbkbianmogoaaEc1
set_option linter.unusedSimpArgs false
set_option linter.unusedVariables false
/- The plain functions of the telnet codec. -/
namespace Go.Ing
open Go
def u8 (n : Int) : UInt8 := UInt8.ofNat n.toNat
theorem u8_val {n : Int} (h0 : 0 ≤ n) (h1 : n ≤ 255) : ((u8 n).toNat : Int) = n := by
  simp [u8]; omega
namespace Telnet
def badOpt (t : Telnet) (i : Int) : Bool := decide (t.us.at i < 0) || decide (2 < t.us.at i) || decide (t.them.at i < 0) || decide (2 < t.them.at i)
def goodA (t : Telnet) : Bool :=
  decide (0 ≤ t.at_) && decide (t.at_ ≤ 4) && (decide (t.at_ = 2) == !decide (t.verb = 0)) && (decide (t.verb = 0) || (decide (251 ≤ t.verb) && decide (t.verb ≤ 254))) && decide ((t.sub.length : Int) ≤ 16) && (decide (3 ≤ t.at_) || decide (t.sub = [])) && decide (0 ≤ t.height) && decide (t.height ≤ 200)
def good (t : Telnet) : Bool := allFrom 3 (fun i => !t.badOpt i) 3 && (!(!decide (t.us.at 2 = 0) || !decide (t.them.at 0 = 0)) && t.goodA)
def place (opt : Int) : Int × Bool × Bool := if decide (opt = 1) = true then (0, true, false) else if decide (opt = 3) = true then (1, true, true) else if decide (opt = 31) = true then (2, false, true) else (-1, false, false)
def say (verb opt : Int) : Str := [255, u8 verb, u8 opt]
def turnS (was : Int) (on : Bool) (opt yes no : Int) : Str := if (on && decide (was = 0)) = true then say yes opt else if (!on && decide (was = 1)) = true then say no opt else []
def onI (on : Bool) : Int := if on = true then 1 else 0
def turnUs (t : Telnet) (k : Int) (on : Bool) : Telnet := { t with us := t.us.put k (onI on) }
def turnThem (t : Telnet) (k : Int) (on : Bool) : Telnet := { t with them := t.them.put k (onI on) }
def negotiate (t : Telnet) (verb opt : Int) : Telnet × Str :=
  let k := (place opt).1
  if decide (verb = 253) = true then (if (!(place opt).2.1) = true then (t, say 252 opt) else (t.turnUs k true, turnS (t.us.at k) true opt 251 252))
  else if decide (verb = 254) = true then (if (place opt).2.1 = true then (t.turnUs k false, turnS (t.us.at k) false opt 251 252) else (t, []))
  else if decide (verb = 251) = true then (if (!(place opt).2.2) = true then (t, say 254 opt) else (t.turnThem k true, turnS (t.them.at k) true opt 253 254))
  else if decide (verb = 252) = true then (if (place opt).2.2 = true then (t.turnThem k false, turnS (t.them.at k) false opt 253 254) else (t, []))
  else (t, [])
def collect (t : Telnet) (b : UInt8) : Telnet := if decide ((t.sub.length : Int) < 16) = true then { t with sub := t.sub ++ [b] } else t
def byteAt (s : Str) (i : Int) : Int := ((s.getD i.toNat 0).toNat : Int)
def measure (t : Telnet) : Telnet :=
  if (decide ((t.sub.length : Int) = 5) && decide (byteAt t.sub 0 = 31) && decide (t.them.at 2 = 1)) = true then { t with height := min (byteAt t.sub 3 * 256 + byteAt t.sub 4) 200 } else t
/-- One byte: the codec behind it, what is text, what is answered. -/
def step (t : Telnet) (b : UInt8) : Telnet × Str × Str :=
  let c : Int := (b.toNat : Int)
  if decide (t.at_ = 0) = true then (if decide (c = 255) = true then ({ t with at_ := 1 }, [], []) else (t, [b], []))
  else if decide (t.at_ = 1) = true then
    (if decide (c = 255) = true then ({ t with at_ := 0 }, [b], [])
     else if decide (c = 250) = true then ({ t with at_ := 3 }, [], [])
     else if decide (251 ≤ c) = true then ({ t with at_ := 2, verb := c }, [], [])
     else ({ t with at_ := 0 }, [], []))
  else if decide (t.at_ = 2) = true then ({ (t.negotiate t.verb c).1 with at_ := 0, verb := 0 }, [], (t.negotiate t.verb c).2)
  else if decide (t.at_ = 3) = true then (if decide (c = 255) = true then ({ t with at_ := 4 }, [], []) else (t.collect b, [], []))
  else if decide (t.at_ = 4) = true then
    (if decide (c = 255) = true then (collect { t with at_ := 3 } b, [], [])
     else if decide (c = 240) = true then ({ t.measure with at_ := 0, sub := [] }, [], [])
     else ({ t with at_ := 0, sub := [] }, [], []))
  else (t, [], [])
def feed : Telnet → Str → Telnet × Str × Str
  | t, [] => (t, [], [])
  | t, b :: s => ((feed (t.step b).1 s).1, (t.step b).2.1 ++ (feed (t.step b).1 s).2.1, (t.step b).2.2 ++ (feed (t.step b).1 s).2.2)
def Feed (t : Telnet) (s : Str) : Telnet × Str × Str × Int := if (!t.good) = true then (t, [], [], 2) else ((t.feed s).1, (t.feed s).2.1, (t.feed s).2.2, 0)
def Offer (t : Telnet) (opt : Int) : Telnet × Str × Int :=
  if (!t.good) = true then (t, [], 2) else if (!(place opt).2.1) = true then (t, [], 3) else if (!decide (t.us.at (place opt).1 = 0)) = true then (t, [], 0)
  else ({ t with us := t.us.put (place opt).1 2 }, say 251 opt, 0)
def Ask (t : Telnet) (opt : Int) : Telnet × Str × Int :=
  if (!t.good) = true then (t, [], 2) else if (!(place opt).2.2) = true then (t, [], 3) else if (!decide (t.them.at (place opt).1 = 0)) = true then (t, [], 0)
  else ({ t with them := t.them.put (place opt).1 2 }, say 253 opt, 0)
theorem place_us {opt : Int} (h : (place opt).2.1 = true) : (opt = 1 ∧ place opt = (0, true, false)) ∨ (opt = 3 ∧ place opt = (1, true, true)) := by
  unfold place at *
  repeat' split at h
  all_goals simp_all
theorem place_them {opt : Int} (h : (place opt).2.2 = true) : (opt = 3 ∧ place opt = (1, true, true)) ∨ (opt = 31 ∧ place opt = (2, false, true)) := by
  unfold place at *
  repeat' split at h
  all_goals simp_all
theorem turnS_len (w : Int) (on : Bool) (o y n : Int) : (turnS w on o y n).length ≤ 3 := by
  unfold turnS say; repeat' split
  all_goals simp
theorem negotiate_len (t : Telnet) (v o : Int) : (t.negotiate v o).2.length ≤ 3 := by
  unfold negotiate; dsimp only
  repeat' split
  all_goals try exact turnS_len _ _ _ _ _
  all_goals try simp [say]
  all_goals exact turnS_len _ _ _ _ _
theorem negotiate_sub (t : Telnet) (v o : Int) : (t.negotiate v o).1.sub = t.sub := by
  unfold negotiate; dsimp only
  repeat' split
  all_goals rfl
theorem collect_sub (t : Telnet) (b : UInt8) (h : t.sub.length ≤ 16) : (t.collect b).sub.length ≤ 16 := by
  unfold collect; split
  · rename_i h1; simp at h1 ⊢; omega
  · exact h
theorem step_sub (t : Telnet) (b : UInt8) (h : t.sub.length ≤ 16) : (t.step b).1.sub.length ≤ 16 := by
  unfold step; dsimp only
  repeat' split
  all_goals first | exact h | exact collect_sub _ _ h | (simp; done) | (rw [negotiate_sub]; exact h)
theorem step_len (t : Telnet) (b : UInt8) : (t.step b).2.1.length ≤ 1 ∧ (t.step b).2.2.length ≤ 3 := by
  unfold step; dsimp only
  repeat' split
  all_goals first | (simp; done) | (exact ⟨by simp, negotiate_len _ _ _⟩)
/-- What holds while bytes are fed: 'k' of them are behind. -/
structure FeedI (X : Telnet) (u : Str) (k : Int) (t : Telnet) (x y : Str) : Prop where
  k0 : 0 ≤ k
  k1 : k ≤ u.length
  sub : t.sub.length ≤ 16
  xl : (x.length : Int) ≤ k
  yl : (y.length : Int) ≤ 3 * k
  e1 : (X.feed u).1 = (t.feed (u.drop k.toNat)).1
  e2 : (X.feed u).2.1 = x ++ (t.feed (u.drop k.toNat)).2.1
  e3 : (X.feed u).2.2 = y ++ (t.feed (u.drop k.toNat)).2.2
theorem drop_getD {u : Str} {k : Int} (h0 : 0 ≤ k) (h1 : k < u.length) : u.drop k.toNat = u.getD k.toNat 0 :: u.drop (k + 1).toNat := by
  have hk : k.toNat < u.length := by omega
  rw [List.drop_eq_getElem_cons hk, show (k + 1).toNat = k.toNat + 1 by omega]
  simp [List.getD, hk]
theorem FeedI.start {X : Telnet} {u : Str} (h : X.sub.length ≤ 16) : FeedI X u 0 X [] [] := ⟨by omega, by omega, h, by simp, by simp, rfl, rfl, rfl⟩
theorem FeedI.next {X t t' : Telnet} {u x y x' y' : Str} {k : Int} (h : FeedI X u k t x y) (hk : k < u.length) (ht : t' = (t.step (u.getD k.toNat 0)).1) (hx : x' = x ++ (t.step (u.getD k.toNat 0)).2.1) (hy : y' = y ++ (t.step (u.getD k.toNat 0)).2.2) : FeedI X u (k + 1) t' x' y' := by
  have hd := drop_getD h.k0 hk
  have hl := step_len t (u.getD k.toNat 0)
  have h1 := h.xl
  have h2 := h.yl
  have h0 := h.k0
  subst ht; subst hx; subst hy
  refine ⟨by omega, by omega, step_sub _ _ h.sub, by simp only [List.length_append]; omega, by simp only [List.length_append]; omega, ?_, ?_, ?_⟩
  · rw [h.e1, hd]; rfl
  · rw [h.e2, hd, List.append_assoc]; rfl
  · rw [h.e3, hd, List.append_assoc]; rfl
theorem FeedI.done {X t : Telnet} {u x y : Str} {k : Int} (h : FeedI X u k t x y) (hk : ¬ k < u.length) : X.feed u = (t, x, y) := by
  have h1 := h.k1
  have hk' : k.toNat = u.length := by omega
  have e1 := h.e1
  have e2 := h.e2
  have e3 := h.e3
  rw [hk', List.drop_length] at e1 e2 e3
  simp only [feed, List.append_nil] at e1 e2 e3
  rw [← e1, ← e2, ← e3]
theorem good_sub {t : Telnet} (h : t.good = true) : t.sub.length ≤ 16 := by
  simp only [good, goodA, Bool.and_eq_true, decide_eq_true_eq] at h
  omega
def bytesOf (xs : List Int) : Str := xs.map u8
theorem getD_mem {xs : List Int} {k : Nat} (h : k < xs.length) : xs.getD k 0 ∈ xs := by
  simp [List.getD, h]
theorem bytesOf_drop {xs : List Int} {k : Int} (h0 : 0 ≤ k) (h1 : k < xs.length) : bytesOf (xs.drop k.toNat) = [u8 (xs.getD k.toNat 0)] ++ bytesOf (xs.drop (k + 1).toNat) := by
  have hk : k.toNat < xs.length := by omega
  rw [List.drop_eq_getElem_cons hk, show (k + 1).toNat = k.toNat + 1 by omega]
  show u8 _ :: _ = u8 _ :: _
  simp [List.getD, hk, bytesOf]
def badOptR (t : Telnet) (i : Int) : Bool := decide (t.us.at i < 0) || decide (2 < t.us.at i) || decide (t.them.at i < 0) || decide (2 < t.them.at i)
def refGoodA (t : Telnet) : Bool :=
  if (!decide (t.us.at 2 = 0) || !decide (t.them.at 0 = 0) || decide (t.height < 0) || decide (200 < t.height) || decide (16 < (t.sub.length : Int))) = true then false
  else if decide (t.at_ = 0) = true then decide (t.verb = 0) && decide (t.sub = [])
  else if decide (t.at_ = 1) = true then decide (t.verb = 0) && decide (t.sub = [])
  else if decide (t.at_ = 2) = true then decide (251 ≤ t.verb) && decide (t.verb ≤ 254) && decide (t.sub = [])
  else if decide (t.at_ = 3) = true then decide (t.verb = 0)
  else if decide (t.at_ = 4) = true then decide (t.verb = 0)
  else false
def refGood (t : Telnet) : Bool := allFrom 3 (fun i => !t.badOptR i) 3 && t.refGoodA
theorem refGood_eq (t : Telnet) : t.refGood = t.good := by
  unfold refGood good
  congr 1
  rw [Bool.eq_iff_iff]
  unfold refGoodA goodA
  repeat' split
  all_goals simp_all
  all_goals omega
end Telnet
end Go.Ing
/- The plain laws of the telnet codec. -/
namespace Go.Ing
open Go
theorem at_put {α : Type} [Inhabited α] {n : Nat} (v : Vector α n) (k i : Int) (x : α) (hk : 0 ≤ k) (hk' : k < n) (hi : 0 ≤ i) : (v.put k x).at i = if i = k then x else v.at i := by
  simp only [Vector.at, Vector.put, Vector.toList_setIfInBounds, List.getD_eq_getElem?_getD, List.getElem?_set, Vector.length_toList]
  by_cases h : k.toNat = i.toNat
  · rw [if_pos h, if_pos (by omega), if_pos (by omega)]; rfl
  · rw [if_neg h, if_neg (by omega)]
namespace Telnet
theorem feed_append (t : Telnet) (a b : Str) : t.feed (a ++ b) = (((t.feed a).1.feed b).1, (t.feed a).2.1 ++ ((t.feed a).1.feed b).2.1, (t.feed a).2.2 ++ ((t.feed a).1.feed b).2.2) := by
  induction a generalizing t with
  | nil => simp [feed]
  | cons c a ih => simp only [List.cons_append, feed, ih, List.append_assoc]
def okA (t : Telnet) : Prop := (0 ≤ t.us.at 0 ∧ t.us.at 0 ≤ 2 ∧ 0 ≤ t.us.at 1 ∧ t.us.at 1 ≤ 2 ∧ t.us.at 2 = 0) ∧ (t.them.at 0 = 0 ∧ 0 ≤ t.them.at 1 ∧ t.them.at 1 ≤ 2 ∧ 0 ≤ t.them.at 2 ∧ t.them.at 2 ≤ 2)
def okB (t : Telnet) : Prop := 0 ≤ t.at_ ∧ t.at_ ≤ 4 ∧ (t.at_ = 2 ↔ t.verb ≠ 0) ∧ (t.verb = 0 ∨ 251 ≤ t.verb ∧ t.verb ≤ 254) ∧ t.sub.length ≤ 16 ∧ (3 ≤ t.at_ ∨ t.sub = []) ∧ 0 ≤ t.height ∧ t.height ≤ 200
theorem good_iff (t : Telnet) : t.good = true ↔ t.okA ∧ t.okB := by
  have e : t.goodA = true ↔ t.okB := by
    simp only [goodA, okB, Bool.and_eq_true, decide_eq_true_eq, Bool.or_eq_true, beq_iff_eq]
    have : (decide (t.at_ = 2) = !decide (t.verb = 0)) ↔ (t.at_ = 2 ↔ t.verb ≠ 0) := by
      by_cases h1 : t.at_ = 2 <;> by_cases h2 : t.verb = 0 <;> simp [h1, h2]
    rw [this]
    constructor
    · rintro ⟨⟨⟨⟨⟨⟨⟨h1, h2⟩, h3⟩, h4⟩, h5⟩, h6⟩, h7⟩, h8⟩; exact ⟨h1, h2, h3, h4, by omega, h6, h7, h8⟩
    · rintro ⟨h1, h2, h3, h4, h5, h6, h7, h8⟩; exact ⟨⟨⟨⟨⟨⟨⟨h1, h2⟩, h3⟩, h4⟩, by omega⟩, h6⟩, h7⟩, h8⟩
  rw [← e]
  simp only [good, allFrom, badOpt, okA, Bool.and_eq_true]
  simp
  generalize t.goodA = g
  constructor
  · intro h; exact ⟨by omega, h.2.2⟩
  · intro h; exact ⟨by omega, by omega, h.2⟩
theorem negotiate_same (t : Telnet) (v o : Int) : (t.negotiate v o).1.at_ = t.at_ ∧ (t.negotiate v o).1.verb = t.verb ∧ (t.negotiate v o).1.sub = t.sub ∧ (t.negotiate v o).1.height = t.height := by
  unfold negotiate; dsimp only
  repeat' split
  all_goals exact ⟨rfl, rfl, rfl, rfl⟩
theorem onI_le (b : Bool) : 0 ≤ onI b ∧ onI b ≤ 2 := by cases b <;> decide
theorem turnUs_ok {t : Telnet} (h : t.okA) {o : Int} (b : Bool) (hp : (place o).2.1 = true) : (t.turnUs (place o).1 b).okA := by
  obtain ⟨⟨h1, h2, h3, h4, h5⟩, h6⟩ := h
  have hb := onI_le b
  refine ⟨?_, h6⟩
  show 0 ≤ (t.us.put _ _).at 0 ∧ (t.us.put _ _).at 0 ≤ 2 ∧ 0 ≤ (t.us.put _ _).at 1 ∧ (t.us.put _ _).at 1 ≤ 2 ∧ (t.us.put _ _).at 2 = 0
  rcases place_us hp with ⟨_, e⟩ | ⟨_, e⟩ <;> rw [e] <;> simp [at_put] <;> omega
theorem turnThem_ok {t : Telnet} (h : t.okA) {o : Int} (b : Bool) (hp : (place o).2.2 = true) : (t.turnThem (place o).1 b).okA := by
  obtain ⟨h6, ⟨h1, h2, h3, h4, h5⟩⟩ := h
  have hb := onI_le b
  refine ⟨h6, ?_⟩
  show (t.them.put _ _).at 0 = 0 ∧ 0 ≤ (t.them.put _ _).at 1 ∧ (t.them.put _ _).at 1 ≤ 2 ∧ 0 ≤ (t.them.put _ _).at 2 ∧ (t.them.put _ _).at 2 ≤ 2
  rcases place_them hp with ⟨_, e⟩ | ⟨_, e⟩ <;> rw [e] <;> simp [at_put] <;> omega
theorem negotiate_ok {t : Telnet} (h : t.okA) (v o : Int) : (t.negotiate v o).1.okA := by
  unfold negotiate; dsimp only
  repeat' split
  all_goals first | exact h | (rename_i hp; exact turnUs_ok h _ (by simpa using hp)) | (rename_i hp; exact turnThem_ok h _ (by simpa using hp))
theorem collect_ok {t : Telnet} (h : t.okA) (b : UInt8) : (t.collect b).okA := by
  unfold collect; split <;> exact h
theorem collect_same (t : Telnet) (b : UInt8) : (t.collect b).at_ = t.at_ ∧ (t.collect b).verb = t.verb ∧ (t.collect b).height = t.height := by
  unfold collect; split <;> exact ⟨rfl, rfl, rfl⟩
theorem measure_ok {t : Telnet} (h : t.okA) : t.measure.okA := by
  unfold measure; split <;> exact h
theorem byteAt_le (s : Str) (i : Int) : 0 ≤ byteAt s i ∧ byteAt s i ≤ 255 := by
  have := (s.getD i.toNat 0).toNat_lt
  unfold byteAt; omega
theorem measure_same (t : Telnet) (h : 0 ≤ t.height ∧ t.height ≤ 200) : t.measure.at_ = t.at_ ∧ t.measure.verb = t.verb ∧ 0 ≤ t.measure.height ∧ t.measure.height ≤ 200 := by
  unfold measure
  split
  · refine ⟨rfl, rfl, ?_, ?_⟩
    · have h1 := byteAt_le t.sub 3; have h2 := byteAt_le t.sub 4
      show 0 ≤ min _ _; omega
    · show min _ _ ≤ 200; omega
  · exact ⟨rfl, rfl, h⟩
theorem step_good {t : Telnet} (h : t.good = true) (b : UInt8) : (t.step b).1.good = true := by
  rw [good_iff] at h ⊢
  obtain ⟨hA, h1, h2, h3, h4, h5, h6, h7, h8⟩ := h
  have hb := b.toNat_lt
  unfold step; dsimp only
  repeat' split
  all_goals simp only [decide_eq_true_eq] at *
  · exact ⟨hA, by unfold okB; dsimp only; exact ⟨by omega, by omega, by omega, by omega, h5, h6.imp (by omega) id, h7, h8⟩⟩
  · exact ⟨hA, h1, h2, h3, h4, h5, h6, h7, h8⟩
  · exact ⟨hA, by unfold okB; dsimp only; exact ⟨by omega, by omega, by omega, by omega, h5, h6.imp (by omega) id, h7, h8⟩⟩
  · exact ⟨hA, by unfold okB; dsimp only; exact ⟨by omega, by omega, by omega, by omega, h5, .inl (by omega), h7, h8⟩⟩
  · exact ⟨hA, by unfold okB; dsimp only; exact ⟨by omega, by omega, by omega, by omega, h5, h6.imp (by omega) id, h7, h8⟩⟩
  · exact ⟨hA, by unfold okB; dsimp only; exact ⟨by omega, by omega, by omega, by omega, h5, h6.imp (by omega) id, h7, h8⟩⟩
  · obtain ⟨n1, n2, n3, n4⟩ := negotiate_same t t.verb (b.toNat : Int)
    refine ⟨negotiate_ok hA _ _, ?_⟩
    unfold okB; dsimp only
    rw [n3, n4]
    exact ⟨by omega, by omega, by omega, by omega, h5, h6.imp (by omega) id, h7, h8⟩
  · exact ⟨hA, by unfold okB; dsimp only; exact ⟨by omega, by omega, by omega, by omega, h5, .inl (by omega), h7, h8⟩⟩
  · obtain ⟨n1, n2, n3⟩ := collect_same t b
    refine ⟨collect_ok hA _, ?_⟩
    unfold okB
    rw [n1, n2, n3]
    exact ⟨by omega, by omega, by omega, by omega, collect_sub _ _ h5, .inl (by omega), h7, h8⟩
  · obtain ⟨n1, n2, n3⟩ := collect_same { t with at_ := 3 } b
    refine ⟨collect_ok (t := { t with at_ := 3 }) hA _, ?_⟩
    unfold okB
    rw [n1, n2, n3]
    exact ⟨by show (0 : Int) ≤ 3; decide, by show (3 : Int) ≤ 4; decide, by simp; omega, by simp; omega, collect_sub _ _ h5, .inl (by show (3 : Int) ≤ 3; decide), h7, h8⟩
  · obtain ⟨n1, n2, n3⟩ := measure_same t ⟨h7, h8⟩
    refine ⟨measure_ok hA, ?_⟩
    unfold okB; dsimp only
    exact ⟨by omega, by omega, by omega, by omega, by simp, .inr rfl, n3⟩
  · exact ⟨hA, by unfold okB; dsimp only; exact ⟨by omega, by omega, by omega, by omega, by simp, .inr rfl, h7, h8⟩⟩
  · exact ⟨hA, h1, h2, h3, h4, h5, h6, h7, h8⟩
theorem feed_good (u : Str) : ∀ {t : Telnet}, t.good = true → (t.feed u).1.good = true := by
  induction u with
  | nil => intro t h; exact h
  | cons b u ih => intro t h; exact ih (step_good h b)
theorem parts_ok (X : Telnet) (a b : Str) (h : (!decide ((X.Feed a).2.2.2 = 0) || !true) = false) :
    (decide (((X.Feed a).1.Feed b).2.2.2 = 0) && decide ((X.Feed (a ++ b)).2.2.2 = 0) && decide (((X.Feed a).1.Feed b).1 = (X.Feed (a ++ b)).1) && decide ((X.Feed a).2.1 ++ ((X.Feed a).1.Feed b).2.1 = (X.Feed (a ++ b)).2.1) && decide ((X.Feed a).2.2.1 ++ ((X.Feed a).1.Feed b).2.2.1 = (X.Feed (a ++ b)).2.2.1) && (X.Feed (a ++ b)).1.good) = true := by
  cases hg : X.good with
  | false => simp [Feed, hg] at h
  | true =>
    have h1 : ∀ u, X.Feed u = ((X.feed u).1, (X.feed u).2.1, (X.feed u).2.2, 0) := fun u => by simp [Feed, hg]
    have h2 : ∀ v, (X.feed a).1.Feed v = (((X.feed a).1.feed v).1, ((X.feed a).1.feed v).2.1, ((X.feed a).1.feed v).2.2, 0) := fun v => by simp [Feed, feed_good a hg]
    have h3 := feed_good (a ++ b) hg
    simp only [h1, h2]
    rw [h3]
    simp [feed_append]
theorem parts_bad (X : Telnet) (a b : Str) (h : (!decide ((X.Feed a).2.2.2 = 0) || !true) = true) :
    (decide ((X.Feed a).2.2.2 = 2) && decide ((X.Feed a).2.1 = []) && decide ((X.Feed a).2.2.1 = []) && true) = true := by
  cases hg : X.good with
  | false => simp [Feed, hg]
  | true => simp [Feed, hg] at h
theorem feed_len (u : Str) : ∀ t : Telnet, (t.feed u).2.1.length ≤ u.length ∧ (t.feed u).2.2.length ≤ 3 * u.length := by
  induction u with
  | nil => intro t; simp [feed]
  | cons b u ih =>
    intro t
    have h1 := step_len t b
    have h2 := ih (t.step b).1
    simp only [feed, List.length_append, List.length_cons]
    omega
theorem Feed_len (t : Telnet) (u : Str) : (t.Feed u).2.1.length ≤ u.length ∧ (t.Feed u).2.2.1.length ≤ 3 * u.length := by
  unfold Feed
  split
  · simp
  · exact feed_len u t
/-! #### the document's answer -/
def refOffer (t : Telnet) (opt : Int) : Telnet × Str × Int :=
  if (!t.refGood) = true then (t, [], 2) else if (!decide (opt = 1) && !decide (opt = 3)) = true then (t, [], 3) else if (!decide (t.us.at ((opt - 1).tdiv 2) = 0)) = true then (t, [], 0)
  else ({ t with us := t.us.put ((opt - 1).tdiv 2) 2 }, bytesOf [255, 251, opt], 0)
def askI (opt : Int) : Int := if decide (opt = 31) = true then 2 else 1
def refAsk (t : Telnet) (opt : Int) : Telnet × Str × Int :=
  if (!t.refGood) = true then (t, [], 2) else if (!decide (opt = 3) && !decide (opt = 31)) = true then (t, [], 3) else if (!decide (t.them.at (askI opt) = 0)) = true then (t, [], 0)
  else ({ t with them := t.them.put (askI opt) 2 }, bytesOf [255, 253, opt], 0)
theorem refOffer_eq (t : Telnet) (opt : Int) : t.refOffer opt = t.Offer opt := by
  unfold refOffer Offer
  rw [refGood_eq]
  by_cases h1 : opt = 1
  · subst h1; rfl
  · by_cases h3 : opt = 3
    · subst h3; rfl
    · have : (place opt).2.1 = false := by
        cases hp : (place opt).2.1 with
        | false => rfl
        | true => rcases place_us hp with ⟨h, _⟩ | ⟨h, _⟩ <;> omega
      simp [h1, h3, this]
theorem refAsk_eq (t : Telnet) (opt : Int) : t.refAsk opt = t.Ask opt := by
  unfold refAsk Ask
  rw [refGood_eq]
  by_cases h1 : opt = 3
  · subst h1; rfl
  · by_cases h3 : opt = 31
    · subst h3; rfl
    · have : (place opt).2.2 = false := by
        cases hp : (place opt).2.2 with
        | false => rfl
        | true => rcases place_them hp with ⟨h, _⟩ | ⟨h, _⟩ <;> omega
      simp [h1, h3, this]
theorem offers_ok (t : Telnet) (opt : Int) : (decide ((t.Offer opt).1 = (t.refOffer opt).1) && decide ((t.Offer opt).2.1 = (t.refOffer opt).2.1) && decide ((t.Offer opt).2.2 = (t.refOffer opt).2.2) && decide ((t.Ask opt).1 = (t.refAsk opt).1) && decide ((t.Ask opt).2.1 = (t.refAsk opt).2.1) && decide ((t.Ask opt).2.2 = (t.refAsk opt).2.2) && true) = true := by
  rw [refOffer_eq, refAsk_eq]; simp
/-! #### answers to answers come to an end -/
def ends : Nat → Telnet → Telnet → Str → Bool
  | 0, _, _, _ => false
  | n + 1, t, u, s =>
    if decide ((t.Feed s).2.2.1 = []) = true then decide ((t.Feed s).2.2.2 = 0) && true
    else if (!decide ((t.Feed s).2.2.2 = 0) || !decide ((u.Feed (t.Feed s).2.2.1).2.2.2 = 0)) = true then false
    else if decide ((u.Feed (t.Feed s).2.2.1).2.2.1 = []) = true then true
    else ends n (t.Feed s).1 (u.Feed (t.Feed s).2.2.1).1 (u.Feed (t.Feed s).2.2.1).2.2.1
def calm (t : Telnet) : Telnet := { t with at_ := 0, verb := 0, sub := [] }
theorem calm_good {t : Telnet} (h : t.good = true) : t.calm.good = true := by
  rw [good_iff] at h ⊢
  obtain ⟨hA, h1, h2, h3, h4, h5, h6, h7, h8⟩ := h
  exact ⟨hA, by unfold okB calm; exact ⟨Int.le_refl 0, (by show (0 : Int) ≤ 4; decide), (by show (0 : Int) = 2 ↔ (0 : Int) ≠ 0; decide), .inl rfl, by simp, .inr rfl, h7, h8⟩⟩
theorem step_ans {t : Telnet} (h : t.at_ ≠ 2) (b : UInt8) : (t.step b).2.2 = [] := by
  unfold step; dsimp only
  repeat' split
  all_goals simp_all
/-- What one codec makes of a verb: what it does and lets do of the option, and the verb of its answer. -/
def neg (pu pt : Bool) (v a b : Int) : Int × Int × Option Int :=
  if v = 253 then (if pu then (1, b, if a = 0 then some 251 else none) else (a, b, some 252))
  else if v = 254 then (if pu then (0, b, if a = 1 then some 252 else none) else (a, b, none))
  else if v = 251 then (if pt then (a, 1, if b = 0 then some 253 else none) else (a, b, some 254))
  else if v = 252 then (if pt then (a, 0, if b = 1 then some 254 else none) else (a, b, none))
  else (a, b, none)
def endsA (pu pt : Bool) : Nat → Int → Int → Int → Int → Int → Bool
  | 0, _, _, _, _, _ => false
  | n + 1, v, a, b, c, d =>
    match neg pu pt v a b with
    | (_, _, none) => true
    | (a', b', some w) => match neg pu pt w c d with
      | (_, _, none) => true
      | (c', d', some w') => endsA pu pt n w' a' b' c' d'
theorem endsA_fin : ∀ (pu pt : Bool) (v : Fin 4) (a b c d : Fin 3), endsA pu pt 3 (251 + (v.val : Int)) (a.val : Int) (b.val : Int) (c.val : Int) (d.val : Int) = true := by decide +kernel
theorem fin_of {n : Nat} {x : Int} (h0 : 0 ≤ x) (h1 : x < n) : ∃ f : Fin n, (f.val : Int) = x := ⟨⟨x.toNat, by omega⟩, by simp; omega⟩
theorem endsA_ok {pu pt : Bool} {v a b c d : Int} (hv : 251 ≤ v ∧ v ≤ 254) (ha : 0 ≤ a ∧ a ≤ 2) (hb : 0 ≤ b ∧ b ≤ 2) (hc : 0 ≤ c ∧ c ≤ 2) (hd : 0 ≤ d ∧ d ≤ 2) : endsA pu pt 3 v a b c d = true := by
  obtain ⟨v', e0⟩ := fin_of (n := 4) (x := v - 251) (by omega) (by omega)
  obtain ⟨a', e1⟩ := fin_of (n := 3) ha.1 (by omega)
  obtain ⟨b', e2⟩ := fin_of (n := 3) hb.1 (by omega)
  obtain ⟨c', e3⟩ := fin_of (n := 3) hc.1 (by omega)
  obtain ⟨d', e4⟩ := fin_of (n := 3) hd.1 (by omega)
  have := endsA_fin pu pt v' a' b' c' d'
  rw [e0, e1, e2, e3, e4, show 251 + (v - 251) = v by omega] at this
  exact this
theorem neg_v {pu pt : Bool} {v a b : Int} {w : Int} (h : (neg pu pt v a b).2.2 = some w) : 251 ≤ w ∧ w ≤ 254 := by
  unfold neg at h
  repeat' split at h
  all_goals first | (simp at h; omega) | (simp at h; done) | skip
  all_goals (simp at h; obtain ⟨_, rfl⟩ := h; omega)
/-- The codec stands between commands; what it does of the option. -/
structure Rest (o a b : Int) (t : Telnet) : Prop where
  at0 : t.at_ = 0
  v0 : t.verb = 0
  ok : t.good = true
  us : (place o).2.1 = true → t.us.at (place o).1 = a
  them : (place o).2.2 = true → t.them.at (place o).1 = b
theorem negotiate_at (t : Telnet) (x y v o : Int) : ({ t with at_ := x, verb := y } : Telnet).negotiate v o = ({ (t.negotiate v o).1 with at_ := x, verb := y }, (t.negotiate v o).2) := by
  unfold negotiate; dsimp only
  repeat' split
  all_goals rfl
def ansS (o : Int) : Option Int → Str
  | none => []
  | some w => say w o
theorem place_rng {o : Int} (h : (place o).2.1 = true ∨ (place o).2.2 = true) : 0 ≤ (place o).1 ∧ (place o).1 < 3 := by
  rcases h with h | h
  · rcases place_us h with ⟨_, e⟩ | ⟨_, e⟩ <;> rw [e] <;> decide
  · rcases place_them h with ⟨_, e⟩ | ⟨_, e⟩ <;> rw [e] <;> decide
theorem negotiate_neg {t : Telnet} {o a b : Int} (h : Rest o a b t) {v : Int} (hv : 251 ≤ v ∧ v ≤ 254) :
    (t.negotiate v o).2 = ansS o (neg (place o).2.1 (place o).2.2 v a b).2.2 ∧ ((place o).2.1 = true → (t.negotiate v o).1.us.at (place o).1 = (neg (place o).2.1 (place o).2.2 v a b).1) ∧ ((place o).2.2 = true → (t.negotiate v o).1.them.at (place o).1 = (neg (place o).2.1 (place o).2.2 v a b).2.1) := by
  have hu := h.us
  have ht := h.them
  have hr := @place_rng o
  have hv' : v = 251 ∨ v = 252 ∨ v = 253 ∨ v = 254 := by omega
  revert hu ht hr
  cases hp : (place o).2.1 <;> cases hq : (place o).2.2 <;> intro hu ht hr <;> rcases hv' with rfl | rfl | rfl | rfl <;>
    simp [hp, hq] at hu ht hr <;> simp [negotiate, neg, hp, hq, ansS, turnS, turnUs, turnThem, onI, hu, ht]
  all_goals first
    | done
    | (repeat' split) <;> simp_all [at_put, ansS]
theorem u8_nat (b : UInt8) : u8 (b.toNat : Int) = b := by simp [u8]
theorem negotiate_good {t : Telnet} (h : t.good = true) (v o : Int) (h0 : t.at_ = 0) (h1 : t.verb = 0) : ({ (t.negotiate v o).1 with at_ := 0, verb := 0 } : Telnet).good = true := by
  have e : ({ (t.negotiate v o).1 with at_ := 0, verb := 0 } : Telnet) = (t.negotiate v o).1 := by
    obtain ⟨n1, n2, _⟩ := negotiate_same t v o
    rw [h0] at n1; rw [h1] at n2
    revert n1 n2
    generalize (t.negotiate v o).1 = z
    intro n1 n2
    cases z; simp_all
  rw [e]
  rw [good_iff] at h ⊢
  obtain ⟨n1, n2, n3, n4⟩ := negotiate_same t v o
  exact ⟨negotiate_ok h.1 v o, by unfold okB; rw [n1, n2, n3, n4]; exact h.2⟩
theorem feed_cmd {t : Telnet} {v : Int} {o : UInt8} (hv : 251 ≤ v ∧ v ≤ 254) (h0 : t.at_ = 0) : t.feed (say v (o.toNat : Int)) = ({ (t.negotiate v (o.toNat : Int)).1 with at_ := 0, verb := 0 }, [], (t.negotiate v (o.toNat : Int)).2) := by
  have e1 : t.step 255 = ({ t with at_ := 1 }, [], []) := by simp [step, h0]
  have ev := u8_val (n := v) (by omega) (by omega)
  have e2 : ({ t with at_ := 1 } : Telnet).step (u8 v) = ({ t with at_ := 2, verb := v }, [], []) := by
    have h1 : ¬ v = 255 := by omega
    have h2 : ¬ v = 250 := by omega
    simp [step, ev, h1, h2, hv.1]
  have e3 : ({ t with at_ := 2, verb := v } : Telnet).step o = ({ (t.negotiate v (o.toNat : Int)).1 with at_ := 0, verb := 0 }, [], (t.negotiate v (o.toNat : Int)).2) := by
    have := negotiate_at t 2 v v (o.toNat : Int)
    simp [step, this]
  simp only [say, u8_nat, feed, e1, e2, e3, List.append_nil, List.nil_append]
theorem Rest.feed {t : Telnet} {o : UInt8} {a b v : Int} (h : Rest (o.toNat : Int) a b t) (hv : 251 ≤ v ∧ v ≤ 254) :
    ∃ t', t.Feed (say v (o.toNat : Int)) = (t', [], ansS (o.toNat : Int) (neg (place (o.toNat : Int)).2.1 (place (o.toNat : Int)).2.2 v a b).2.2, 0) ∧ Rest (o.toNat : Int) (neg (place (o.toNat : Int)).2.1 (place (o.toNat : Int)).2.2 v a b).1 (neg (place (o.toNat : Int)).2.1 (place (o.toNat : Int)).2.2 v a b).2.1 t' := by
  obtain ⟨n1, n2, n3⟩ := negotiate_neg h hv
  refine ⟨{ (t.negotiate v (o.toNat : Int)).1 with at_ := 0, verb := 0 }, ?_, ?_⟩
  · simp [Feed, h.ok, feed_cmd hv h.at0, n1]
  · exact ⟨rfl, rfl, negotiate_good h.ok _ _ h.at0 h.v0, n2, n3⟩
theorem say_ne (w o : Int) : say w o ≠ [] := by simp [say]
theorem ends_sim (o : UInt8) : ∀ (n : Nat) (t u : Telnet) (v a b c d : Int), 251 ≤ v ∧ v ≤ 254 → Rest (o.toNat : Int) a b t → Rest (o.toNat : Int) c d u → ends n t u (say v (o.toNat : Int)) = endsA (place (o.toNat : Int)).2.1 (place (o.toNat : Int)).2.2 n v a b c d := by
  intro n
  induction n with
  | zero => intros; rfl
  | succ n ih =>
    intro t u v a b c d hv ht hu
    obtain ⟨t', e1, r1⟩ := ht.feed hv
    unfold ends endsA
    rw [e1]
    have hw := @neg_v (place (o.toNat : Int)).2.1 (place (o.toNat : Int)).2.2 v a b
    revert r1 hw
    generalize neg (place (o.toNat : Int)).2.1 (place (o.toNat : Int)).2.2 v a b = x
    obtain ⟨a', b', w⟩ := x
    intro r1 hw
    cases w with
    | none => simp [ansS]
    | some w =>
      have hw' := hw rfl
      obtain ⟨u', e2, r2⟩ := hu.feed hw'
      simp only [ansS, say_ne, decide_false, Bool.false_eq_true, if_false, e2]
      have hw2 := @neg_v (place (o.toNat : Int)).2.1 (place (o.toNat : Int)).2.2 w c d
      revert r2 hw2
      generalize neg (place (o.toNat : Int)).2.1 (place (o.toNat : Int)).2.2 w c d = y
      obtain ⟨c', d', w2⟩ := y
      intro r2 hw2
      cases w2 with
      | none => simp [ansS]
      | some w2 => simpa [ansS, say_ne] using ih t' u' w2 a' b' c' d' (hw2 rfl) r1 r2
theorem ends_quiet {t u : Telnet} {v o : UInt8} (n : Nat) (hg : t.good = true) (h0 : t.at_ = 0) (hv : ¬ (251 ≤ (v.toNat : Int) ∧ (v.toNat : Int) ≤ 254)) : ends (n + 1) t u [255, v, o] = true := by
  have e1 : t.step 255 = ({ t with at_ := 1 }, [], []) := by simp [step, h0]
  have e2 : (({ t with at_ := 1 } : Telnet).step v).2.2 = [] ∧ (({ t with at_ := 1 } : Telnet).step v).1.at_ ≠ 2 := by
    have := v.toNat_lt
    unfold step; dsimp only
    repeat' split
    all_goals first | exact ⟨rfl, (by show (0 : Int) ≠ 2; decide)⟩ | exact ⟨rfl, (by show (3 : Int) ≠ 2; decide)⟩ | (exfalso; simp_all; done) | (exfalso; simp only [decide_eq_true_eq] at *; omega)
  have e3 := step_ans e2.2 o
  have : (t.feed [255, v, o]).2.2 = [] := by simp only [feed, e1, e2.1, e3, List.append_nil]
  unfold ends
  simp [Feed, hg, this]
theorem say_bytes {v : UInt8} (o : UInt8) : say (v.toNat : Int) (o.toNat : Int) = [255, v, o] := by simp [say, u8_nat]
theorem ends_ok {X Y : Telnet} (hX : X.good = true) (hY : Y.good = true) (v o : UInt8) : ends 3 X.calm Y.calm [255, v, o] = true := by
  by_cases hv : 251 ≤ (v.toNat : Int) ∧ (v.toNat : Int) ≤ 254
  · rw [← say_bytes]
    have rng : ∀ Z : Telnet, Z.good = true → ∃ a b, Rest (o.toNat : Int) a b Z.calm ∧ (0 ≤ a ∧ a ≤ 2) ∧ (0 ≤ b ∧ b ≤ 2) := fun Z hZ => by
      have hA := ((good_iff Z).1 hZ).1
      obtain ⟨⟨h1, h2, h3, h4, h5⟩, h6, h7, h8, h9, h10⟩ := hA
      refine ⟨if (place (o.toNat : Int)).2.1 = true then Z.us.at (place (o.toNat : Int)).1 else 0, if (place (o.toNat : Int)).2.2 = true then Z.them.at (place (o.toNat : Int)).1 else 0, ⟨rfl, rfl, calm_good hZ, fun h => by rw [if_pos h]; rfl, fun h => by rw [if_pos h]; rfl⟩, ?_, ?_⟩
      · split
        · rename_i h; rcases place_us h with ⟨_, e⟩ | ⟨_, e⟩ <;> rw [e] <;> exact ⟨by assumption, by assumption⟩
        · omega
      · split
        · rename_i h; rcases place_them h with ⟨_, e⟩ | ⟨_, e⟩ <;> rw [e] <;> exact ⟨by assumption, by assumption⟩
        · omega
    obtain ⟨a, b, r1, ha, hb⟩ := rng X hX
    obtain ⟨c, d, r2, hc, hd⟩ := rng Y hY
    rw [ends_sim o 3 _ _ _ a b c d hv r1 r2]
    exact endsA_ok hv ha hb hc hd
  · exact ends_quiet 2 (calm_good hX) rfl hv
theorem pow_bd {k : Int} {n : Nat} (h0 : 0 ≤ k) (h1 : k < 3) (h : n ≤ 3 * 9 ^ k.toNat) : n ≤ 243 := by
  have : k = 0 ∨ k = 1 ∨ k = 2 := by omega
  rcases this with rfl | rfl | rfl <;> simp at h <;> omega
theorem pow_next {k : Int} {a b c : Nat} (h0 : 0 ≤ k) (h : a ≤ 3 * 9 ^ k.toNat) (h1 : b ≤ 3 * a) (h2 : c ≤ 3 * b) : c ≤ 3 * 9 ^ (k + 1).toNat := by
  rw [show (k + 1).toNat = k.toNat + 1 by omega, Nat.pow_succ]
  omega
theorem u8_ex {n : Int} (h0 : 0 ≤ n) (h1 : n ≤ 255) : ∃ b : UInt8, n = (b.toNat : Int) := ⟨u8 n, (u8_val h0 h1).symm⟩
end Telnet
end Go.Ing
