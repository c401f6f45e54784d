/- What the functions that the law LandNests reaches compute, and the plain laws of it. No condition. -/
import Derived.Test.YtnpbkbianmogoaaEng2
set_option linter.unusedSimpArgs false
set_option linter.unusedVariables false
/- The plain functions of the land: what the program's package 'land' computes. -/
namespace Go.Ing
open Go
namespace Land
def climb (w : Land) : Nat → Thing → Bool
  | 0, _ => false
  | n + 1, t => if (!decide (t.whr = 2)) = true then true else if (decide (n = 0) || decide (t.at_ < 0) || decide (9 ≤ t.at_)) = true then false else climb w n (w.things.at t.at_)
def goodThing (w : Land) (i : Int) : Bool :=
  if (decide ((w.things.at i).kind < 0) || decide (3 < (w.things.at i).kind) || (decide ((w.things.at i).kind = 0) && (w.things.at i).on) || decide ((w.things.at i).at_ < 0)) = true then false
  else if decide ((w.things.at i).whr = 0) = true then decide ((w.things.at i).at_ < 6) && !(decide ((w.things.at i).kind = 2) && (w.things.at i).on)
  else if decide ((w.things.at i).whr = 1) = true then decide ((w.things.at i).at_ < 6) && (w.beings.at (w.things.at i).at_).here
  else if decide ((w.things.at i).whr = 2) = true then (if (decide (9 ≤ (w.things.at i).at_) || (!decide ((w.things.at (w.things.at i).at_).kind = 3)) || (decide ((w.things.at i).kind = 2) && (w.things.at i).on)) = true then false else climb w 10 (w.things.at i))
  else false
def opposite (d : Int) : Int := (max 0 (min d 5) + 3).tmod 6
def inside (w : Land) (box : Int) : Nat → Int → Bool
  | 0, _ => false
  | n + 1, i => if decide (i = box) = true then true else if (decide (i < 0) || decide (9 ≤ i) || !decide ((w.things.at i).whr = 2)) = true then false else inside w box n (w.things.at i).at_
def isIn (w : Land) (i box : Int) : Bool := inside w box 10 i
def roomFrom (w : Land) : Nat → Int → Bool → Int × Bool
  | 0, _, _ => (-1, false)
  | n + 1, i, o =>
    if (decide (i < 0) || decide (9 ≤ i)) = true then (-1, false)
    else if decide ((w.things.at i).whr = 0) = true then ((w.things.at i).at_, o)
    else if decide ((w.things.at i).whr = 1) = true then (if (decide ((w.things.at i).at_ < 0) || decide (6 ≤ (w.things.at i).at_)) = true then (-1, false) else ((w.beings.at (w.things.at i).at_).room, o))
    else if decide ((w.things.at i).whr = 2) = true then
      (if (decide (0 ≤ (w.things.at i).at_) && decide ((w.things.at i).at_ < 9) && !(w.things.at (w.things.at i).at_).on) = true then roomFrom w n (w.things.at i).at_ false else roomFrom w n (w.things.at i).at_ o)
    else (-1, false)
def room (w : Land) (i : Int) : Int × Bool := roomFrom w 10 i true
def badExit (r : Room) (d : Int) : Bool := decide (r.exits.at d < 0) || decide (6 < r.exits.at d) || (decide (r.exits.at d = 0) && r.shut.at d)
def badBeing (b : Being) : Bool := decide (b.room < 0) || decide (6 ≤ b.room) || decide (b.health < 0) || decide (10 < b.health) || decide (b.foe < 0) || decide (6 < b.foe) || (!b.here && !decide (b.foe = 0)) || b.here != decide (0 < b.health)
def goodRoom (w : Land) (k : Int) : Bool := allFrom 6 (fun d => !badExit (w.rooms.at k) d) 6
def good (w : Land) : Bool := allFrom 6 w.goodRoom 6 && (allFrom 6 (fun k => !badBeing (w.beings.at k)) 6 && allFrom 9 w.goodThing 9)
def has (w : Land) (whr at_ : Int) : List Int := ((List.range 9).map Int.ofNat).filter fun k => decide ((w.things.at k).whr = whr) && decide ((w.things.at k).at_ = at_)
end Land
end Go.Ing
/- The land as it begins. -/
namespace Go.Ing
open Go
namespace Land
def ex (a b c d e f : Int) : Vector Int 6 := ((((((Vector.replicate 6 default).put 0 a).put 1 b).put 2 c).put 3 d).put 4 e).put 5 f
def sh (i : Int) : Vector Bool 6 := (Vector.replicate 6 default).put i true
def roomsV : Vector Room 6 := (((((((Vector.replicate 6 default).put 0 ⟨[104, 101, 97, 114, 116, 104], false, (ex 2 3 4 0 0 5), sh 5⟩).put 1 ⟨[121, 97, 114, 100], false, (ex 0 0 0 1 0 0), default⟩).put 2 ⟨[112, 97, 110, 116, 114, 121], true, (ex 0 0 0 0 1 0), default⟩).put 3 ⟨[108, 111, 102, 116], true, (ex 0 6 0 0 0 1), default⟩).put 4 ⟨[99, 101, 108, 108, 97, 114], true, (ex 0 0 1 0 0 0), sh 2⟩).put 5 ⟨[97, 116, 116, 105, 99], false, (ex 0 0 0 0 4 0), default⟩)
def thingsV : Vector Thing 9 := ((((((((((Vector.replicate 9 default).put 0 ⟨[108, 97, 109, 112], 1, 0, 0, false⟩).put 1 ⟨[108, 97, 109, 112], 1, 0, 3, false⟩).put 2 ⟨[99, 108, 111, 97, 107], 2, 0, 0, false⟩).put 3 ⟨[99, 104, 101, 115, 116], 3, 0, 4, false⟩).put 4 ⟨[99, 111, 105, 110], 0, 2, 3, false⟩).put 5 ⟨[99, 111, 105, 110], 0, 0, 1, false⟩).put 6 ⟨[109, 117, 103], 0, 0, 0, false⟩).put 7 ⟨[98, 111, 120], 3, 0, 0, true⟩).put 8 ⟨[107, 101, 121], 0, 1, 1, false⟩)
def newA : Nat → Land
  | 0 => default
  | k + 1 => { newA k with rooms := (newA k).rooms.put k (roomsV.toList.getD k default) }
def newB : Nat → Land
  | 0 => newA 6
  | k + 1 => { newB k with things := (newB k).things.put k (thingsV.toList.getD k default) }
def new : Land := { newB 9 with beings := ((newB 9).beings.put 0 ⟨[99, 97, 116], true, true, 0, 10, 0⟩).put 1 ⟨[114, 97, 116], true, false, 4, 3, 0⟩ }
theorem newA_step {k : Int} (h : 0 ≤ k) : newA (k + 1).toNat = { newA k.toNat with rooms := (newA k.toNat).rooms.put k (roomsV.toList.getD k.toNat default) } := by
  obtain ⟨m, rfl⟩ := Int.eq_ofNat_of_zero_le h
  rfl
theorem newB_step {k : Int} (h : 0 ≤ k) : newB (k + 1).toNat = { newB k.toNat with things := (newB k.toNat).things.put k (thingsV.toList.getD k.toNat default) } := by
  obtain ⟨m, rfl⟩ := Int.eq_ofNat_of_zero_le h
  rfl
theorem new_good : new.good = true := by kernel_rfl
theorem opposite_1 : opposite 1 = 4 := by decide
end Land
end Go.Ing
/- Plain laws of lands. -/
namespace Go.Ing
open Go
namespace Land
variable {X : Land}
theorem good_thing (h : X.good = true) {i : Int} (h0 : 0 ≤ i) (h9 : i < 9) : X.goodThing i = true := by
  unfold good at h
  rw [Bool.and_eq_true, Bool.and_eq_true] at h
  exact (allFrom_iff 9).1 h.2.2 i (by omega) h9
theorem good_being (h : X.good = true) {b : Int} (h0 : 0 ≤ b) (h9 : b < 6) : badBeing (X.beings.at b) = false := by
  unfold good at h
  rw [Bool.and_eq_true, Bool.and_eq_true] at h
  simpa using (allFrom_iff 6).1 h.2.1 b (by omega) h9
theorem good_exit (h : X.good = true) {r d : Int} (h0 : 0 ≤ r) (h6 : r < 6) (d0 : 0 ≤ d) (d6 : d < 6) : badExit (X.rooms.at r) d = false := by
  unfold good at h
  rw [Bool.and_eq_true, Bool.and_eq_true] at h
  have := (allFrom_iff 6).1 h.1 r (by omega) h6
  unfold goodRoom at this
  simpa using (allFrom_iff 6).1 this d (by omega) d6
structure ThingOk (X : Land) (i : Int) : Prop where
  k0 : 0 ≤ (X.things.at i).kind
  k3 : (X.things.at i).kind ≤ 3
  plain : (X.things.at i).kind = 0 → (X.things.at i).on = false
  a0 : 0 ≤ (X.things.at i).at_
  whr : ((X.things.at i).whr = 0 ∧ (X.things.at i).at_ < 6 ∧ ¬ ((X.things.at i).kind = 2 ∧ (X.things.at i).on = true)) ∨
    ((X.things.at i).whr = 1 ∧ (X.things.at i).at_ < 6 ∧ (X.beings.at (X.things.at i).at_).here = true) ∨
    ((X.things.at i).whr = 2 ∧ (X.things.at i).at_ < 9 ∧ (X.things.at (X.things.at i).at_).kind = 3 ∧ ¬ ((X.things.at i).kind = 2 ∧ (X.things.at i).on = true) ∧ X.climb 10 (X.things.at i) = true)
theorem thing_ok {i : Int} (h : X.goodThing i = true) : ThingOk X i := by
  unfold goodThing at h
  split at h
  · cases h
  · rename_i h1
    simp only [Bool.or_eq_true, Bool.and_eq_true, decide_eq_true_eq, not_or, not_and, Bool.not_eq_true] at h1
    obtain ⟨⟨⟨a1, a2⟩, a3⟩, a4⟩ := h1
    refine ⟨by omega, by omega, a3, by omega, ?_⟩
    split at h
    · rename_i h2
      simp only [Bool.and_eq_true, decide_eq_true_eq, Bool.not_eq_true'] at h h2
      refine .inl ⟨h2, h.1, fun ⟨x, y⟩ => ?_⟩
      simp [x, y] at h
    · rename_i h2
      split at h
      · rename_i h3
        simp only [Bool.and_eq_true, decide_eq_true_eq] at h h3
        exact .inr (.inl ⟨h3, h.1, h.2⟩)
      · split at h
        · rename_i h4
          split at h
          · cases h
          · rename_i h5
            simp only [Bool.or_eq_true, Bool.and_eq_true, decide_eq_true_eq, not_or, not_and, Bool.not_eq_true, Bool.not_eq_true', decide_eq_false_iff_not, Decidable.not_not] at h4 h5
            refine .inr (.inr ⟨h4, by omega, h5.1.2, fun ⟨x, y⟩ => ?_, h⟩)
            have := h5.2 x
            rw [y] at this; cases this
        · cases h
/-- Out of box after box, in n steps, to what is in no box. -/
def Out (X : Land) : Nat → Int → Prop
  | 0, i => (X.things.at i).whr ≠ 2
  | n + 1, i => (X.things.at i).whr = 2 ∧ 0 ≤ (X.things.at i).at_ ∧ (X.things.at i).at_ < 9 ∧ Out X n (X.things.at i).at_
theorem out_of_climb : ∀ (n : Nat) (i : Int), X.climb n (X.things.at i) = true → ∃ m, m < n ∧ Out X m i
  | 0, i, h => by simp [climb] at h
  | n + 1, i, h => by
    unfold climb at h
    split at h
    · rename_i h1; exact ⟨0, by omega, by simpa [Out] using h1⟩
    · rename_i h1
      split at h
      · cases h
      · rename_i h2
        simp only [Bool.or_eq_true, decide_eq_true_eq, not_or] at h2
        obtain ⟨m, hm, ho⟩ := out_of_climb n _ h
        exact ⟨m + 1, by omega, by simpa using h1, by omega, by omega, ho⟩
theorem good_out (h : X.good = true) {i : Int} (h0 : 0 ≤ i) (h9 : i < 9) : ∃ n, n < 10 ∧ Out X n i := by
  have ht := thing_ok (good_thing h h0 h9)
  rcases ht.whr with ⟨w, _⟩ | ⟨w, _⟩ | ⟨_, _, _, _, c⟩
  · exact ⟨0, by omega, by simp [Out, w]⟩
  · exact ⟨0, by omega, by simp [Out, w]⟩
  · exact out_of_climb 10 i c
theorem Out.uniq : ∀ {n m : Nat} {i : Int}, Out X n i → Out X m i → n = m
  | 0, 0, _, _, _ => rfl
  | 0, m + 1, i, h, k => absurd k.1 h
  | n + 1, 0, i, h, k => absurd h.1 k
  | n + 1, m + 1, i, h, k => by rw [Out.uniq h.2.2.2 k.2.2.2]
def Reach (X : Land) : Nat → Int → Int → Prop
  | 0, i, j => i = j
  | a + 1, i, j => 0 ≤ i ∧ i < 9 ∧ (X.things.at i).whr = 2 ∧ Reach X a (X.things.at i).at_ j
theorem reach_of_inside {j : Int} : ∀ (n : Nat) (i : Int), X.inside j n i = true → ∃ a, Reach X a i j
  | 0, i, h => by simp [inside] at h
  | n + 1, i, h => by
    unfold inside at h
    split at h
    · rename_i h1; exact ⟨0, (of_decide_eq_true h1 : i = j)⟩
    · split at h
      · cases h
      · rename_i h2
        simp only [Bool.or_eq_true, decide_eq_true_eq, not_or, Bool.not_eq_true', decide_eq_false_iff_not, Decidable.not_not] at h2
        obtain ⟨a, ha⟩ := reach_of_inside n _ h
        exact ⟨a + 1, by omega, by omega, h2.2, ha⟩
theorem Out.reach : ∀ {a n : Nat} {i j : Int}, Out X n i → Reach X a i j → a ≤ n ∧ Out X (n - a) j
  | 0, n, i, j, h, k => by cases (show i = j from k); exact ⟨by omega, h⟩
  | a + 1, 0, i, j, h, k => absurd k.2.2.1 h
  | a + 1, n + 1, i, j, h, k => by
    have := Out.reach h.2.2.2 k.2.2.2
    exact ⟨by omega, by rw [show n + 1 - (a + 1) = n - a by omega]; exact this.2⟩
theorem isIn_self (X : Land) (i : Int) : X.isIn i i = true := by simp [isIn, inside]
theorem not_both (h : X.good = true) {i j : Int} (h0 : 0 ≤ i) (h9 : i < 9) (hne : i ≠ j) (h1 : X.isIn i j = true) (h2 : X.isIn j i = true) : False := by
  obtain ⟨n, _, ho⟩ := good_out h h0 h9
  obtain ⟨a, ha⟩ := reach_of_inside _ _ h1
  obtain ⟨b, hb⟩ := reach_of_inside _ _ h2
  have r1 := ho.reach ha
  have r2 := r1.2.reach hb
  have := ho.uniq r2.2
  have ha0 : a ≠ 0 := fun e => by subst e; exact hne ha
  omega
/-- Where a thing is at last: the room alone. -/
theorem room_fuel : ∀ {n f f' : Nat} {i : Int} {o o' : Bool}, 0 ≤ i → i < 9 → Out X n i → n < f → n < f' → (X.roomFrom f i o).1 = (X.roomFrom f' i o').1
  | 0, f + 1, f' + 1, i, o, o', h0, h9, h, _, _ => by
    have hi : ¬ ((decide (i < 0) || decide (9 ≤ i)) = true) := by simp; omega
    have h2 : ¬ (decide ((X.things.at i).whr = 2) = true) := fun e => h (of_decide_eq_true e)
    simp only [roomFrom, if_neg hi, if_neg h2]
    split
    · rfl
    · split
      · split <;> rfl
      · rfl
  | n + 1, f + 1, f' + 1, i, o, o', h0, h9, h, hf, hf' => by
    have hi : ¬ ((decide (i < 0) || decide (9 ≤ i)) = true) := by simp; omega
    have w0 : ¬ (decide ((X.things.at i).whr = 0) = true) := by have := h.1; simp; omega
    have w1 : ¬ (decide ((X.things.at i).whr = 1) = true) := by have := h.1; simp; omega
    have w2 : decide ((X.things.at i).whr = 2) = true := by have := h.1; simpa using this
    simp only [roomFrom, if_neg hi, if_neg w0, if_neg w1, if_pos w2]
    split
    · exact room_fuel h.2.1 h.2.2.1 h.2.2.2 (by omega) (by omega)
    · exact room_fuel h.2.1 h.2.2.1 h.2.2.2 (by omega) (by omega)
theorem room_step {i : Int} (hg : X.good = true) (h0 : 0 ≤ i) (h9 : i < 9) (hw : (X.things.at i).whr = 2) : (X.room i).1 = (X.room (X.things.at i).at_).1 := by
  obtain ⟨n, hn, ho⟩ := good_out hg h0 h9
  cases n with
  | zero => exact absurd hw ho
  | succ n =>
    have hi : ¬ ((decide (i < 0) || decide (9 ≤ i)) = true) := by simp; omega
    have w0 : ¬ (decide ((X.things.at i).whr = 0) = true) := by simp; omega
    have w1 : ¬ (decide ((X.things.at i).whr = 1) = true) := by simp; omega
    have w2 : decide ((X.things.at i).whr = 2) = true := by simpa using hw
    rw [room, roomFrom, if_neg hi, if_neg w0, if_neg w1, if_pos w2]
    unfold room
    split
    · exact room_fuel ho.2.1 ho.2.2.1 ho.2.2.2 (by omega) (by omega)
    · exact room_fuel ho.2.1 ho.2.2.1 ho.2.2.2 (by omega) (by omega)
theorem room_reach (hg : X.good = true) : ∀ {a : Nat} {i j : Int}, Reach X a i j → (X.room i).1 = (X.room j).1
  | 0, i, j, h => by cases (show i = j from h); rfl
  | a + 1, i, j, h => (room_step hg h.1 h.2.1 h.2.2.1).trans (room_reach hg h.2.2.2)
theorem room_in (hg : X.good = true) {i j : Int} (h : X.isIn i j = true) : (X.room i).1 = (X.room j).1 := by
  obtain ⟨a, ha⟩ := reach_of_inside _ _ h
  exact room_reach hg ha
theorem room_range (hg : X.good = true) : ∀ {n : Nat} {i : Int}, 0 ≤ i → i < 9 → n < 10 → Out X n i → 0 ≤ (X.room i).1 ∧ (X.room i).1 < 6
  | 0, i, h0, h9, _, h => by
    have ht := thing_ok (good_thing hg h0 h9)
    have hi : ¬ ((decide (i < 0) || decide (9 ≤ i)) = true) := by simp; omega
    have h2 : ¬ (decide ((X.things.at i).whr = 2) = true) := fun e => h (of_decide_eq_true e)
    rw [room, roomFrom, if_neg hi]
    rcases ht.whr with ⟨w, a, _⟩ | ⟨w, a, b⟩ | ⟨w, _⟩
    · rw [if_pos (by simpa using w)]; exact ⟨ht.a0, a⟩
    · rw [if_neg (by simp; omega), if_pos (by simpa using w), if_neg (by have := ht.a0; simp; omega)]
      have hb := good_being hg ht.a0 a
      simp only [badBeing, Bool.or_eq_false_iff, decide_eq_false_iff_not] at hb
      show 0 ≤ (X.beings.at (X.things.at i).at_).room ∧ _ < _
      omega
    · exact absurd w h
  | n + 1, i, h0, h9, hn, h => by
    rw [room_step hg h0 h9 h.1]
    exact room_range hg h.2.1 h.2.2.1 (by omega) h.2.2.2
theorem good_room (hg : X.good = true) {i : Int} (h0 : 0 ≤ i) (h9 : i < 9) : 0 ≤ (X.room i).1 ∧ (X.room i).1 < 6 := by
  obtain ⟨n, hn, ho⟩ := good_out hg h0 h9
  exact room_range hg h0 h9 hn ho
end Land
end Go.Ing
