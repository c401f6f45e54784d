/- What the functions that the law LineWhole reaches compute, and the plain laws of it. No condition. -/
import Derived.Test.YtnpbkbianmogoaaEc1
set_option linter.unusedSimpArgs false
set_option linter.unusedVariables false
/- The plain functions of lines. -/
namespace Go.Ing
open Go
theorem PS_conv {P : Program} {n : Nat} {w0 : World} {M : List Nat} {F : List (Nat × Value)} {L : List Res} {op : Op} {T : TypeId} {v v' : Value} (h : PS P n w0 M op T F L v L) (e : v = v') : PS P n w0 M op T F L v' L := e ▸ h
namespace Line
def plainB (b : UInt8) : Bool := decide (32 ≤ (b.toNat : Int)) && decide ((b.toNat : Int) < 127)
def strOk (s : Str) : Bool := !decide (60 < (s.length : Int)) && s.all plainB
def badHead (l : LineV) : Bool := decide (60 < (l.now.length : Int)) || decide (6 < (l.queue.len : Int)) || (l.long && decide (60 < (l.now.length : Int))) || (l.ret && (!decide (l.now = []) || l.long))
def good (l : LineV) (qs : List Str) : Bool := !badHead l && (qs ++ [l.now]).all strOk
/-- A line's bytes as they come: what it is, how many found no room. -/
structure S where
  now : Str
  long : Bool
  ret : Bool
  queue : List Str
  lost : Int
  deriving DecidableEq
def step (x : S) (b : UInt8) : S :=
  let c : Int := (b.toNat : Int)
  if (x.ret && (decide (c = 10) || decide (c = 0))) = true then { x with ret := false }
  else if (decide (c = 13) || decide (c = 10)) = true then
    (if decide ((x.queue.length : Int) < 6) = true then { x with queue := x.queue ++ [x.now], now := [], long := false, ret := decide (c = 13) } else { x with lost := x.lost + 1, now := [], long := false, ret := decide (c = 13) })
  else if (decide (c = 8) || decide (c = 127)) = true then (if decide (0 < (x.now.length : Int)) = true then { x with now := x.now.take ((x.now.length : Int) - 1).toNat, ret := false } else { x with ret := false })
  else if (!plainB b) = true then { x with ret := false }
  else if decide (60 ≤ (x.now.length : Int)) = true then { x with long := true, ret := false }
  else { x with now := x.now ++ [b], ret := false }
def feed (x : S) (s : Str) : S := s.foldl step x
def start (l : LineV) (qs : List Str) : S := ⟨l.now, l.long, l.ret, qs, 0⟩
/-- What holds while bytes are read. -/
structure I (x0 : S) (u : Str) (k : Int) (x : S) : Prop where
  k0 : 0 ≤ k
  k1 : k ≤ u.length
  now : x.now.length ≤ 60
  queue : x.queue.length ≤ 6
  lost : 0 ≤ x.lost ∧ x.lost ≤ k
  e : feed x0 u = feed x (u.drop k.toNat)
theorem step_now {x : S} (b : UInt8) (h : x.now.length ≤ 60) : (step x b).now.length ≤ 60 := by
  unfold step; dsimp only
  repeat' split
  all_goals first | exact h | (simp; done) | (simp; omega) | (rename_i h1 _; simp at *; omega) | skip
  all_goals simp_all
  all_goals omega
theorem step_queue {x : S} (b : UInt8) (h : x.queue.length ≤ 6) : (step x b).queue.length ≤ 6 := by
  unfold step; dsimp only
  repeat' split
  all_goals first | exact h | (simp at *; omega)
theorem step_lost (x : S) (b : UInt8) : x.lost ≤ (step x b).lost ∧ (step x b).lost ≤ x.lost + 1 := by
  unfold step; dsimp only
  repeat' split
  all_goals (constructor <;> dsimp only <;> omega)
theorem I.start {x : S} {u : Str} (h1 : x.now.length ≤ 60) (h2 : x.queue.length ≤ 6) (h3 : x.lost = 0) : I x u 0 x := ⟨by omega, by omega, h1, h2, by omega, rfl⟩
theorem I.next {x0 x : S} {u : Str} {k : Int} (h : I x0 u k x) (hk : k < u.length) {now : Str} {long ret : Bool} {queue : List Str} {lost : Int} (hs : step x (u.getD k.toNat 0) = ⟨now, long, ret, queue, lost⟩) : I x0 u (k + 1) ⟨now, long, ret, queue, lost⟩ := by
  have h0 := h.k0
  have hk' : k.toNat < u.length := by omega
  have hd : u.drop k.toNat = u.getD k.toNat 0 :: u.drop (k + 1).toNat := by
    rw [List.drop_eq_getElem_cons hk', show (k + 1).toNat = k.toNat + 1 by omega]
    simp [List.getD, hk']
  have hl := step_lost x (u.getD k.toNat 0)
  have hl' := h.lost
  have hn := step_now (u.getD k.toNat 0) h.now
  have hq := step_queue (u.getD k.toNat 0) h.queue
  rw [hs] at hl hn hq
  refine ⟨by omega, by omega, hn, hq, by dsimp only at *; omega, ?_⟩
  rw [h.e, hd, ← hs]; rfl
theorem I.done {x0 x : S} {u : Str} {k : Int} (h : I x0 u k x) (hk : ¬ k < u.length) : feed x0 u = x := by
  have h1 := h.k1
  have hk' : k.toNat = u.length := by omega
  rw [h.e, hk', List.drop_length]; rfl
theorem good_head {l : LineV} {qs : List Str} (h : good l qs = true) : l.now.length ≤ 60 ∧ l.queue.len ≤ 6 := by
  simp only [good, badHead, Bool.and_eq_true, Bool.not_eq_true', Bool.or_eq_false_iff, decide_eq_false_iff_not] at h
  omega
theorem all_drop {α : Type} {p : α → Bool} {xs : List α} {k : Int} {d : α} (h0 : 0 ≤ k) (h1 : k < xs.length) : (xs.drop k.toNat).all p = (p (xs.getD k.toNat d) && (xs.drop (k + 1).toNat).all p) := by
  have hk' : k.toNat < xs.length := by omega
  rw [List.drop_eq_getElem_cons hk', show (k + 1).toNat = k.toNat + 1 by omega, List.all_cons]
  simp [List.getD, hk']
/-! #### what is said of lines -/
structure Ok (x : S) : Prop where
  now : strOk x.now = true
  queue : ∀ s ∈ x.queue, strOk s = true
  len : x.queue.length ≤ 6
  ret : x.ret = true → x.now = [] ∧ x.long = false
theorem strOk_iff (s : Str) : strOk s = true ↔ s.length ≤ 60 ∧ ∀ b ∈ s, plainB b = true := by
  simp only [strOk, Bool.and_eq_true, Bool.not_eq_true', decide_eq_false_iff_not, List.all_eq_true]
  constructor
  · rintro ⟨h1, h2⟩; exact ⟨by omega, h2⟩
  · rintro ⟨h1, h2⟩; exact ⟨by omega, h2⟩
theorem strOk_nil : strOk [] = true := rfl
theorem good_iff {l : LineV} {qs : List Str} (hl : l.queue.len = qs.length) : good l qs = true ↔ Ok (start l qs) := by
  simp only [good, badHead, Bool.and_eq_true, Bool.not_eq_true', Bool.or_eq_false_iff, decide_eq_false_iff_not, List.all_append, List.all_cons, List.all_nil, Bool.and_true, List.all_eq_true]
  constructor
  · rintro ⟨⟨⟨⟨h1, h2⟩, h3⟩, h4⟩, h5, h6⟩
    refine ⟨h6, h5, by show qs.length ≤ 6; omega, fun h => ?_⟩
    have h : l.ret = true := h
    rw [h] at h4
    simp at h4
    exact h4
  · rintro ⟨h1, h2, h3, h4⟩
    have h3 : qs.length ≤ 6 := h3
    have h5 := ((strOk_iff _).1 h1).1
    have h5 : l.now.length ≤ 60 := h5
    refine ⟨⟨⟨⟨by omega, by omega⟩, ?_⟩, ?_⟩, h2, h1⟩
    · cases l.long <;> simp; omega
    · have h4 : l.ret = true → l.now = [] ∧ l.long = false := h4
      cases hr : l.ret with
      | false => rfl
      | true => obtain ⟨a, b⟩ := h4 hr; simp [a, b]
theorem step_ok {x : S} (h : Ok x) (b : UInt8) : Ok (step x b) := by
  obtain ⟨h1, h2, h3, h4⟩ := h
  have h1' := (strOk_iff _).1 h1
  unfold step; dsimp only
  repeat' split
  all_goals try simp only [decide_eq_true_eq, Bool.not_eq_true', Bool.or_eq_true] at *
  · exact ⟨h1, h2, h3, fun h => by cases h⟩
  · rename_i hq
    refine ⟨strOk_nil, fun s hs => ?_, by show (x.queue ++ [x.now]).length ≤ 6; rw [List.length_append, List.length_singleton]; omega, fun _ => ⟨rfl, rfl⟩⟩
    rcases List.mem_append.1 hs with hs | hs
    · exact h2 s hs
    · simp at hs; subst hs; exact h1
  · exact ⟨strOk_nil, h2, h3, fun _ => ⟨rfl, rfl⟩⟩
  · refine ⟨(strOk_iff _).2 ⟨?_, fun c hc => h1'.2 c (List.mem_of_mem_take hc)⟩, h2, h3, fun h => by cases h⟩
    have := h1'.1
    show (x.now.take _).length ≤ 60
    rw [List.length_take]; omega
  · exact ⟨h1, h2, h3, fun h => by cases h⟩
  · exact ⟨h1, h2, h3, fun h => by cases h⟩
  · exact ⟨h1, h2, h3, fun h => by cases h⟩
  · rename_i hp hl
    refine ⟨(strOk_iff _).2 ⟨by show (x.now ++ [b]).length ≤ 60; rw [List.length_append, List.length_singleton]; omega, fun c hc => ?_⟩, h2, h3, fun h => by cases h⟩
    rcases List.mem_append.1 hc with hc | hc
    · exact h1'.2 c hc
    · simp at hc; subst hc; simpa using hp
theorem feed_ok (u : Str) : ∀ {x : S}, Ok x → Ok (feed x u) := by
  induction u with
  | nil => intro x h; exact h
  | cons b u ih => intro x h; exact ih (step_ok h b)
theorem feed_append (x : S) (a b : Str) : feed x (a ++ b) = feed (feed x a) b := List.foldl_append ..
/-- The lost are only counted. -/
def more (x : S) (d : Int) : S := { x with lost := x.lost + d }
theorem step_more (x : S) (d : Int) (b : UInt8) : step (more x d) b = more (step x b) d := by
  unfold step more; dsimp only
  repeat' split
  all_goals first | rfl | (simp; omega) | (exfalso; simp_all; done) | skip
theorem feed_more (u : Str) : ∀ (x : S) (d : Int), feed (more x d) u = more (feed x u) d := by
  induction u with
  | nil => intro x d; rfl
  | cons b u ih => intro x d; show feed (step (more x d) b) u = _; rw [step_more]; exact ih _ _
/-- A line's value with its queue's header. -/
def val (x : S) (h : Hd) : LineV := ⟨x.now, x.long, x.ret, h⟩
theorem start_val (x : S) (h : Hd) : start (val x h) x.queue = { x with lost := 0 } := rfl
theorem val_good {x : S} (h : Ok x) {q : Hd} (hq : q.len = x.queue.length) : good (val x q) x.queue = true := (good_iff (l := val x q) (qs := x.queue) hq).2 ⟨h.now, h.queue, h.len, h.ret⟩
theorem start_ok {l : LineV} {qs : List Str} (h : good l qs = true) (hl : l.queue.len = qs.length) : Ok (start l qs) := (good_iff hl).1 h
theorem feed_two (x : S) (h0 : x.lost = 0) (a b : Str) : feed x (a ++ b) = more (feed { feed x a with lost := 0 } b) (feed x a).lost := by
  rw [feed_append, ← feed_more]
  congr 1
  simp [more]
theorem pickE {α : Type} {xs ys : List α} {i : Nat} (hl : xs.length = ys.length) (ht : xs.take i = ys.take i) (hi : ¬ i < xs.length) : xs = ys := by
  rw [List.take_of_length_le (by omega), List.take_of_length_le (by omega)] at ht; exact ht
theorem take_next {α : Type} {xs ys : List α} {i : Int} {d : α} (h0 : 0 ≤ i) (hl : xs.length = ys.length) (hi : i < xs.length) (ht : xs.take i.toNat = ys.take i.toNat) (he : xs.getD i.toNat d = ys.getD i.toNat d) : xs.take (i + 1).toNat = ys.take (i + 1).toNat := by
  have h1 : i.toNat < xs.length := by omega
  have h2 : i.toNat < ys.length := by omega
  rw [show (i + 1).toNat = i.toNat + 1 by omega, List.take_succ_eq_append_getElem h1, List.take_succ_eq_append_getElem h2, ht]
  simp only [List.getD, List.getElem?_eq_getElem h1, List.getElem?_eq_getElem h2, Option.getD_some] at he
  rw [he]
theorem ne_of_getD {α : Type} {xs ys : List α} {i : Nat} {d : α} (h : xs.getD i d ≠ ys.getD i d) : xs ≠ ys := fun e => h (by rw [e])
theorem cons_of {qs : List Str} (h : qs.length ≠ 0) : ∃ q r, qs = q :: r := by
  cases qs with
  | nil => simp at h
  | cons q r => exact ⟨q, r, rfl⟩
def plainK (b : UInt8) : Bool := !(decide ((b.toNat : Int) < 32) || decide (126 < (b.toNat : Int)))
def cleanK (s : Str) : Bool := s.all plainK && decide ((s.length : Int) ≤ 60)
theorem plainK_eq (b : UInt8) : plainK b = plainB b := by
  rw [Bool.eq_iff_iff]; simp [plainK, plainB]; omega
theorem cleanK_iff (s : Str) : cleanK s = true ↔ strOk s = true := by
  rw [strOk_iff]
  simp only [cleanK, Bool.and_eq_true, List.all_eq_true, decide_eq_true_eq, plainK_eq]
  constructor
  · rintro ⟨h1, h2⟩; exact ⟨by omega, h1⟩
  · rintro ⟨h1, h2⟩; exact ⟨h2, by omega⟩
theorem feed_lost (u : Str) : ∀ x : S, x.lost ≤ (feed x u).lost ∧ (feed x u).lost ≤ x.lost + u.length := by
  induction u with
  | nil => intro x; simp [feed]
  | cons b u ih =>
    intro x
    have h1 := step_lost x b
    have h2 := ih (step x b)
    show x.lost ≤ (feed (step x b) u).lost ∧ (feed (step x b) u).lost ≤ _
    rw [List.length_cons]
    omega
theorem lost_add {l l2 : LineV} {qs qs2 : List Str} {a b : Str} (hn : a.length + b.length ≤ 9000000000000000000) : -9223372036854775808 ≤ (feed (start l qs) a).lost + (feed (start l2 qs2) b).lost ∧ (feed (start l qs) a).lost + (feed (start l2 qs2) b).lost ≤ 9223372036854775807 := by
  have h1 := feed_lost a (start l qs)
  have h2 := feed_lost b (start l2 qs2)
  have e1 : (start l qs).lost = 0 := rfl
  have e2 : (start l2 qs2).lost = 0 := rfl
  omega
theorem step_q (x : S) (b : UInt8) : (step x b).queue.length ≤ max x.queue.length 6 := by
  unfold step; dsimp only
  repeat' split
  all_goals first | exact Nat.le_max_left .. | (simp only [List.length_append, List.length_singleton]; simp at *; omega)
theorem feed_q (u : Str) : ∀ x : S, (feed x u).queue.length ≤ max x.queue.length 6 := by
  induction u with
  | nil => intro x; exact Nat.le_max_left ..
  | cons b u ih =>
    intro x
    have h1 := step_q x b
    have h2 := ih (step x b)
    show (feed (step x b) u).queue.length ≤ _
    omega
theorem q_le {x : S} {u : Str} (h : x.queue.length ≤ 9223372036854775807) : (feed x u).queue.length ≤ 9223372036854775807 := by
  have := feed_q u x; omega
theorem q_good {l : LineV} {qs : List Str} (hl : l.queue.len = qs.length) (h : good l qs = true) : (start l qs).queue.length ≤ 9223372036854775807 := by
  have := (good_head h).2
  show qs.length ≤ _; omega
theorem parts_ok {l : LineV} {qs : List Str} (hl : l.queue.len = qs.length) (h : good l qs = true) (a b : Str) {q r : Hd} (hr : r.len = (feed (start l qs) (a ++ b)).queue.length) :
    (decide ((feed (start (val (feed (start l qs) a) q) (feed (start l qs) a).queue) b).now = (feed (start l qs) (a ++ b)).now) && ((feed (start (val (feed (start l qs) a) q) (feed (start l qs) a).queue) b).long == (feed (start l qs) (a ++ b)).long) && ((feed (start (val (feed (start l qs) a) q) (feed (start l qs) a).queue) b).ret == (feed (start l qs) (a ++ b)).ret) && decide ((feed (start (val (feed (start l qs) a) q) (feed (start l qs) a).queue) b).queue = (feed (start l qs) (a ++ b)).queue)) = true ∧
    (feed (start l qs) a).lost + (feed (start (val (feed (start l qs) a) q) (feed (start l qs) a).queue) b).lost = (feed (start l qs) (a ++ b)).lost ∧ good (val (feed (start l qs) (a ++ b)) r) (feed (start l qs) (a ++ b)).queue = true := by
  have e := feed_two (start l qs) rfl a b
  refine ⟨?_, ?_, val_good (feed_ok _ (start_ok h hl)) hr⟩
  · rw [e, start_val]; simp [more]
  · rw [e, start_val]; simp only [more]; omega
theorem q_start {l : LineV} {q : List Str} {u : Str} (h : q.length ≤ 9223372036854775807) : (feed (start l q) u).queue.length ≤ 9223372036854775807 := q_le h
theorem q_len {l : LineV} {qs : List Str} (hl : l.queue.len = qs.length) (h : good l qs = true) : qs.length ≤ 9223372036854775807 := q_good hl h
theorem parts_all {l : LineV} {qs : List Str} (hl : l.queue.len = qs.length) (h : good l qs = true) (a b : Str) {q q' r : Hd} (hr : r.len = (feed (start l qs) (a ++ b)).queue.length) :
    (decide ((0 : Int) = 0) && decide ((0 : Int) = 0) && (decide ((val (feed (start (val (feed (start l qs) a) q) (feed (start l qs) a).queue) b) q').now = (val (feed (start l qs) (a ++ b)) r).now) && ((val (feed (start (val (feed (start l qs) a) q) (feed (start l qs) a).queue) b) q').long == (val (feed (start l qs) (a ++ b)) r).long) && ((val (feed (start (val (feed (start l qs) a) q) (feed (start l qs) a).queue) b) q').ret == (val (feed (start l qs) (a ++ b)) r).ret) && decide ((feed (start (val (feed (start l qs) a) q) (feed (start l qs) a).queue) b).queue = (feed (start l qs) (a ++ b)).queue)) &&
    decide ((feed (start l qs) a).lost + (feed (start (val (feed (start l qs) a) q) (feed (start l qs) a).queue) b).lost = (feed (start l qs) (a ++ b)).lost) && good (val (feed (start l qs) (a ++ b)) r) (feed (start l qs) (a ++ b)).queue) = true := by
  obtain ⟨e1, e2, e3⟩ := parts_ok hl h a b (q := q) hr
  simp only [Bool.and_eq_true] at e1 ⊢
  exact ⟨⟨⟨⟨rfl, rfl⟩, e1⟩, by simpa using e2⟩, e3⟩
/-! #### text that is typed -/
theorem plain_rng {b : UInt8} (h : plainB b = true) : 32 ≤ (b.toNat : Int) ∧ (b.toNat : Int) < 127 := by
  simpa [plainB] using h
theorem step_plain {x : S} {b : UInt8} (h : plainB b = true) (hn : x.now.length < 60) : step x b = { x with now := x.now ++ [b], ret := false } := by
  have hb := plain_rng h
  have e1 : decide ((b.toNat : Int) = 10) = false := decide_eq_false (by omega)
  have e2 : decide ((b.toNat : Int) = 0) = false := decide_eq_false (by omega)
  have e3 : decide ((b.toNat : Int) = 13) = false := decide_eq_false (by omega)
  have e4 : decide ((b.toNat : Int) = 8) = false := decide_eq_false (by omega)
  have e5 : decide ((b.toNat : Int) = 127) = false := decide_eq_false (by omega)
  have e6 : decide (60 ≤ (x.now.length : Int)) = false := decide_eq_false (by omega)
  simp only [step, e1, e2, e3, e4, e5, e6, h]
  simp
theorem feed_plain (s : Str) : ∀ x : S, (∀ b ∈ s, plainB b = true) → x.now.length + s.length ≤ 60 → s ≠ [] → feed x s = { x with now := x.now ++ s, ret := false } := by
  induction s with
  | nil => intro x _ _ h; exact absurd rfl h
  | cons b s ih =>
    intro x hp hl _
    rw [List.length_cons] at hl
    show feed (step x b) s = _
    rw [step_plain (hp b (by simp)) (by omega)]
    cases s with
    | nil => rfl
    | cons c s =>
      rw [ih _ (fun d hd => hp d (by simp [hd])) (by simp at hl ⊢; omega) (by simp)]
      simp
theorem feed_cons (x : S) (b : UInt8) (s : Str) : feed x (b :: s) = feed (step x b) s := rfl
theorem feed_erase (m : Nat) : ∀ x : S, x.ret = false → feed x (List.replicate m 8) = { x with now := x.now.take (x.now.length - m) } := by
  induction m with
  | zero => intro x _; simp [feed]
  | succ m ih =>
    intro x hr
    have e : step x 8 = { x with now := x.now.take (x.now.length - 1) } := by
      have h8 : ((8 : UInt8).toNat : Int) = 8 := rfl
      simp only [step, h8, hr]
      by_cases h : 0 < (x.now.length : Int)
      · have e2 : ((x.now.length : Int) - 1).toNat = x.now.length - 1 := by omega
        simp [h, e2]
        cases x; simp_all
      · have : x.now = [] := List.length_eq_zero_iff.1 (by omega)
        cases x; simp_all
    rw [List.replicate_succ, feed_cons, e, ih _ (by exact hr)]
    simp only [List.length_take, List.take_take]
    congr 2
    omega
def emptyL : LineV := ⟨[], false, false, ⟨none, 0, 0⟩⟩
def s0 : S := start emptyL []
theorem erases {s : Str} (h : strOk s = true) (m : Nat) : feed s0 (s ++ List.replicate m 8 ++ [10]) = ⟨[], false, false, [s.take (s.length - m)], 0⟩ := by
  obtain ⟨h1, h2⟩ := (strOk_iff s).1 h
  have e : feed s0 s = ⟨s, false, false, [], 0⟩ := by
    cases s with
    | nil => rfl
    | cons b s => rw [feed_plain _ _ h2 (by simpa [s0, start, emptyL] using h1) (by simp)]; rfl
  rw [feed_append, feed_append, e, feed_erase _ _ rfl]
  rfl
/-- Lines that stand as they are, each ended alike. -/
def Ends (W : Str) : Prop := W = [13, 10] ∨ W = [10] ∨ W = [13, 0] ∨ W = [13]
structure Wait (W : Str) (x : S) (q : List Str) : Prop where
  now : x.now = []
  long : x.long = false
  ret : x.ret = true → W = [13]
  queue : x.queue = q
  lost : x.lost = 0
theorem wait_end {W : Str} (hW : Ends W) {x : S} {q : List Str} (hq : q.length < 6) {s : Str} (hn : x.now = s) (hl : x.long = false) (hr : x.ret = true → W = [13] ∧ s = []) (hx : x.queue = q) (h0 : x.lost = 0) : Wait W (feed x W) (q ++ [s]) := by
  have hc : decide ((x.queue.length : Int) < 6) = true := decide_eq_true (by rw [hx]; omega)
  obtain ⟨n, l, r, qq, lo⟩ := x
  simp only at hn hl hr hx h0 hc
  subst hn; subst hl; subst hx; subst h0
  have h13 : ((13 : UInt8).toNat : Int) = 13 := rfl
  have h10 : ((10 : UInt8).toNat : Int) = 10 := rfl
  have h00 : ((0 : UInt8).toNat : Int) = 0 := rfl
  have e13 : step ⟨n, false, r, qq, 0⟩ 13 = ⟨[], false, true, qq ++ [n], 0⟩ := by
    simp only [step, h13, hc]; simp
  have e10 : r = false → step ⟨n, false, r, qq, 0⟩ 10 = ⟨[], false, false, qq ++ [n], 0⟩ := by
    intro hr; subst hr
    simp only [step, h10, hc]; simp
  rcases hW with rfl | rfl | rfl | rfl
  · have : feed ⟨n, false, r, qq, 0⟩ [13, 10] = ⟨[], false, false, qq ++ [n], 0⟩ := by
      show step (step _ 13) 10 = _
      rw [e13]; simp [step, h10]
    rw [this]; exact ⟨rfl, rfl, fun h => (by cases h), rfl, rfl⟩
  · have hr' : r = false := by
      cases r with
      | false => rfl
      | true => have := (hr rfl).1; simp at this
    have : feed ⟨n, false, r, qq, 0⟩ [10] = ⟨[], false, false, qq ++ [n], 0⟩ := e10 hr'
    rw [this]; exact ⟨rfl, rfl, fun h => (by cases h), rfl, rfl⟩
  · have : feed ⟨n, false, r, qq, 0⟩ [13, 0] = ⟨[], false, false, qq ++ [n], 0⟩ := by
      show step (step _ 13) 0 = _
      rw [e13]; simp [step, h00]
    rw [this]; exact ⟨rfl, rfl, fun h => (by cases h), rfl, rfl⟩
  · have : feed ⟨n, false, r, qq, 0⟩ [13] = ⟨[], false, true, qq ++ [n], 0⟩ := e13
    rw [this]; exact ⟨rfl, rfl, fun _ => rfl, rfl, rfl⟩
theorem wait_next {W : Str} (hW : Ends W) {x : S} {q : List Str} (h : Wait W x q) (hq : q.length < 6) {s : Str} (hs : strOk s = true) : Wait W (feed x (s ++ W)) (q ++ [s]) := by
  obtain ⟨h1, h2⟩ := (strOk_iff s).1 hs
  rw [feed_append]
  cases s with
  | nil => exact wait_end hW hq h.now h.long (fun hr => ⟨h.ret hr, rfl⟩) h.queue h.lost
  | cons b s =>
    rw [feed_plain _ _ h2 (by rw [h.now]; simpa using h1) (by simp)]
    exact wait_end hW hq (by simp [h.now]) h.long (fun hr => by cases hr) h.queue h.lost
def pick (k n : Int) : Int := k.tmod n + if k.tmod n < 0 then n else 0
theorem pick_rng {k n : Int} (h : 0 < n) : 0 ≤ pick k n ∧ pick k n < n := by
  have h1 := Int.tmod_lt_of_pos k h
  have h2 := Int.lt_tmod_of_pos k h
  unfold pick; split <;> omega
/-- The way a line is ended. -/
def way (e : Int) : Str := if e = 0 then [13, 10] else if e = 1 then [10] else if e = 2 then [13, 0] else [13]
theorem way_ends (e : Int) : Ends (way e) := by
  unfold way Ends; repeat' split
  all_goals simp
theorem way_len (e : Int) : (way e).length ≤ 2 := by
  unfold way; repeat' split
  all_goals simp
/-- Lines, as they are typed. -/
def typed (W : Str) (qs : List Str) : Str := qs.flatMap (· ++ W)
theorem typed_wait {W : Str} (hW : Ends W) (qs : List Str) : ∀ (x : S) (q : List Str), Wait W x q → q.length + qs.length ≤ 6 → (∀ s ∈ qs, strOk s = true) → Wait W (feed x (typed W qs)) (q ++ qs) := by
  induction qs with
  | nil => intro x q h _ _; simpa [typed, feed] using h
  | cons s qs ih =>
    intro x q h hl hs
    rw [List.length_cons] at hl
    have h1 := wait_next hW h (by omega) (hs s (by simp))
    have h2 := ih _ _ h1 (by simp; omega) (fun t ht => hs t (by simp [ht]))
    have e : typed W (s :: qs) = (s ++ W) ++ typed W qs := rfl
    rw [e, feed_append]
    simpa using h2
theorem whole {W : Str} (hW : Ends W) {qs : List Str} (hl : qs.length ≤ 6) (hs : ∀ s ∈ qs, strOk s = true) : Wait W (feed s0 (typed W qs)) qs := by
  have := typed_wait hW qs s0 [] ⟨rfl, rfl, fun h => (by cases h), rfl, rfl⟩ (by simpa using hl) hs
  simpa using this
theorem typed_snoc (W : Str) (qs : List Str) (s : Str) : typed W (qs ++ [s]) = typed W qs ++ (s ++ W) := by simp [typed]
theorem take_snoc {xs : List Str} {k : Int} (h0 : 0 ≤ k) (h1 : k < xs.length) : xs.take (k + 1).toNat = xs.take k.toNat ++ [xs.getD k.toNat []] := by
  have h : k.toNat < xs.length := by omega
  rw [show (k + 1).toNat = k.toNat + 1 by omega, List.take_succ_eq_append_getElem h]
  simp [List.getD, h]
theorem erases_all {s : Str} (h : strOk s = true) {n : Int} (h0 : 0 ≤ n) {y : Hd} (hy : y.len = (feed s0 (s ++ List.replicate n.toNat 8 ++ [10])).queue.length) :
    (decide ((0 : Int) = 0) && decide ((y.len : Int) = 1) && decide ((feed s0 (s ++ List.replicate n.toNat 8 ++ [10])).queue.getD 0 [] = s.take (max 0 ((s.length : Int) - n)).toNat) && true) = true := by
  rw [erases h] at hy ⊢
  have : (max 0 ((s.length : Int) - n)).toNat = s.length - n.toNat := by omega
  simp [hy, this]
theorem drop_cons {qs : List Str} {i : Int} (h0 : 0 ≤ i) (h1 : i < qs.length) : qs.drop i.toNat = qs.getD i.toNat [] :: qs.drop (i + 1).toNat := by
  have h : i.toNat < qs.length := by omega
  rw [List.drop_eq_getElem_cons h, show (i + 1).toNat = i.toNat + 1 by omega]
  simp [List.getD, h]
theorem whole_cond {W : Str} {x : S} {q : List Str} (h : Wait W x q) : (!decide ((0 : Int) = 0) || !decide (x.lost = 0) || !decide (x.queue = q) || !decide (x.now = []) || !true) = false := by
  simp [h.lost, h.queue, h.now]
theorem next_eq {ws rest r : List Str} {q : Str} {i : Int} (h0 : 0 ≤ i) (h1 : i < ws.length) (hr : rest = ws.drop i.toNat) (e : rest = q :: r) : q = ws.getD i.toNat [] ∧ r = ws.drop (i + 1).toNat := by
  rw [hr, drop_cons h0 h1] at e
  injection e with e1 e2
  exact ⟨e1.symm, e2.symm⟩
theorem typed_len {W : Str} (hW : W.length ≤ 2) (qs : List Str) (hs : ∀ s ∈ qs, strOk s = true) : (typed W qs).length ≤ qs.length * 62 := by
  induction qs with
  | nil => simp [typed]
  | cons s qs ih =>
    have h1 := ((strOk_iff s).1 (hs s (by simp))).1
    have h2 := ih fun t ht => hs t (by simp [ht])
    have e : typed W (s :: qs) = (s ++ W) ++ typed W qs := rfl
    rw [e, List.length_append, List.length_append, List.length_cons, Nat.add_mul]
    omega
theorem way_at {i : Int} (h0 : 0 ≤ i) (h1 : i < 4) : vstr ((((((Vector.replicate 4 default : Vector Str 4).put 0 [13, 10]).put 1 [10]).put 2 [13, 0]).put 3 [13]).at i) = vstr (way i) := by
  have : i = 0 ∨ i = 1 ∨ i = 2 ∨ i = 3 := by omega
  rcases this with rfl | rfl | rfl | rfl <;> rfl
theorem getD_le {xs : List Str} {N : Nat} (h : ∀ s ∈ xs, s.length ≤ N) (k : Nat) : (xs.getD k []).length ≤ N := by
  by_cases hk : k < xs.length
  · have e : xs.getD k [] = xs[k] := by simp [List.getD, hk]
    rw [e]; exact h _ (List.getElem_mem hk)
  · have e : xs.getD k [] = [] := by simp [List.getD, List.getElem?_eq_none (Nat.le_of_not_lt hk)]
    rw [e]; simp
end Line
end Go.Ing
