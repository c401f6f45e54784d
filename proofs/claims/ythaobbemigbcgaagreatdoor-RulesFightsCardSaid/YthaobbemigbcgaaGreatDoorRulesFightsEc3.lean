/- The engine: rules by which a walk over a function of the model goes operation by operation; data in cells; from a contract of a law to its row. No condition. -/
import Derived.Test.YthaobbemigbcgaaGreatDoorRulesFightsEb1
import Derived.ChangeKeysEq
import Derived.Laws.Cover3
import Derived.ChangeMaps5
import Derived.SizedLaws
import Derived.JoinedCond
set_option linter.unusedSimpArgs false
set_option linter.unusedVariables false
/- Engine, part 12: regions that draw their order, with effects amid what floats. -/
namespace Go.Ing
open Go
/-- What follows an operation, in place of the region's end. -/
def QK (K : Go.Act → World → Prop) (Q : Exit → Go.Act → World → Prop) : Exit → Go.Act → World → Prop
  | .normal, a, w => K a w
  | e, a, w => Q e a w
theorem QK_lets {K : Go.Act → World → Prop} {Q : Exit → Go.Act → World → Prop} (h : LetsOut (QK K Q)) : LetsOut Q := by
  obtain ⟨a, w, h⟩ := h; exact ⟨a, w, h⟩
theorem Oper.wp_QK {P : Program} {o : Oper} {a : Go.Act} {w : World} {K : Go.Act → World → Prop} {Q : Exit → Go.Act → World → Prop} (hd : a.defers = []) (hK : ∀ a w, K a w → a.defers = [])
    (h : o.wp P a w K (QK K Q)) : o.wp P a w (fun a' w' => K a' w' ∧ ∃ v, a' = a.put o.dst v) Q := by
  unfold Oper.wp at *
  generalize (execOp a.eval o).run P w = r at *
  cases r with
  | ok n w' =>
    cases n with
    | value v => exact ⟨h, v, rfl⟩
    | skip => exact ⟨h, undef, rfl⟩
    | defer d =>
      have := hK _ _ h
      cases hdst : o.dst <;> simp [Act.put, hdst] at this
    | enter f args => exact Calls.mono h (fun e w'' he => match e, he with
        | .returned v, he => ⟨he, v, rfl⟩
        | .panicked c, he => he
        | .outgrown, he => QK_lets he)
    | row row args => exact Rows.mono h fun v w'' he => ⟨he, v, rfl⟩
    | _ => exact h
  | halt x w' => cases x <;> exact h

/-- The checks. -/
def backW : Nat → List Oper → Bool
  | _, [] => true
  | i, o :: l => o.after.toList.all (fun e => !Region.binds .any e || Nat.blt e.on i) && backW (i + 1) l
theorem backW_at : ∀ (l : List Oper) (i j : Nat) (o : Oper), backW i l = true → l[j]? = some o → ∀ e ∈ o.after.toList, Region.binds .any e = true → e.on < i + j
  | [], _, _, _, _, h => by simp at h
  | p :: l, i, 0, o, hb, h => by
    simp at h; subst h
    simp only [backW, Bool.and_eq_true, List.all_eq_true] at hb
    intro e he hbe
    have := hb.1 e he
    rw [hbe] at this
    simpa [Nat.blt_eq] using this
  | p :: l, i, j + 1, o, hb, h => by
    simp only [backW, Bool.and_eq_true] at hb
    intro e he hbe
    have := backW_at l (i + 1) j o hb.2 (by simpa using h) e he hbe
    omega
def rok (l : List Oper) (Rs : List Nat) : Bool := (List.range l.length).all fun i => (List.range i).all fun j => !((Rs.getD i 0).testBit j) || (match l[i]? with | none => false | some o => o.after.toList.any fun e => Region.binds .any e && Nat.blt e.on i && (Nat.beq e.on j || (Nat.blt j e.on && (Rs.getD e.on 0).testBit j)))
def dstF (n : Nat) (_F : List (Nat × Value)) (l : List Oper) : Bool := l.all fun o => match o.dst with | some d => Nat.blt d n | none => true
/-- What is yielded does not stand elsewhere, or it stands there already. -/
def lkOk (F : List (Nat × Value)) (d : Nat) (v : Value) : Prop := lk d F = none ∨ lk d F = some v
def reaches (Rs : List Nat) (x j : Nat) : Bool := Nat.blt j x && (Rs.getD x 0).testBit j
theorem reach_ok {l : List Oper} {Rs : List Nat} {listed : Array Bool} (hr : rok l Rs = true) (hdc : Closed l listed) : ∀ (k x j : Nat) (o : Oper), x ≤ k → l[x]? = some o → (∀ e ∈ o.after.toList, Region.binds .any e = true → listed.getD e.on false = true) → reaches Rs x j = true → listed.getD j false = true := by
  intro k
  induction k with
  | zero =>
    intro x j o hx ho ha h
    simp [reaches, Nat.blt_eq] at h; omega
  | succ k ih =>
    intro x j o hx ho ha h
    simp only [reaches, Bool.and_eq_true, Nat.blt_eq] at h
    have hxl : x < l.length := by
      rcases Nat.lt_or_ge x l.length with h' | h'
      · exact h'
      · rw [List.getElem?_eq_none h'] at ho; cases ho
    have h1 := List.all_eq_true.1 hr x (List.mem_range.2 hxl)
    have h2 := List.all_eq_true.1 h1 j (List.mem_range.2 h.1)
    rw [h.2, ho] at h2
    simp only [Bool.not_true, Bool.false_or, List.any_eq_true, Bool.and_eq_true, Bool.or_eq_true, Nat.blt_eq] at h2
    obtain ⟨e, he, ⟨hb, hlt⟩, h3⟩ := h2
    have hl := ha e he hb
    rcases h3 with h3 | ⟨h3, h4⟩
    · rw [← Nat.eq_of_beq_eq_true h3]; exact hl
    · have hel : e.on < l.length := by omega
      have ho' : l[e.on]? = some l[e.on] := List.getElem?_eq_getElem hel
      exact ih e.on j _ (by omega) ho' (hdc _ _ ho' hl) (by simp only [reaches, Bool.and_eq_true, Nat.blt_eq]; exact ⟨h3, h4⟩)

def addD (i : Nat) (d : Option Nat) (v : Value) (D : List (Nat × (Nat × Value))) : List (Nat × (Nat × Value)) := match d with | some d => (i, (d, v)) :: D | none => D

section
variable (P : Program) (n : Nat) (w0 : World) (M : List Nat) (Q : Exit → Go.Act → World → Prop) (l : List Oper) (Rs : List Nat) (F : List (Nat × Value))
/-- What floats, and has perhaps not run, holds still. -/
def Pend (b : Nat) (D : List (Nat × (Nat × Value))) (L : List Res) : List Nat → Prop
  | [] => True
  | j :: A => (reaches Rs b j = true ∨ ∃ o d v, l[j]? = some o ∧ lkD j D = some (d, v) ∧ OpOk P n w0 M Q l.toArray F L o D v) ∧ Pend b D L A
def PK (o : Oper) (X : Value → List Res → Prop) (a : Go.Act) (w : World) : Prop :=
  ∃ v L', (∀ d, o.dst = some d → a.tmps[d]? = some v) ∧ a.defers = [] ∧ a.tmps.size = n ∧ St w0 M w L' ∧ X v L'
def chOk (V : List Nat) (bs : List Nat) : Bool := (List.range l.length).all fun x => V.elem x || bs.elem x || bs.any fun b => reaches Rs x b
def Plan : Nat → (V A : List Nat) → (D : List (Nat × (Nat × Value))) → (L : List Res) → Prop
  | 0, V, _, D, L => ((List.range l.length).all fun x => V.elem x) = true ∧ GQ n w0 M Q .normal (factsD D ++ F) L
  | k + 1, V, A, D, L =>
    (∃ i o d v, l[i]? = some o ∧ o.dst = some d ∧ V.elem i = false ∧ (o.after.toList.all fun e => !Region.binds .any e || V.elem e.on) = true ∧ OpOk P n w0 M Q l.toArray F L o D v ∧ lkOk F d v ∧ Plan k (i :: V) (i :: A) ((i, (d, v)) :: D) L)
    ∨ (∃ b : Nat, ∃ bs : List Nat, chOk l Rs V (b :: bs) = true ∧ ∀ x ∈ b :: bs, ∃ o, l[x]? = some o ∧ V.elem x = false ∧ (∀ d, o.dst = some d → lk d F = none) ∧
        GL P n w0 M l.toArray (QK (PK n w0 M o fun v L' => Pend P n w0 M Q l Rs F x (addD x o.dst v D) L' A ∧ Plan k (x :: V) A (addD x o.dst v D) L') Q) [o] (depF D o.after.toList ++ F) L)
end
/-- What holds while the region runs. -/
structure PInv (P : Program) (n : Nat) (w0 : World) (M : List Nat) (Q : Exit → Go.Act → World → Prop) (l : List Oper) (F : List (Nat × Value)) (V A : List Nat) (D : List (Nat × (Nat × Value))) (L : List Res) (listed : Array Bool) (a : Go.Act) (w : World) : Prop where
  size : listed.size = l.length
  closed : Closed l listed
  fr : Fr n a F
  st : St w0 M w L
  has : ∀ j, listed.getD j false = true → j ∈ V ∧ ∀ d v, lkD j D = some (d, v) → a.tmps[d]? = some v
  pend : ∀ j, j ∈ V → listed.getD j false = false → j ∈ A ∧ ∃ o d v, l[j]? = some o ∧ o.dst = some d ∧ lkD j D = some (d, v) ∧ OpOk P n w0 M Q l.toArray F L o D v ∧ lkOk F d v
  dom : ∀ x ∈ D, x.1 ∈ V ∧ lkD x.1 D = some x.2 ∧ ∃ o : Oper, l[x.1]? = some o ∧ o.dst = some x.2.1
  edges : ∀ j ∈ V, ∀ o, l[j]? = some o → ∀ e ∈ o.after.toList, Region.binds .any e = true → e.on ∈ V
theorem elem_true {x : Nat} {V : List Nat} : V.elem x = true ↔ x ∈ V := by simp
theorem elem_false {x : Nat} {V : List Nat} (h : V.elem x = false) : x ∉ V := by simpa using h
theorem depF_frame {n : Nat} {a : Go.Act} {F : List (Nat × Value)} {D : List (Nat × (Nat × Value))} {es : List Edge} (hF : Fr n a F) (h : ∀ e ∈ es, Region.binds .any e = true → ∀ d v, lkD e.on D = some (d, v) → a.tmps[d]? = some v) : Fr n a (depF D es ++ F) := by
  refine ⟨hF.size, hF.defers, fun k v hk => ?_⟩
  rcases lk_append _ _ hk with h1 | h1
  · obtain ⟨e, he, hb, hl⟩ := depF_mem _ h1
    exact h e he hb k v hl
  · exact hF.get k v h1
section
variable {P : Program} {n : Nat} {w0 : World} {M : List Nat} {Q : Exit → Go.Act → World → Prop} {l : List Oper} {Rs : List Nat} {F : List (Nat × Value)}
theorem lkD_add {j i : Nat} {d : Option Nat} {v : Value} {D : List (Nat × (Nat × Value))} (h : j ≠ i) : lkD j (addD i d v D) = lkD j D := by
  cases d with
  | none => rfl
  | some d => exact lkD_miss h _ _
theorem getD_set {listed : Array Bool} {x j : Nat} (hx : x < listed.size) : (listed.setIfInBounds x true).getD j false = if x = j then true else listed.getD j false := by
  rw [Array.getD_eq_getD_getElem?, Array.getElem?_setIfInBounds]
  by_cases e : x = j
  · subst e; simp [hx]
  · rw [if_neg e, if_neg e, Array.getD_eq_getD_getElem?]
theorem Pend.at {b : Nat} {D : List (Nat × (Nat × Value))} {L : List Res} : ∀ {A : List Nat}, Pend P n w0 M Q l Rs F b D L A → ∀ j ∈ A, reaches Rs b j = true ∨ ∃ o d v, l[j]? = some o ∧ lkD j D = some (d, v) ∧ OpOk P n w0 M Q l.toArray F L o D v
  | [], _, j, hj => by simp at hj
  | x :: A, h, j, hj => by
    rcases List.mem_cons.1 hj with rfl | hj
    · exact h.1
    · exact Pend.at h.2 j hj
theorem closed_set {listed : Array Bool} (hs : listed.size = l.length) (hdc : Closed l listed) {x : Nat} {o : Oper} (hox : l[x]? = some o) (h3 : ∀ e ∈ o.after.toList, Region.binds .any e = true → listed.getD e.on false = true) (hxl : x < l.length) : Closed l (listed.setIfInBounds x true) := by
  intro y p hp hy e he hbe
  rw [getD_set (by omega)] at hy ⊢
  by_cases e2 : x = e.on
  · rw [if_pos e2]
  · rw [if_neg e2]
    by_cases e1 : x = y
    · subst e1; rw [hox] at hp; cases hp; exact h3 e he hbe
    · rw [if_neg e1] at hy; exact hdc y p hp hy e he hbe
theorem depF_miss {i : Nat} {x : Nat × Value} {D : List (Nat × (Nat × Value))} : ∀ es : List Edge, (∀ e ∈ es, Region.binds .any e = true → e.on ≠ i) → depF ((i, x) :: D) es = depF D es
  | [], _ => rfl
  | e :: es, h => by
    simp only [depF]
    rw [depF_miss es fun e he => h e (by simp [he])]
    cases hb : Region.binds .any e with
    | false => rfl
    | true => rw [lkD_miss (h e (by simp) hb)]
theorem PInv.float {V A : List Nat} {D : List (Nat × (Nat × Value))} {L : List Res} {listed : Array Bool} {a : Go.Act} {w : World} (hb : backW 0 l = true) (hI : PInv P n w0 M Q l F V A D L listed a w) {i d : Nat} {o : Oper} {v : Value} (ho : l[i]? = some o) (hd : o.dst = some d) (hV : V.elem i = false)
    (he : (o.after.toList.all fun e => !Region.binds .any e || V.elem e.on) = true) (hok : OpOk P n w0 M Q l.toArray F L o D v) (hlk : lkOk F d v) : PInv P n w0 M Q l F (i :: V) (i :: A) ((i, (d, v)) :: D) L listed a w := by
  have hiV := elem_false hV
  have hne : ∀ j ∈ V, j ≠ i := fun j hj e => hiV (e ▸ hj)
  have heV : ∀ e ∈ o.after.toList, Region.binds .any e = true → e.on ∈ V := fun e he' hb' => by
    have := List.all_eq_true.1 he e he'
    rw [hb'] at this
    simpa using this
  refine ⟨hI.size, hI.closed, hI.fr, hI.st, fun j hj => ?_, fun j hj hl => ?_, fun x hx => ?_, fun j hj o' ho' e he' hb' => ?_⟩
  · obtain ⟨h1, h2⟩ := hI.has j hj
    refine ⟨by simp [h1], fun d' v' h => h2 d' v' ?_⟩
    rwa [lkD_miss (hne j h1)] at h
  · rcases List.mem_cons.1 hj with rfl | hj
    · refine ⟨by simp, o, d, v, ho, hd, lkD_hit _ _ _, ?_, hlk⟩
      unfold OpOk at hok ⊢
      rw [depF_miss _ fun e he hbe => hne _ (heV e he hbe)]
      exact hok
    · obtain ⟨h1, o', d', v', h2, h3, h4, h5, h6⟩ := hI.pend j hj hl
      refine ⟨by simp [h1], o', d', v', h2, h3, by rw [lkD_miss (hne j hj)]; exact h4, ?_, h6⟩
      unfold OpOk at h5 ⊢
      rw [depF_miss _ fun e he hb => hne _ (hI.edges j hj o' h2 e he hb)]
      exact h5
  · rcases List.mem_cons.1 hx with rfl | hx
    · exact ⟨by simp, lkD_hit _ _ _, o, ho, hd⟩
    · obtain ⟨h1, h2, h3⟩ := hI.dom x hx
      exact ⟨by simp [h1], by rw [lkD_miss (hne _ h1)]; exact h2, h3⟩
  · rcases List.mem_cons.1 hj with rfl | hj
    · rw [ho] at ho'; cases ho'; simp [heV e he' hb']
    · simp [hI.edges j hj o' ho' e he' hb']
theorem PInv.run_float {V A : List Nat} {D : List (Nat × (Nat × Value))} {L : List Res} {listed : Array Bool} {a : Go.Act} {w : World} (hdst : dstF n F l = true) (hu : unlikeB l = true) (hI : PInv P n w0 M Q l F V A D L listed a w)
    {x : Nat} {o : Oper} (hox : l[x]? = some o) (h2 : listed[x]? = some false) (h3 : ∀ e ∈ o.after.toList, Region.binds .any e = true → listed.getD e.on false = true) (hxl : x < l.length) (hxV : x ∈ V)
    (K : Go.Act → World → Prop) (hK : ∀ a' w', PInv P n w0 M Q l F V A D L (listed.setIfInBounds x true) a' w' → K a' w') : wpOp P l.toArray Q x K a w := by
  have hlx : listed.getD x false = false := by rw [Array.getD_eq_getD_getElem?, h2]; rfl
  obtain ⟨_, o', d, v, ho', hd, hlk, hok, hlo⟩ := hI.pend x hxV hlx
  rw [hox] at ho'; cases ho'
  have hdb : d < n := by
    have := List.all_eq_true.1 hdst o (List.mem_of_getElem? hox)
    rw [hd] at this
    simpa [Nat.blt_eq] using this
  have hfr : Fr n a (depF D o.after.toList ++ F) := depF_frame hI.fr fun e he hb d v h => (hI.has e.on (h3 e he hb)).2 d v h
  have hput : ∀ w' v', St w0 M w' L → v' = v → PInv P n w0 M Q l F V A D L (listed.setIfInBounds x true) (a.put o.dst v') w' := by
    intro w' v' hS' hv
    subst hv
    rw [hd]
    refine ⟨by simpa using hI.size, closed_set hI.size hI.closed hox h3 hxl, ⟨by simp [Act.put, hI.fr.size], hI.fr.defers, fun k u hk => ?_⟩, hS', fun j hj => ?_, fun j hj hl => ?_, hI.dom, hI.edges⟩
    · by_cases hkd : k = d
      · subst hkd
        rcases hlo with hlo | hlo
        · rw [hlo] at hk; cases hk
        · rw [hlo] at hk; cases hk
          simp [Act.put, hI.fr.size, hdb]
      · simp only [Act.put]
        rw [Array.getElem?_setIfInBounds_ne (fun h => hkd h.symm)]
        exact hI.fr.get k u hk
    · rw [getD_set (by rw [hI.size]; exact hxl)] at hj
      by_cases e : x = j
      · subst e
        refine ⟨hxV, fun d' u h => ?_⟩
        rw [hlk] at h; cases h
        simp [Act.put, hI.fr.size, hdb]
      · rw [if_neg e] at hj
        obtain ⟨h4, h5⟩ := hI.has j hj
        refine ⟨h4, fun d' u h => ?_⟩
        have hne : d ≠ d' := fun e' => by
          obtain ⟨_, _, p, hp, hpd⟩ := hI.dom _ (lkD_mem _ h)
          exact e (unlikeB_at l x j o p d hu hox hp hd (by rw [hpd, e']))
        simp only [Act.put]
        rw [Array.getElem?_setIfInBounds_ne hne]
        exact h5 d' u h
    · rw [getD_set (by rw [hI.size]; exact hxl)] at hl
      by_cases e : x = j
      · rw [if_pos e] at hl; cases hl
      · rw [if_neg e] at hl; exact hI.pend j hj hl
  unfold wpOp
  rw [List.getElem?_toArray, hox]
  have := hok a w K hfr hI.st fun w' hS' => hK _ _ (hput w' v hS' rfl)
  show if Region.wanted o (yielded l.toArray a.tmps) = true then _ else _
  by_cases hw : Region.wanted o (yielded l.toArray a.tmps) = true
  · rw [if_pos hw] at this ⊢; exact .inl this
  · rw [if_neg hw] at this ⊢; exact this
theorem PInv.run_chain {V A : List Nat} {D : List (Nat × (Nat × Value))} {L : List Res} {listed : Array Bool} {a : Go.Act} {w : World} (hr : rok l Rs = true) (hb : backW 0 l = true) (hdst : dstF n F l = true) (hu : unlikeB l = true) (hI : PInv P n w0 M Q l F V A D L listed a w)
    {x : Nat} {o : Oper} (hox : l[x]? = some o) (h3 : ∀ e ∈ o.after.toList, Region.binds .any e = true → listed.getD e.on false = true) (hxl : x < l.length) (hxV : x ∉ V) (hnone : ∀ d, o.dst = some d → lk d F = none) {X : Value → List Res → Prop}
    (hp : GL P n w0 M l.toArray (QK (PK n w0 M o X) Q) [o] (depF D o.after.toList ++ F) L) (hX : ∀ v L', X v L' → Pend P n w0 M Q l Rs F x (addD x o.dst v D) L' A)
    (K : Go.Act → World → Prop) (hK : ∀ a' w' v L', X v L' → PInv P n w0 M Q l F (x :: V) A (addD x o.dst v D) L' (listed.setIfInBounds x true) a' w' → K a' w') : wpOp P l.toArray Q x K a w := by
  have hdb : ∀ d, o.dst = some d → d < n ∧ lk d F = none := fun d hd => by
    have := List.all_eq_true.1 hdst o (List.mem_of_getElem? hox)
    rw [hd] at this
    exact ⟨by simpa [Nat.blt_eq] using this, hnone d hd⟩
  have hfr : Fr n a (depF D o.after.toList ++ F) := depF_frame hI.fr fun e he hb d v h => (hI.has e.on (h3 e he hb)).2 d v h
  have hne : ∀ j ∈ V, j ≠ x := fun j hj e => hxV (e ▸ hj)
  have hput : ∀ a' w', PK n w0 M o X a' w' → (∃ v, a' = a.put o.dst v) → K a' w' := by
    intro a' w' ⟨v, L', h1, h2, h3', h4, h5⟩ ⟨u, hu'⟩
    refine hK a' w' v L' h5 ?_
    have hkeep : ∀ k, o.dst ≠ some k → a'.tmps[k]? = a.tmps[k]? := fun k hk => by
      rw [hu']
      cases hd : o.dst with
      | none => rfl
      | some d =>
        simp only [Act.put]
        rw [Array.getElem?_setIfInBounds_ne]
        intro e; subst e; exact hk hd
    refine ⟨by simpa using hI.size, closed_set hI.size hI.closed hox h3 hxl, ⟨h3', h2, fun k u hk => ?_⟩, h4, fun j hj => ?_, fun j hj hl => ?_, fun y hy => ?_, fun j hj p hp' e he hbe => ?_⟩
    · rw [hkeep k fun e => by rw [(hdb k e).2] at hk; cases hk]
      exact hI.fr.get k u hk
    · rw [getD_set (by rw [hI.size]; exact hxl)] at hj
      by_cases e : x = j
      · subst e
        refine ⟨by simp, fun d' u h => ?_⟩
        cases hd : o.dst with
        | none =>
          rw [hd] at h
          obtain ⟨h6, _⟩ := hI.dom _ (lkD_mem _ h)
          exact absurd h6 hxV
        | some d =>
          rw [hd] at h
          rw [show addD x (some d) v D = (x, (d, v)) :: D from rfl, lkD_hit] at h
          cases h
          exact h1 _ hd
      · rw [if_neg e] at hj
        obtain ⟨h6, h7⟩ := hI.has j hj
        refine ⟨by simp [h6], fun d' u h => ?_⟩
        rw [lkD_add (hne j h6)] at h
        rw [hkeep d' fun hd => ?_]
        · exact h7 d' u h
        · obtain ⟨_, _, p, hp', hpd⟩ := hI.dom _ (lkD_mem _ h)
          exact e (unlikeB_at l x j o p d' hu hox hp' hd hpd)
    · rw [getD_set (by rw [hI.size]; exact hxl)] at hl
      by_cases e : x = j
      · rw [if_pos e] at hl; cases hl
      · rw [if_neg e] at hl
        have hjV : j ∈ V := by
          rcases List.mem_cons.1 hj with h | h
          · exact absurd h.symm e
          · exact h
        obtain ⟨h6, o', d', v', h7, h8, h9, h10, h11⟩ := hI.pend j hjV hl
        refine ⟨h6, ?_⟩
        rcases (hX v L' h5).at j h6 with h | ⟨o2, d2, v2, g1, g2, g3⟩
        · have := reach_ok hr hI.closed _ x j o (Nat.le_refl _) hox h3 h
          rw [hl] at this; cases this
        · rw [h7] at g1; cases g1
          have hg2 := g2
          rw [lkD_add (hne j hjV), h9] at g2
          cases g2
          exact ⟨o', d', v', h7, h8, hg2, g3, h11⟩
    · cases hd : o.dst with
      | none => rw [hd] at hy; obtain ⟨h6, h7, h8⟩ := hI.dom y hy; exact ⟨by simp [h6], h7, h8⟩
      | some d =>
        rw [hd] at hy
        rcases List.mem_cons.1 hy with rfl | hy
        · exact ⟨by simp, lkD_hit _ _ _, o, hox, hd⟩
        · obtain ⟨h6, h7, h8⟩ := hI.dom y hy
          exact ⟨by simp [h6], by rw [show addD x (some d) v D = (x, (d, v)) :: D from rfl, lkD_miss (hne _ h6)]; exact h7, h8⟩
    · rcases List.mem_cons.1 hj with rfl | hj
      · rw [hox] at hp'; cases hp'
        exact List.mem_cons_of_mem _ (hI.has _ (h3 e he hbe)).1
      · exact List.mem_cons_of_mem _ (hI.edges j hj p hp' e he hbe)
  have hgl := hp a w hfr hI.st
  unfold wpOp
  rw [List.getElem?_toArray, hox]
  show if Region.wanted o (yielded l.toArray a.tmps) = true then _ else _
  unfold wpList at hgl
  have hPKd : ∀ a w, PK n w0 M o X a w → a.defers = [] := fun a w ⟨_, _, _, h, _⟩ => h
  by_cases hw : Region.wanted o (yielded l.toArray a.tmps) = true
  · rw [if_pos hw] at hgl ⊢
    rcases hgl with hgl | ⟨h1, h2⟩
    · exact .inl (Oper.wp_mono (fun a' w' h => hput a' w' h.1 h.2) (Oper.wp_QK hI.fr.defers hPKd hgl))
    · exact .inr ⟨h1, QK_lets h2⟩
  · rw [if_neg hw] at hgl ⊢
    exact hput _ _ hgl ⟨_, rfl⟩
theorem plan_sound (hb : backW 0 l = true) (hr : rok l Rs = true) (hdst : dstF n F l = true) (hu : unlikeB l = true) :
    ∀ (m k : Nat) (V A : List Nat) (D : List (Nat × (Nat × Value))) (L : List Res) (listed : Array Bool) (a : Go.Act) (w : World), listed.toList.count false = m → Plan P n w0 M Q l Rs F k V A D L → PInv P n w0 M Q l F V A D L listed a w → wpAny P .any l.toArray Q m listed a w := by
  have hlt : ∀ (x : Nat) (o : Oper), l[x]? = some o → x < l.length := fun x o ho => by
    rcases Nat.lt_or_ge x l.length with h | h
    · exact h
    · rw [List.getElem?_eq_none h] at ho; cases ho
  intro m
  induction m with
  | zero =>
    intro k
    induction k with
    | zero =>
      intro V A D L listed a w hcnt hp hI
      have hall : ∀ j, j < l.length → listed.getD j false = true := fun j hj => by
        have hj' : j < listed.size := by rw [hI.size]; exact hj
        have h1 : listed[j]? = some listed[j] := Array.getElem?_eq_getElem hj'
        rw [Array.getD_eq_getD_getElem?, h1]
        cases hv : listed[j] with
        | true => rfl
        | false =>
          have := List.count_eq_zero.1 hcnt
          exact absurd (by rw [← hv]; exact Array.getElem_mem_toList hj') this
      refine ⟨?_, hp.2 a w ⟨hI.fr.size, hI.fr.defers, fun k v hk => ?_⟩ hI.st⟩
      · refine List.eq_nil_iff_forall_not_mem.2 fun x hx => ?_
        obtain ⟨o, ho, h2, _⟩ := (ready_iff hI.size).1 hx
        have := hall x (hlt x o ho)
        rw [Array.getD_eq_getD_getElem?, h2] at this
        cases this
      · rcases lk_append _ _ hk with h | h
        · have : ∃ j, (j, (k, v)) ∈ D := by
            clear hk hI hp
            induction D with
            | nil => simp [factsD] at h
            | cons x D ih =>
              simp only [factsD, List.mem_cons] at h
              rcases h with h | h
              · obtain ⟨j, y⟩ := x; simp only at h; exact ⟨j, by rw [h]; simp⟩
              · obtain ⟨j, hj⟩ := ih h; exact ⟨j, by simp [hj]⟩
          obtain ⟨j, hj⟩ := this
          obtain ⟨h1, h2, o, h3, _⟩ := hI.dom _ hj
          exact (hI.has j (hall j (hlt j o h3))).2 k v h2
        · exact hI.fr.get k v h
    | succ k ih =>
      intro V A D L listed a w hcnt hp hI
      rcases hp with ⟨i, o, d, v, ho, hd, hV, he, hok, hlo, hp⟩ | ⟨b, bs, hch, hx⟩
      · exact ih (i :: V) (i :: A) _ L listed a w hcnt hp (hI.float hb ho hd hV he hok hlo)
      · exfalso
        obtain ⟨o, ho, hV, _⟩ := hx b (by simp)
        have hbl : b < listed.size := by rw [hI.size]; exact hlt b o ho
        have h1 : listed[b]? = some listed[b] := Array.getElem?_eq_getElem hbl
        have h2 : listed.getD b false = true := by
          rw [Array.getD_eq_getD_getElem?, h1]
          cases hv : listed[b] with
          | true => rfl
          | false =>
            have := List.count_eq_zero.1 hcnt
            exact absurd (by rw [← hv]; exact Array.getElem_mem_toList hbl) this
        exact elem_false hV (hI.has b h2).1
  | succ m ihm =>
    intro k
    have next : ∀ {listed : Array Bool} {x : Nat}, listed.toList.count false = m + 1 → listed[x]? = some false → (listed.setIfInBounds x true).toList.count false = m := fun {listed x} hcnt h2 => by
      have := count_set (l := listed.toList) x (by simpa using h2)
      rw [Array.toList_setIfInBounds]
      omega
    have some_ready : ∀ {listed : Array Bool}, listed.size = l.length → listed.toList.count false = m + 1 → Region.ready .any l.toArray listed ≠ [] := fun {listed} hs hcnt => by
      have hex : ∃ j, j < listed.size ∧ listed[j]? = some false := by
        have : false ∈ listed.toList := by
          apply Classical.byContradiction
          intro h
          rw [List.count_eq_zero.2 h] at hcnt; omega
        obtain ⟨j, hj, e⟩ := List.getElem_of_mem this
        exact ⟨j, by simpa using hj, by rw [← e]; simp at hj ⊢⟩
      have hmin : ∀ b, ∀ j, j ≤ b → j < listed.size → listed[j]? = some false → ∃ j, j < listed.size ∧ listed[j]? = some false ∧ ∀ i, i < j → listed.getD i false = true := by
        intro b
        induction b with
        | zero => intro j hj h1 h2; exact ⟨j, h1, h2, fun i hi => by omega⟩
        | succ b ihb =>
          intro j hj h1 h2
          by_cases hx : ∀ i, i < j → listed.getD i false = true
          · exact ⟨j, h1, h2, hx⟩
          · obtain ⟨i, hi⟩ : ∃ i, i < j ∧ ¬ listed.getD i false = true := by
              apply Classical.byContradiction
              intro hn
              exact hx fun i hi => Classical.byContradiction fun h => hn ⟨i, hi, h⟩
            have hi' : i < listed.size := by omega
            refine ihb i (by omega) hi' ?_
            have h3 := hi.2
            rw [Array.getD_eq_getD_getElem?, Array.getElem?_eq_getElem hi'] at h3
            rw [Array.getElem?_eq_getElem hi']
            cases hv : listed[i] with
            | false => rfl
            | true => rw [hv] at h3; simp at h3
      obtain ⟨j0, h1, h2⟩ := hex
      obtain ⟨j, h1, h2, h3⟩ := hmin j0 j0 (Nat.le_refl _) h1 h2
      intro hn
      have hjl : j < l.length := by omega
      have : j ∈ Region.ready .any l.toArray listed := (ready_iff hs).2 ⟨l[j], List.getElem?_eq_getElem hjl, h2, fun e he hbe => h3 e.on (by have := backW_at l 0 j _ hb (List.getElem?_eq_getElem hjl) e he hbe; omega)⟩
      rw [hn] at this
      cases this
    induction k with
    | zero =>
      intro V A D L listed a w hcnt hp hI
      refine ⟨fun e => absurd e (some_ready hI.size hcnt), fun x hx => ?_⟩
      obtain ⟨o, hox, h2, h3⟩ := (ready_iff hI.size).1 hx
      have hxl := hlt x o hox
      have hxV : x ∈ V := by simpa using List.all_eq_true.1 hp.1 x (List.mem_range.2 hxl)
      exact hI.run_float hdst hu hox h2 h3 hxl hxV _ fun a' w' hI' => ihm 0 V A D L _ a' w' (next hcnt h2) hp hI'
    | succ k ih =>
      intro V A D L listed a w hcnt hp hI
      have hp0 := hp
      rcases hp with ⟨i, o, d, v, ho, hd, hV, he, hok, hlo, hp⟩ | ⟨b, bs, hch, hbs⟩
      · exact ih (i :: V) (i :: A) _ L listed a w hcnt hp (hI.float hb ho hd hV he hok hlo)
      · refine ⟨fun e => absurd e (some_ready hI.size hcnt), fun x hx => ?_⟩
        obtain ⟨o, hox, h2, h3⟩ := (ready_iff hI.size).1 hx
        have hxl := hlt x o hox
        by_cases hxV : x ∈ V
        · exact hI.run_float hdst hu hox h2 h3 hxl hxV _ fun a' w' hI' => ihm (k + 1) V A D L _ a' w' (next hcnt h2) hp0 hI'
        · have hxb : x ∈ b :: bs := by
            have := List.all_eq_true.1 hch x (List.mem_range.2 hxl)
            simp only [Bool.or_eq_true, List.any_eq_true] at this
            rcases this with (h | h) | ⟨c, hc, h⟩
            · exact absurd (elem_true.1 h) hxV
            · exact elem_true.1 h
            · exfalso
              obtain ⟨oc, hoc, hVc, _⟩ := hbs c hc
              have := reach_ok hr hI.closed _ x c o (Nat.le_refl _) hox h3 h
              exact elem_false hVc (hI.has c this).1
          obtain ⟨o', ho', _, hnone, hgl⟩ := hbs x hxb
          rw [hox] at ho'; cases ho'
          exact hI.run_chain hr hb hdst hu hox h3 hxl hxV hnone hgl (fun v L' h => h.1) _ fun a' w' v L' hX hI' => ihm k _ A _ L' _ a' w' (next hcnt h2) hX.2 hI'

/-- The region: its operations in any order. -/
theorem G_plan {id : Nat} {L : List Res} (Rs : List Nat) (hmix : P.follows .mixedOrders = true) (hchk : (backW 0 l && rok l Rs && dstF n F l && unlikeB l) = true)
    (h : Plan P n w0 M Q l Rs F l.length [] [] [] L) : G P n w0 M (.region id l.toArray true) Q F L := by
  simp only [Bool.and_eq_true] at hchk
  obtain ⟨⟨⟨hb, hr⟩, hdst⟩, hu⟩ := hchk
  intro a w hF hS
  refine wp_region_any hmix ?_
  refine plan_sound hb hr hdst hu _ l.length [] [] [] L _ a _ ?_ h ⟨by simp, fun x o _ hx => ?_, hF, hS.drew _, fun j hj => ?_, fun j hj => by simp at hj, fun x hx => by simp at hx, fun j hj => by simp at hj⟩
  · simp
  · rw [Array.getD_eq_getD_getElem?, Array.getElem?_replicate] at hx; split at hx <;> simp at hx
  · rw [Array.getD_eq_getD_getElem?, Array.getElem?_replicate] at hj; split at hj <;> simp at hj

theorem G_planN {id N : Nat} {L : List Res} (Rs : List Nat) (hmix : P.follows .mixedOrders = true) (hchk : (backW 0 l && rok l Rs && dstF n F l && unlikeB l) = true) (hN : l.length = N)
    (h : Plan P n w0 M Q l Rs F N [] [] [] L) : G P n w0 M (.region id l.toArray true) Q F L := G_plan Rs hmix hchk (hN ▸ h)
/-! #### steps of a plan -/
section
variable {k i d : Nat} {V A : List Nat} {D : List (Nat × (Nat × Value))} {L : List Res} {op : Op} {T : TypeId} {pos : String} {aft : Array Edge} {v : Value} {j t : Nat} {c y b : Bool}
theorem Plan_end (hV : ((List.range l.length).all fun x => V.elem x) = true) (h : GQ n w0 M Q .normal (factsD D ++ F) L) : Plan P n w0 M Q l Rs F 0 V A D L := ⟨hV, h⟩
def flOk (l : List Oper) (V : List Nat) (i : Nat) (aft : List Edge) : Bool := !(V.elem i) && aft.all fun e => !Region.binds .any e || V.elem e.on
theorem Plan_float (i : Nat) {o : Oper} {d : Nat} {v : Value} (ho : l[i]? = some o) (hd : o.dst = some d) (hc : flOk l V i o.after.toList = true) (hok : OpOk P n w0 M Q l.toArray F L o D v) (h : Plan P n w0 M Q l Rs F k (i :: V) (i :: A) ((i, (d, v)) :: D) L) (hlk : lkOk F d v := by first | exact .inl rfl | exact .inr rfl) : Plan P n w0 M Q l Rs F (k + 1) V A D L := by
  simp only [flOk, Bool.and_eq_true, Bool.not_eq_true'] at hc
  exact .inl ⟨i, o, d, v, ho, hd, hc.1, hc.2, hok, hlk, h⟩
def dstN (d : Option Nat) (F : List (Nat × Value)) : Bool := match d with | some d => (lk d F).isNone | none => true
theorem dstN_of {o : Oper} (h : dstN o.dst F = true) : ∀ d, o.dst = some d → lk d F = none := fun d hd => by
  rw [hd] at h
  simpa [dstN] using h
theorem Plan_chain (b : Nat) {o : Oper} (ho : l[b]? = some o) (hc : (!(V.elem b) && chOk l Rs V [b]) = true)
    (h : GL P n w0 M l.toArray (QK (PK n w0 M o fun v L' => Pend P n w0 M Q l Rs F b (addD b o.dst v D) L' A ∧ Plan P n w0 M Q l Rs F k (b :: V) A (addD b o.dst v D) L') Q) [o] (depF D o.after.toList ++ F) L) (hn : dstN o.dst F = true := by rfl) : Plan P n w0 M Q l Rs F (k + 1) V A D L := by
  simp only [Bool.and_eq_true, Bool.not_eq_true'] at hc
  exact .inr ⟨b, [], hc.2, fun x hx => by simp at hx; subst hx; exact ⟨o, ho, hc.1, dstN_of hn, h⟩⟩
theorem Plan_two (b b2 : Nat) {o o2 : Oper} (ho : l[b]? = some o) (ho2 : l[b2]? = some o2) (hc : (!(V.elem b) && !(V.elem b2) && chOk l Rs V [b, b2]) = true)
    (h : GL P n w0 M l.toArray (QK (PK n w0 M o fun v L' => Pend P n w0 M Q l Rs F b (addD b o.dst v D) L' A ∧ Plan P n w0 M Q l Rs F k (b :: V) A (addD b o.dst v D) L') Q) [o] (depF D o.after.toList ++ F) L)
    (h2 : GL P n w0 M l.toArray (QK (PK n w0 M o2 fun v L' => Pend P n w0 M Q l Rs F b2 (addD b2 o2.dst v D) L' A ∧ Plan P n w0 M Q l Rs F k (b2 :: V) A (addD b2 o2.dst v D) L') Q) [o2] (depF D o2.after.toList ++ F) L) (hn : dstN o.dst F = true := by rfl) (hn2 : dstN o2.dst F = true := by rfl) : Plan P n w0 M Q l Rs F (k + 1) V A D L := by
  simp only [Bool.and_eq_true, Bool.not_eq_true'] at hc
  refine .inr ⟨b, [b2], hc.2, fun x hx => ?_⟩
  simp at hx
  rcases hx with rfl | rfl
  · exact ⟨o, ho, hc.1.1, dstN_of hn, h⟩
  · exact ⟨o2, ho2, hc.1.2, dstN_of hn2, h2⟩
theorem Pend_nil : Pend P n w0 M Q l Rs F i D L [] := trivial
theorem Pend_skip (hr : reaches Rs i j = true) (h : Pend P n w0 M Q l Rs F i D L A) : Pend P n w0 M Q l Rs F i D L (j :: A) := ⟨.inl hr, h⟩
theorem Pend_okv {o : Oper} {d : Nat} {v v' : Value} (ho : l[j]? = some o) (hok : OpOk P n w0 M Q l.toArray F L o D v') (hl : lkD j D = some (d, v)) (e : v' = v) (h : Pend P n w0 M Q l Rs F i D L A) : Pend P n w0 M Q l Rs F i D L (j :: A) := ⟨.inr ⟨o, d, v, ho, hl, e ▸ hok⟩, h⟩
/-- The operation has run: what stands behind it. -/
theorem GL_hand {o : Oper} {X : Value → List Res → Prop} {ops : Array Oper} {d : Nat} {v : Value} {F' : List (Nat × Value)} {L' : List Res} (hd : o.dst = some d) (h : X v L') : GL P n w0 M ops (QK (PK n w0 M o X) Q) [] ((d, v) :: F') L' := by
  intro a w hF hS
  exact ⟨v, L', fun d' hd' => (by rw [hd] at hd'; cases hd'; exact hF.get d v (by simp [lk])), hF.defers, hF.size, hS, h⟩
theorem GL_hand0 {o : Oper} {X : Value → List Res → Prop} {ops : Array Oper} {F' : List (Nat × Value)} {L' : List Res} (hd : o.dst = none) (h : X undef L') : GL P n w0 M ops (QK (PK n w0 M o X) Q) [] F' L' := by
  intro a w hF hS
  exact ⟨undef, L', fun d' hd' => (by rw [hd] at hd'; cases hd'), hF.defers, hF.size, hS, h⟩
theorem OK_s (h : EX P n w0 M op T (depF D aft.toList ++ F) L v) : OpOk P n w0 M Q l.toArray F L ⟨some d, op, T, pos, aft, none⟩ D v :=
  fun a w K hF hS hK => by simp only [Region.wanted, if_true]; exact h a w K Q _ _ _ _ hF hS hK
theorem OK_g (hw : ∀ a, Fr n a (depF D aft.toList ++ F) → ∀ b, Region.wanted ⟨some d, op, T, pos, aft, some (j, b)⟩ (yielded l.toArray a.tmps) = (match b with | true => c && y | false => c && !y)) {b : Bool}
    (h : c = true → y = b → EX P n w0 M op T (depF D aft.toList ++ F) L v) : OpOk P n w0 M Q l.toArray F L ⟨some d, op, T, pos, aft, some (j, b)⟩ D (cv (match b with | true => c && y | false => c && !y) v) := fun a w K hF hS hK => by
  rw [hw a hF b]
  cases c <;> cases y <;> cases b <;> simp [cv] at hK ⊢ <;> first | exact h rfl rfl a w K Q _ _ _ _ hF hS hK | exact hK w hS
theorem wanted_b {F : List (Nat × Value)} {ops : Array Oper} {a : Go.Act} {d : Nat} {op : Op} {T : TypeId} {pos : String} {aft : Array Edge} {j t : Nat} {y : Bool} (hF : Fr n a F) (hj : (ops[j]?).bind (·.dst) = some t) (hb : lk t F = some (.bool y)) (b : Bool) : Region.wanted ⟨some d, op, T, pos, aft, some (j, b)⟩ (yielded ops a.tmps) = (match b with | true => true && y | false => true && !y) := by
  simp only [Region.wanted, yielded_of hF hj hb]; cases y <;> cases b <;> rfl
theorem OK_gt (hj : (l.toArray[j]?).bind (·.dst) = some t) (hb : lk t (depF D aft.toList ++ F) = some (.bool y)) (h : y = true → EX P n w0 M op T (depF D aft.toList ++ F) L v) : OpOk P n w0 M Q l.toArray F L ⟨some d, op, T, pos, aft, some (j, true)⟩ D (cv y v) := by
  have := OK_g (P := P) (w0 := w0) (M := M) (Q := Q) (L := L) (T := T) (d := d) (pos := pos) (op := op) (v := v) (c := true) (y := y) (b := true) (fun _ hF b => wanted_b hF hj hb b) (fun _ => h)
  simpa using this
theorem OK_gf (hj : (l.toArray[j]?).bind (·.dst) = some t) (hb : lk t (depF D aft.toList ++ F) = some (.bool y)) (h : y = false → EX P n w0 M op T (depF D aft.toList ++ F) L v) : OpOk P n w0 M Q l.toArray F L ⟨some d, op, T, pos, aft, some (j, false)⟩ D (cv (!y) v) := by
  have := OK_g (P := P) (w0 := w0) (M := M) (Q := Q) (L := L) (T := T) (d := d) (pos := pos) (op := op) (v := v) (c := true) (y := y) (b := false) (fun _ hF b => wanted_b hF hj hb b) (fun _ => h)
  simpa using this
theorem OK_gtc (hj : (l.toArray[j]?).bind (·.dst) = some t) (hb : lk t (depF D aft.toList ++ F) = some (cv c (.bool y))) (h : c = true → y = true → EX P n w0 M op T (depF D aft.toList ++ F) L v) : OpOk P n w0 M Q l.toArray F L ⟨some d, op, T, pos, aft, some (j, true)⟩ D (cv (c && y) v) :=
  OK_g (b := true) (fun _ hF b => wanted_cv hF hj hb b) h
theorem OK_gfc (hj : (l.toArray[j]?).bind (·.dst) = some t) (hb : lk t (depF D aft.toList ++ F) = some (cv c (.bool y))) (h : c = true → y = false → EX P n w0 M op T (depF D aft.toList ++ F) L v) : OpOk P n w0 M Q l.toArray F L ⟨some d, op, T, pos, aft, some (j, false)⟩ D (cv (c && !y) v) :=
  OK_g (b := false) (fun _ hF b => wanted_cv hF hj hb b) h
end
end
end Go.Ing
/- Engine, part 13: structs held against one another; parts of strings and slices; bits. -/
namespace Go.Ing
open Go
theorem beqD {α : Type} [DecidableEq α] [BEq α] [LawfulBEq α] (x y : α) : (x == y) = decide (x = y) := by
  by_cases h : x = y <;> simp [h]
theorem if_t {α : Type} {c : Bool} {a b : α} (h : c = true) : (if c = true then a else b) = a := if_pos h
theorem if_f {α : Type} {c : Bool} {a b : α} (h : c = false) : (if c = true then a else b) = b := if_neg (by rw [h]; decide)
/-- Two values of this type are alike just if what they mean is. -/
def EqV (P : Program) (k T : Nat) {α : Type} [DecidableEq α] (val : α → Value) : Prop := ∀ d x y w, (Op.equalIn (d + k) T (val x) (val y)).run P w = .ok (decide (x = y)) w
theorem EqV.up {P : Program} {k k' T : Nat} {α : Type} [DecidableEq α] {val : α → Value} (h : EqV P k T val) (hk : k ≤ k') : EqV P k' T val := fun d x y w => by
  have := h (d + (k' - k)) x y w
  rwa [show d + (k' - k) + k = d + k' by omega] at this
theorem EqV_int {P : Program} {T : Nat} {k : IntKind} (hu : P.underlying T = some (.int k)) : EqV P 1 T (fun n : Int => .int k n) := fun d x y w => by
  rw [run_equalIn_int w d T k k x y hu, beqD]
theorem EqV_bool {P : Program} {T : Nat} (hu : P.underlying T = some .bool) : EqV P 1 T (fun b : Bool => .bool b) := fun d x y w => by
  rw [run_equalIn_bool w d T x y hu, beqD]
theorem EqV_str {P : Program} {T : Nat} (hu : P.underlying T = some .string) : EqV P 1 T (fun s : Str => vstr s) := fun d x y w => by
  rw [run_equalIn_string w d T _ _ hu, ByteArray.toList_mk, ByteArray.toList_mk, beqD]
/-- How a part is read out of cells. -/
def PartOf (P : Program) (T sz : Nat) {β : Type} (eb : β → List Value) (val : β → Value) : Prop := (TyA P T sz ∧ ∀ y, val y = .agg (eb y).toArray) ∨ (TyS P T ∧ sz = 1 ∧ ∀ y, eb y = [val y])
theorem part_lens {P : Program} {α β : Type} {ea : α → List Value} {eb : β → List Value} {o sz T : Nat} {g : α → β} {s : α → β → α} {val : β → Value} (hT : PartOf P T sz eb val) (hl : Lens ea eb o sz g s) (x : α) (w : World) : (part T (ea x).toArray o).run P w = .ok (val (g x)) w := by
  have hg := hl.get x
  have hb := hl.bnd x
  rcases hT with ⟨hT, hv⟩ | ⟨hT, hs, hv⟩
  · have h1 := hT.1 w
    have h2 := hT.2 w
    have hx2 : (ea x).toArray.extract o (o + sz) = (eb (g x)).toArray := by
      rw [← hg]; apply Array.ext'; simp [List.extract_eq_take_drop]
    simp [part, h1, h2, hv]
    exact hg
  · have h1 := hT w
    subst hs
    rw [hv, List.drop_eq_getElem_cons (by omega), List.take_succ_cons, List.take_zero] at hg
    have hc : (ea x)[o]? = some (val (g x)) := by
      rw [List.getElem?_eq_getElem (by omega), List.head_eq_of_cons_eq hg]
    simp [part, h1, hc]
inductive EqFs (P : Program) (k : Nat) {α : Type} (ea : α → List Value) : List Field → (α → α → Bool) → Prop where
  | nil : EqFs P k ea [] (fun _ _ => true)
  | cons {f : Field} {fs : List Field} {r : α → α → Bool} {β : Type} [DecidableEq β] {eb : β → List Value} {val : β → Value} {k' o sz : Nat} {g : α → β} {s : α → β → α} (hn : f.name ≠ "_") (ho : f.offset = o) (hT : PartOf P f.type sz eb val) (hl : Lens ea eb o sz g s) (he : EqV P k' f.type val) (hk : k' ≤ k) (h : EqFs P k ea fs r) :
      EqFs P k ea (f :: fs) (fun x y => decide (g x = g y) && r x y)
theorem EqFs.run {P : Program} {k : Nat} {α : Type} {ea : α → List Value} {fs : List Field} {r : α → α → Bool} (h : EqFs P k ea fs r) (d : Nat) (x y : α) (w : World) : (Op.eqFields (d + k) (ea x).toArray (ea y).toArray fs).run P w = .ok (r x y) w := by
  induction h with
  | nil => rfl
  | cons hn ho hT hl he hk _ ih =>
    rename_i f fs r β _ eb val k' o sz g s _
    have h1 := part_lens hT hl x w
    have h2 := part_lens hT hl y w
    have h3 := (he.up hk) d (g x) (g y) w
    rw [← ho] at h1 h2
    simp only [Op.eqFields, ne_eq, hn, not_false_iff, if_true, Sem.run_bind, h1, h2, h3, Result.andThen_ok]
    cases hd : decide (g x = g y) with
    | true => simpa using ih
    | false => rfl
theorem EqV_struct {P : Program} {k T : Nat} {α : Type} [DecidableEq α] {ea : α → List Value} {fs : Array Field} {r : α → α → Bool} (hu : P.underlying T = some (.struct fs)) (hp : P.stoodInHeld T = false) (h : EqFs P k ea fs.toList r) (hr : ∀ x y, r x y = decide (x = y)) : EqV P (k + 1) T (fun x : α => .agg (ea x).toArray) := fun d x y w => by
  have hf : P.fieldsOf T = fs := by simp [Program.fieldsOf, hu]
  rw [show d + (k + 1) = (d + k) + 1 from rfl, run_equalIn_struct w (d + k) T _ _ (by rw [hf]; exact hu) hp, hf, h.run, hr]
theorem eqItems_all {P : Program} {d E c : Nat} {xs ys : Array Value} {q : Nat → Bool} {n : Nat} {w : World} (h : ∀ i, i < n → (do
      let a ← part E xs (i * c)
      let b ← part E ys (i * c)
      Op.equalIn d E a b : Sem Bool).run P w = .ok (q i) w) : ∀ (l : List Nat), (∀ i ∈ l, i < n) → (Op.eqItems d E c xs ys l).run P w = .ok (l.all q) w
  | [], _ => rfl
  | i :: l, hl => by
    have h1 := h i (hl i (by simp))
    have h2 := eqItems_all h l fun j hj => hl j (by simp [hj])
    simp only [Op.eqItems, List.all_cons]
    simp only [Sem.run_bind] at h1 ⊢
    revert h1
    generalize (part E xs (i * c)).run P w = r1
    cases r1 with
    | halt x w1 => intro h1; simp [Result.andThen] at h1
    | ok a w1 =>
      simp only [Result.andThen_ok]
      generalize (part E ys (i * c)).run P w1 = r2
      cases r2 with
      | halt x w1 => intro h1; simp [Result.andThen] at h1
      | ok b w2 =>
        simp only [Result.andThen_ok]
        intro h1
        rw [h1]
        simp only [Result.andThen_ok]
        cases q i with
        | true => simpa using h2
        | false => rfl
theorem vec_eq_all {α : Type} [DecidableEq α] [Inhabited α] {n : Nat} (x y : Vector α n) : ((List.range n).all fun i => decide (x.at (i : Int) = y.at (i : Int))) = decide (x = y) := by
  rw [Bool.eq_iff_iff, List.all_eq_true, decide_eq_true_iff]
  constructor
  · intro h
    apply Vector.ext
    intro i hi
    have := h i (List.mem_range.2 hi)
    simpa [Vector.at, List.getD, hi] using this
  · rintro rfl i _
    simp
theorem EqV_arr {P : Program} {k T n E sz : Nat} {α : Type} [DecidableEq α] [Inhabited α] {e : α → List Value} {val : α → Value} (fe : Flat e sz) (hu : P.underlying T = some (.array n E)) (hi : (P.info? E).isSome = true) (hs : P.cellsOf E = sz) (hT : PartOf P E sz e val) (he : EqV P k E val) : EqV P (k + 1) T (fun v : Vector α n => .agg (encA e v).toArray) := fun d x y w => by
  obtain ⟨i, hi⟩ := Option.isSome_iff_exists.1 hi
  rw [show d + (k + 1) = (d + k) + 1 from rfl, run_equalIn_array w (d + k) _ _ hu hi, hs, ← vec_eq_all]
  refine eqItems_all (n := n) (fun i hi => ?_) _ fun i hi => List.mem_range.1 hi
  have hl := Lens.arr (n := n) fe (i := (i : Int)) (by omega) (by omega)
  have h1 := part_lens hT hl x w
  have h2 := part_lens hT hl y w
  rw [Int.toNat_natCast] at h1 h2
  simp only [Sem.run_bind, h1, h2, Result.andThen_ok]
  exact he d _ _ w
section
variable {P : Program} {n : Nat} {w0 : World} {M : List Nat} {Q : Exit → Go.Act → World → Prop} {F F' : List (Nat × Value)} {L L' : List Res} {ops : Array Oper} {rest : List Oper}
theorem PS_eql_agg {α : Type} [DecidableEq α] {ea : α → List Value} {k T U V : Nat} {x y : Operand} {X Y : α} (he : EqV P k T (fun x : α => .agg (ea x).toArray)) (hk : k ≤ 10000) (hg : P.eqGuardType P.depth T = false) (hx : ev F x = some (.agg (ea X).toArray)) (hy : ev F y = some (.agg (ea Y).toArray)) : PS P n w0 M (.binOp .eql T x y V) U F L (.bool (decide (X = Y))) L := PS_of fun a w hF => by
  have h1 := run_eqGuard_agg w .eql T x y (ea X).toArray (ea Y).toArray hg
  have h2 := run_eql_struct (P := P) w T (ea X).toArray (ea Y).toArray
  rw [show (10000 : Nat) = (10000 - k) + k by omega, he] at h2
  simp [execOp, hF.ev hx, hF.ev hy, h1, h2]
theorem PS_neq_agg {α : Type} [DecidableEq α] {ea : α → List Value} {k T U V : Nat} {x y : Operand} {X Y : α} (he : EqV P k T (fun x : α => .agg (ea x).toArray)) (hk : k ≤ 10000) (hg : P.eqGuardType P.depth T = false) (hx : ev F x = some (.agg (ea X).toArray)) (hy : ev F y = some (.agg (ea Y).toArray)) : PS P n w0 M (.binOp .neq T x y V) U F L (.bool (!decide (X = Y))) L := PS_of fun a w hF => by
  have h1 := run_eqGuard_agg w .neq T x y (ea X).toArray (ea Y).toArray hg
  have h2 := run_neq_struct (P := P) w T (ea X).toArray (ea Y).toArray
  rw [show (10000 : Nat) = (10000 - k) + k by omega, he] at h2
  simp [execOp, hF.ev hx, hF.ev hy, h1, h2]

/-! #### bits -/
/-! #### parts of strings and slices -/
/-- The elements from l to r of a slice. -/
def Hd.cut (h : Hd) (l r sz : Nat) : Hd := ⟨if h.cap = l then h.a else h.a.map (·.add (l * sz)), r - l, h.cap - l⟩
theorem Rd.cut {w : World} {h : Hd} {T sz : Nat} {cs : List Value} (hr : Rd w h T sz cs) {l r : Nat} (h1 : l ≤ r) (h2 : r ≤ h.len) (h3 : h.len ≤ h.cap) : Rd w (h.cut l r sz) T sz ((cs.take (r * sz)).drop (l * sz)) := by
  have hlen : ((cs.take (r * sz)).drop (l * sz)).length = (r - l) * sz := by
    rw [List.length_drop, List.length_take, Nat.min_eq_left (by rw [← hr.1]; exact Nat.mul_le_mul_right sz h2), Nat.sub_mul]
  refine ⟨by simp only [Hd.cut]; exact hlen.symm, fun hne => ?_⟩
  have hpos : 0 < (r - l) * sz := by
    rw [← hlen]; exact List.length_pos_iff.2 hne
  have hrl : 0 < r - l := Nat.pos_of_mul_pos_right hpos
  have hcs : cs ≠ [] := fun e => by subst e; simp at hne
  obtain ⟨b, o, C, fz, e1, e2, e3, e4, e5⟩ := hr.2 hcs
  have hm1 : r * sz ≤ h.len * sz := Nat.mul_le_mul_right sz h2
  have hm2 : l * sz ≤ r * sz := Nat.mul_le_mul_right sz h1
  rw [hr.1] at hm1
  refine ⟨b, o + l * sz, C, fz, ?_, e2, e3, ?_, ?_⟩
  · simp only [Hd.cut]
    rw [if_neg (by omega), e1]
    simp [add_at]
  · rw [hlen, Nat.sub_mul]; omega
  · rw [hlen, ← e5, Nat.sub_mul, List.take_take, Nat.min_eq_left hm1, List.drop_take, List.drop_drop]
theorem cut_flat {α : Type} {e : α → List Value} {sz : Nat} (fe : Flat e sz) (xs : List α) {l r : Nat} : ((xs.flatMap e).take (r * sz)).drop (l * sz) = ((xs.take r).drop l).flatMap e := by
  have ht : ∀ (xs : List α) (r : Nat), (xs.flatMap e).take (r * sz) = (xs.take r).flatMap e := by
    intro xs
    induction xs with
    | nil => simp
    | cons x xs ih =>
      intro r
      cases r with
      | zero => simp
      | succ r => rw [List.flatMap_cons, List.take_succ_cons, List.flatMap_cons, List.take_append, fe.len, Nat.add_mul, Nat.one_mul, Nat.add_sub_cancel, ih, List.take_of_length_le (by rw [fe.len]; omega)]
  have hd : ∀ (xs : List α) (l : Nat), (xs.flatMap e).drop (l * sz) = (xs.drop l).flatMap e := by
    intro xs
    induction xs with
    | nil => simp
    | cons x xs ih =>
      intro l
      cases l with
      | zero => simp
      | succ l => rw [List.flatMap_cons, List.drop_succ_cons, ← ih, List.drop_append, fe.len, Nat.add_mul, Nat.one_mul, Nat.add_sub_cancel, List.drop_eq_nil_of_le (by rw [fe.len]; omega), List.nil_append]
  rw [ht, hd]
/-- No more than there is room for. -/
def KnC (w0 : World) (M : List Nat) (L : List Res) (h : Hd) : Prop := ∀ w, St w0 M w L → h.len ≤ h.cap
theorem KnC.of {h : Hd} (hc : h.len ≤ h.cap) : KnC w0 M L h := fun _ _ => hc
theorem KnC.own {h : Hd} {T sz : Nat} {cs : List Value} (hm : Res.own h T sz cs ∈ L) : KnC w0 M L h := fun w hS => by
  rcases hS.ok _ hm with ⟨rfl, _⟩ | ⟨b, o, C, fz, h1, h2, h3, h4, h5, h6, _⟩
  · exact Nat.le_refl _
  · exact h6
theorem Kn.cut {α : Type} {e : α → List Value} {T sz : Nat} {h : Hd} {xs : List α} (fe : Flat e sz) (hk : Kn w0 M L h T sz (xs.flatMap e)) {l r : Nat} (h1 : l ≤ r) (h2 : r ≤ h.len) (h3 : KnC w0 M L h) : Kn w0 M L (h.cut l r sz) T sz (((xs.take r).drop l).flatMap e) := fun w hS => by
  rw [← cut_flat fe]; exact (hk w hS).cut h1 h2 (h3 w hS)
/-! #### pieces -/
theorem GL_nilown {l : List Oper} (T sz : Nat) (h : GL P n w0 M ops Q l F (Res.own ⟨none, 0, 0⟩ T sz [] :: L)) : GL P n w0 M ops Q l F L := fun a w hF hS => h a w hF (hS.own_nil T sz)
theorem G_nilown {c : Code} (T sz : Nat) (h : G P n w0 M c Q F (Res.own ⟨none, 0, 0⟩ T sz [] :: L)) : G P n w0 M c Q F L := fun a w hF hS => h a w hF (hS.own_nil T sz)
theorem GQ_pulls {e : Exit} {A K : List Res} (hp : Pulls L A K) (h : GQ n w0 M Q e F (A ++ K)) : GQ n w0 M Q e F L := fun a w hF hS => h a w hF (hS.perm hp.perm)
theorem GQ_dropr {e : Exit} {A K : List Res} (h : GQ n w0 M Q e F A) : GQ n w0 M Q e F (A ++ K) := fun a w hF hS => h a w hF hS.headL
/-! #### calls that read what they are handed -/
def CtrR (P : Program) (f : FuncId) (args : Array Value) (A : List Res) (H : World → Prop) (Post : Value → List Res → Prop) : Prop :=
  ∀ w, St w (feet A) w A → H w → Ret P f args w fun v w' => ∃ B, Post v B ∧ St w (feet A) w' B
theorem GL_callR {d : Nat} {f : FuncId} {args : List Operand} {ts : Array TypeId} {T : TypeId} {pos : String} {aft : Array Edge} {vs : List Value} {H : World → Prop} {Post : Value → List Res → Prop} {A K : List Res} (hd : Nat.blt d n = true) (hc : CF P f) (ha : Evs F args vs) (hL : Pulls L A K)
    (h : CtrR P f vs.toArray A H Post) (hH : ∀ w, St w0 M w L → H w)
    (k : ∀ v B, Post v B → GL P n w0 M ops Q rest ((d, v) :: F) (B ++ K)) : GL P n w0 M ops Q (⟨some d, .call ⟨.value (.func f), args.toArray, ts⟩, T, pos, aft, none⟩ :: rest) F L :=
  GL_call hd hc ha (fun w hS => h w (hS.perm hL.perm).focus (hH w hS)) fun w v w' hS ⟨B, hP, hB⟩ => ⟨B ++ K, (hS.perm hL.perm).frame hB, k v B hP⟩
theorem Rd.len1 {w : World} {h : Hd} {T sz : Nat} {α : Type} {e : α → List Value} {xs : List α} (fe : Flat e sz) (hsz : 0 < sz) (hr : Rd w h T sz (xs.flatMap e)) : h.len = xs.length := by
  have h1 := hr.1
  rw [flatMap_len fe.len] at h1
  exact Nat.eq_of_mul_eq_mul_right hsz h1

/-! #### slices of the call's own, by what they mean -/
theorem GL_appendF {α : Type} {e : α → List Value} {d T U U2 E sz by_ gl : Nat} {x y : Operand} {pos : String} {aft : Array Edge} {h : Hd} {xs zs : List α} {z yv : Value} {Lf : Res → List Res} (fe : Flat e sz) (hd : Nat.blt d n = true) (hu : P.underlying U = some (.slice E)) (hs : Sz P E sz) (hz : ZV P E z) (hzs : z.cells.size = sz) (hby : BY P E by_) (hb0 : 0 < by_) (hsz : 0 < sz)
    (hx : ev F x = some h.val) (hy : ev F y = some yv) (hk : ∀ w, St w0 M w L → Src P w U2 sz yv gl (zs.flatMap e)) (hbd : (2 * (h.len + gl) + 192) * by_ ≤ 281474976710656) (hU : ∀ r, Upd L (Res.own h E sz (xs.flatMap e)) r (Lf r))
    (k : ∀ h' : Hd, h'.len = h.len + gl → (h.Z → h'.Z) → GL P n w0 M ops Q rest ((d, h'.val) :: F) (Lf (Res.own h' E sz ((xs ++ zs).flatMap e)))) : GL P n w0 M ops Q (⟨some d, .call ⟨.builtin .append, #[x, y], #[U, U2]⟩, T, pos, aft, none⟩ :: rest) F L :=
  GL_appendG hd hu hs hz hzs hby hb0 hsz hx hy hk fe.allOne hbd hU (fun h' a b => by rw [← List.flatMap_append]; exact k h' a b)
theorem GL_bs1F {α : Type} (e : α → List Value) {a : α} {d T U E sz : Nat} {x : Operand} {pos : String} {aft : Array Edge} {v z : Value} (fe : Flat e sz) (hd : Nat.blt d n = true) (hu : P.underlying T = some (.slice E)) (hs : Sz P E sz) (hz : ZV P E z) (hzs : z.cells.size = sz) (hsz : 0 < sz) (hbig : sz ≤ 16777216) (hx : ev F x = some v) (hv : v.cells = (e a).toArray)
    (k : ∀ b, GL P n w0 M ops Q rest ((d, Hd.val ⟨some ⟨b, 0, none⟩, 1, 1⟩) :: F) (Res.own ⟨some ⟨b, 0, none⟩, 1, 1⟩ E sz ([a].flatMap e) :: L)) : GL P n w0 M ops Q (⟨some d, .buildSlice T 1 #[(0, x)], U, pos, aft, none⟩ :: rest) F L :=
  GL_bs1 hd hu hs hz hzs hsz hbig hx hv (fe.len a) (fun b => by
    have := k b
    rwa [show [a].flatMap e = e a by simp] at this)
theorem GL_nilF {α : Type} {l : List Oper} (e : α → List Value) (T sz : Nat) (h : GL P n w0 M ops Q l F (Res.own ⟨none, 0, 0⟩ T sz (([] : List α).flatMap e) :: L)) : GL P n w0 M ops Q l F L := GL_nilown T sz h
theorem G_nilF {α : Type} {c : Code} (e : α → List Value) (T sz : Nat) (h : G P n w0 M c Q F (Res.own ⟨none, 0, 0⟩ T sz (([] : List α).flatMap e) :: L)) : G P n w0 M c Q F L := G_nilown T sz h
end
end Go.Ing
/- Engine: loops and ways that meet, over a state of several parts. -/
namespace Go.Ing
open Go
section
variable {P : Program} {n : Nat} {w0 : World} {M : List Nat} {Q : Exit → Go.Act → World → Prop} {F : List (Nat × Value)} {L : List Res}
def Nxt1 (n : Nat) (w0 : World) (M : List Nat) {α0 : Type} (I : α0 → Prop) (μ : α0 → Nat) (Fs : α0 → List (Nat × Value)) (Ls : α0 → List Res) (U : List (Nat × Value)) (K : List Res) (m : Nat) (a : Go.Act) (w : World) : Prop := Nxt (σ := α0) n w0 M (fun z => I z) (fun z => μ z) (fun z => Fs z ++ U) (fun z => Ls z ++ K) m a w
theorem G_loop1_ {α0 : Type} {c : Code} {U : List (Nat × Value)} {K : List Res} (I : α0 → Prop) (μ : α0 → Nat) (Ms : α0 → List (Nat × Value)) (Ls : α0 → List Res) (a0 : α0) (h0 : I a0) (hF0 : F = Ms a0 ++ U) (hL0 : L = Ls a0 ++ K)
    (round : ∀ (a0 : α0), I a0 → G P n w0 M c (Exit.then (Nxt1 n w0 M I μ Ms Ls U K (μ a0)) Q) (Ms a0 ++ U) (Ls a0 ++ K)) : G P n w0 M (.loop c) Q F L :=
  G_loop (σ := α0) (fun z => I z) (fun z => μ z) (fun z => Ms z ++ U) (fun z => Ls z ++ K) a0 h0 (by rw [hF0]; exact Sub.refl _) (by rw [hL0]; exact List.Sublist.refl _) (fun z h => round z h)
theorem GQ_next1_ {α0 : Type} {I : α0 → Prop} {μ : α0 → Nat} {Ms : α0 → List (Nat × Value)} {Ls : α0 → List Res} {U : List (Nat × Value)} {K : List Res} {m : Nat} (a0 : α0) (hI : I a0) (hm : μ a0 < m) (hF : Sub F (Ms a0 ++ U)) (hL : (Ls a0 ++ K).Sublist L) : GQ n w0 M (Exit.then (Nxt1 n w0 M I μ Ms Ls U K m) Q) .normal F L :=
  GQ_next (σ := α0) a0 hI hm hF hL
def Nxt2 (n : Nat) (w0 : World) (M : List Nat) {α0 α1 : Type} (I : α0 → α1 → Prop) (μ : α0 → α1 → Nat) (Fs : α0 → α1 → List (Nat × Value)) (Ls : α0 → α1 → List Res) (U : List (Nat × Value)) (K : List Res) (m : Nat) (a : Go.Act) (w : World) : Prop := Nxt (σ := α0 × α1) n w0 M (fun z => I z.1 z.2) (fun z => μ z.1 z.2) (fun z => Fs z.1 z.2 ++ U) (fun z => Ls z.1 z.2 ++ K) m a w
theorem G_loop2_ {α0 α1 : Type} {c : Code} {U : List (Nat × Value)} {K : List Res} (I : α0 → α1 → Prop) (μ : α0 → α1 → Nat) (Ms : α0 → α1 → List (Nat × Value)) (Ls : α0 → α1 → List Res) (a0 : α0) (a1 : α1) (h0 : I a0 a1) (hF0 : F = Ms a0 a1 ++ U) (hL0 : L = Ls a0 a1 ++ K)
    (round : ∀ (a0 : α0) (a1 : α1), I a0 a1 → G P n w0 M c (Exit.then (Nxt2 n w0 M I μ Ms Ls U K (μ a0 a1)) Q) (Ms a0 a1 ++ U) (Ls a0 a1 ++ K)) : G P n w0 M (.loop c) Q F L :=
  G_loop (σ := α0 × α1) (fun z => I z.1 z.2) (fun z => μ z.1 z.2) (fun z => Ms z.1 z.2 ++ U) (fun z => Ls z.1 z.2 ++ K) (a0, a1) h0 (by rw [hF0]; exact Sub.refl _) (by rw [hL0]; exact List.Sublist.refl _) (fun z h => round z.1 z.2 h)
theorem GQ_next2_ {α0 α1 : Type} {I : α0 → α1 → Prop} {μ : α0 → α1 → Nat} {Ms : α0 → α1 → List (Nat × Value)} {Ls : α0 → α1 → List Res} {U : List (Nat × Value)} {K : List Res} {m : Nat} (a0 : α0) (a1 : α1) (hI : I a0 a1) (hm : μ a0 a1 < m) (hF : Sub F (Ms a0 a1 ++ U)) (hL : (Ls a0 a1 ++ K).Sublist L) : GQ n w0 M (Exit.then (Nxt2 n w0 M I μ Ms Ls U K m) Q) .normal F L :=
  GQ_next (σ := α0 × α1) (a0, a1) hI hm hF hL
def Nxt3 (n : Nat) (w0 : World) (M : List Nat) {α0 α1 α2 : Type} (I : α0 → α1 → α2 → Prop) (μ : α0 → α1 → α2 → Nat) (Fs : α0 → α1 → α2 → List (Nat × Value)) (Ls : α0 → α1 → α2 → List Res) (U : List (Nat × Value)) (K : List Res) (m : Nat) (a : Go.Act) (w : World) : Prop := Nxt (σ := α0 × α1 × α2) n w0 M (fun z => I z.1 z.2.1 z.2.2) (fun z => μ z.1 z.2.1 z.2.2) (fun z => Fs z.1 z.2.1 z.2.2 ++ U) (fun z => Ls z.1 z.2.1 z.2.2 ++ K) m a w
theorem G_loop3_ {α0 α1 α2 : Type} {c : Code} {U : List (Nat × Value)} {K : List Res} (I : α0 → α1 → α2 → Prop) (μ : α0 → α1 → α2 → Nat) (Ms : α0 → α1 → α2 → List (Nat × Value)) (Ls : α0 → α1 → α2 → List Res) (a0 : α0) (a1 : α1) (a2 : α2) (h0 : I a0 a1 a2) (hF0 : F = Ms a0 a1 a2 ++ U) (hL0 : L = Ls a0 a1 a2 ++ K)
    (round : ∀ (a0 : α0) (a1 : α1) (a2 : α2), I a0 a1 a2 → G P n w0 M c (Exit.then (Nxt3 n w0 M I μ Ms Ls U K (μ a0 a1 a2)) Q) (Ms a0 a1 a2 ++ U) (Ls a0 a1 a2 ++ K)) : G P n w0 M (.loop c) Q F L :=
  G_loop (σ := α0 × α1 × α2) (fun z => I z.1 z.2.1 z.2.2) (fun z => μ z.1 z.2.1 z.2.2) (fun z => Ms z.1 z.2.1 z.2.2 ++ U) (fun z => Ls z.1 z.2.1 z.2.2 ++ K) (a0, a1, a2) h0 (by rw [hF0]; exact Sub.refl _) (by rw [hL0]; exact List.Sublist.refl _) (fun z h => round z.1 z.2.1 z.2.2 h)
theorem GQ_next3_ {α0 α1 α2 : Type} {I : α0 → α1 → α2 → Prop} {μ : α0 → α1 → α2 → Nat} {Ms : α0 → α1 → α2 → List (Nat × Value)} {Ls : α0 → α1 → α2 → List Res} {U : List (Nat × Value)} {K : List Res} {m : Nat} (a0 : α0) (a1 : α1) (a2 : α2) (hI : I a0 a1 a2) (hm : μ a0 a1 a2 < m) (hF : Sub F (Ms a0 a1 a2 ++ U)) (hL : (Ls a0 a1 a2 ++ K).Sublist L) : GQ n w0 M (Exit.then (Nxt3 n w0 M I μ Ms Ls U K m) Q) .normal F L :=
  GQ_next (σ := α0 × α1 × α2) (a0, a1, a2) hI hm hF hL
def Nxt5 (n : Nat) (w0 : World) (M : List Nat) {α0 α1 α2 α3 α4 : Type} (I : α0 → α1 → α2 → α3 → α4 → Prop) (μ : α0 → α1 → α2 → α3 → α4 → Nat) (Fs : α0 → α1 → α2 → α3 → α4 → List (Nat × Value)) (Ls : α0 → α1 → α2 → α3 → α4 → List Res) (U : List (Nat × Value)) (K : List Res) (m : Nat) (a : Go.Act) (w : World) : Prop := Nxt (σ := α0 × α1 × α2 × α3 × α4) n w0 M (fun z => I z.1 z.2.1 z.2.2.1 z.2.2.2.1 z.2.2.2.2) (fun z => μ z.1 z.2.1 z.2.2.1 z.2.2.2.1 z.2.2.2.2) (fun z => Fs z.1 z.2.1 z.2.2.1 z.2.2.2.1 z.2.2.2.2 ++ U) (fun z => Ls z.1 z.2.1 z.2.2.1 z.2.2.2.1 z.2.2.2.2 ++ K) m a w
theorem G_loop5_ {α0 α1 α2 α3 α4 : Type} {c : Code} {U : List (Nat × Value)} {K : List Res} (I : α0 → α1 → α2 → α3 → α4 → Prop) (μ : α0 → α1 → α2 → α3 → α4 → Nat) (Ms : α0 → α1 → α2 → α3 → α4 → List (Nat × Value)) (Ls : α0 → α1 → α2 → α3 → α4 → List Res) (a0 : α0) (a1 : α1) (a2 : α2) (a3 : α3) (a4 : α4) (h0 : I a0 a1 a2 a3 a4) (hF0 : F = Ms a0 a1 a2 a3 a4 ++ U) (hL0 : L = Ls a0 a1 a2 a3 a4 ++ K)
    (round : ∀ (a0 : α0) (a1 : α1) (a2 : α2) (a3 : α3) (a4 : α4), I a0 a1 a2 a3 a4 → G P n w0 M c (Exit.then (Nxt5 n w0 M I μ Ms Ls U K (μ a0 a1 a2 a3 a4)) Q) (Ms a0 a1 a2 a3 a4 ++ U) (Ls a0 a1 a2 a3 a4 ++ K)) : G P n w0 M (.loop c) Q F L :=
  G_loop (σ := α0 × α1 × α2 × α3 × α4) (fun z => I z.1 z.2.1 z.2.2.1 z.2.2.2.1 z.2.2.2.2) (fun z => μ z.1 z.2.1 z.2.2.1 z.2.2.2.1 z.2.2.2.2) (fun z => Ms z.1 z.2.1 z.2.2.1 z.2.2.2.1 z.2.2.2.2 ++ U) (fun z => Ls z.1 z.2.1 z.2.2.1 z.2.2.2.1 z.2.2.2.2 ++ K) (a0, a1, a2, a3, a4) h0 (by rw [hF0]; exact Sub.refl _) (by rw [hL0]; exact List.Sublist.refl _) (fun z h => round z.1 z.2.1 z.2.2.1 z.2.2.2.1 z.2.2.2.2 h)
theorem GQ_next5_ {α0 α1 α2 α3 α4 : Type} {I : α0 → α1 → α2 → α3 → α4 → Prop} {μ : α0 → α1 → α2 → α3 → α4 → Nat} {Ms : α0 → α1 → α2 → α3 → α4 → List (Nat × Value)} {Ls : α0 → α1 → α2 → α3 → α4 → List Res} {U : List (Nat × Value)} {K : List Res} {m : Nat} (a0 : α0) (a1 : α1) (a2 : α2) (a3 : α3) (a4 : α4) (hI : I a0 a1 a2 a3 a4) (hm : μ a0 a1 a2 a3 a4 < m) (hF : Sub F (Ms a0 a1 a2 a3 a4 ++ U)) (hL : (Ls a0 a1 a2 a3 a4 ++ K).Sublist L) : GQ n w0 M (Exit.then (Nxt5 n w0 M I μ Ms Ls U K m) Q) .normal F L :=
  GQ_next (σ := α0 × α1 × α2 × α3 × α4) (a0, a1, a2, a3, a4) hI hm hF hL
end
end Go.Ing
/- Engine: slices and strings that come in. -/
namespace Go.Ing
open Go Go.RowKit Go.ChangeShapes Go.WideShapes Go.ChangeAt
section
variable {H : Type} {enc : TypeId × Value → H} {P : Program} {w : World}
end
theorem Src.sliceT {P : Program} {w : World} {U E T sz : Nat} {g : Hd} {ys : List Value} (hu : P.underlying U = some (.slice E)) (hg : Rd w g T sz ys) : Src P w U sz g.val g.len ys :=
  ⟨.inl ⟨_, hu⟩, fun _ => rfl, fun _ hk => firstCells_rd (hg.keep hk), hg.1⟩
end Go.Ing
