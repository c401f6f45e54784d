/- The engine: rules by which a walk over a function of the model goes operation by operation; data in cells; from a contract of a law to its row. No condition. -/
import Derived.Tactics2
import Derived.Below
import Derived.Orders
import Derived.KernelRfl
import Derived.LoopN
import Derived.IntWalk
import Derived.Laws.Small
import Derived.Laws.Strings
import Derived.Laws.StructEq
set_option linter.unusedSimpArgs false
set_option linter.unusedVariables false
/- Engine, part 1: frames, owned blocks, and the rules of control flow over the model's 'Code.wp'. -/
namespace Go.Ing
open Go

/-- The slot 'k' of a frame, latest first. -/
def lk (k : Nat) : List (Nat × Value) → Option Value
  | [] => none
  | (j, v) :: F => bif Nat.beq k j then some v else lk k F

def ev (F : List (Nat × Value)) : Operand → Option Value
  | .tmp t => lk t F
  | .const v => some v
  | .global g => some (.pointer (some ⟨g, 0, none⟩))
  | .func f => some (.func (.func f) #[] #[])

structure Fr (n : Nat) (a : Act) (F : List (Nat × Value)) : Prop where
  size : a.tmps.size = n
  defers : a.defers = []
  get : ∀ k v, lk k F = some v → a.tmps[k]? = some v

theorem Fr.ev {n : Nat} {a : Act} {F : List (Nat × Value)} (h : Fr n a F) {x : Operand} {v : Value} (hx : ev F x = some v) : a.eval x = v := by
  cases x with
  | tmp t => have := h.get t v hx; simp [Act.eval, this]
  | const c => simpa [Ing.ev, Act.eval] using hx
  | global g => simpa [Ing.ev, Act.eval] using hx
  | func f => simpa [Ing.ev, Act.eval] using hx

theorem Fr.put {n : Nat} {a : Act} {F : List (Nat × Value)} (h : Fr n a F) {d : Nat} (hd : d < n) (v : Value) : Fr n (a.put (some d) v) ((d, v) :: F) := by
  refine ⟨by simp [Act.put, h.size], h.defers, fun k u hk => ?_⟩
  simp only [Act.put]
  unfold lk at hk
  by_cases e : k = d
  · subst e
    simp at hk
    subst hk
    simp [h.size, hd]
  · have : Nat.beq k d = false := Bool.eq_false_iff.2 fun h => e (Nat.eq_of_beq_eq_true h)
    rw [this] at hk
    have := h.get k u hk
    rw [Array.getElem?_setIfInBounds_ne (fun h => e h.symm)]
    exact this

/-- What is put behind an operation: the frame. -/
def put (d : Option Nat) (v : Value) (F : List (Nat × Value)) : List (Nat × Value) :=
  match d with | some d => (d, v) :: F | none => F

/-- 'F' knows all that 'G' knows. -/
def Sub (F G : List (Nat × Value)) : Prop := ∀ k v, lk k G = some v → lk k F = some v
theorem Sub.refl (F : List (Nat × Value)) : Sub F F := fun _ _ h => h
theorem Sub.nil (F : List (Nat × Value)) : Sub F [] := fun _ _ h => by simp [lk] at h
theorem Sub.cons {F G : List (Nat × Value)} {k : Nat} {v : Value} (h : lk k F = some v) (hs : Sub F G) : Sub F ((k, v) :: G) := by
  intro j u hj
  unfold lk at hj
  by_cases e : j = k
  · subst e; simp at hj; subst hj; exact h
  · have : Nat.beq j k = false := Bool.eq_false_iff.2 fun h => e (Nat.eq_of_beq_eq_true h)
    rw [this] at hj
    exact hs j u hj
theorem Fr.sub {n : Nat} {a : Act} {F G : List (Nat × Value)} (h : Fr n a F) (hs : Sub F G) : Fr n a G := ⟨h.size, h.defers, fun k v hk => h.get k v (hs k v hk)⟩

/-- A piece of memory that we know of: the blocks on which it rests, and what holds of them. -/
structure Res where
  foot : List Nat
  ok : World → Prop
  loc : ∀ w w' : World, (∀ b ∈ foot, w'.heap[b]? = w.heap[b]?) → ok w → ok w'

/-- One block, whole. -/
def Res.box (b : Nat) (T : TypeId) (cs : List Value) : Res where
  foot := [b]
  ok w := w.heap[b]? = some (.cells cs.toArray T)
  loc w w' h hw := by rw [h b (by simp)]; exact hw

/-- 'w' is 'w0' with new blocks; of the old ones those in 'M' may have turned; 'L' is known. -/
structure St (w0 : World) (M : List Nat) (w : World) (L : List Res) : Prop where
  os : w.os = w0.os
  tape : w.tape = w0.tape
  output : w.output = w0.output
  size : w0.heap.size ≤ w.heap.size
  old : ∀ k, k < w0.heap.size → k ∉ M → w.heap[k]? = w0.heap[k]?
  ok : ∀ r ∈ L, r.ok w
  foot : ∀ r ∈ L, ∀ b ∈ r.foot, b < w.heap.size ∧ (b < w0.heap.size → b ∈ M)
  disj : L.Pairwise fun r s => ∀ b ∈ r.foot, b ∉ s.foot

theorem St.start (w : World) (M : List Nat) : St w M w [] :=
  ⟨rfl, rfl, rfl, Nat.le_refl _, fun _ _ _ => rfl, fun _ h => by simp at h, fun _ h => by simp at h, .nil⟩

theorem St.alloc {w0 : World} {M : List Nat} {w : World} {L : List Res} (h : St w0 M w L) (T : TypeId) (cs : List Value) :
    St w0 M (w.alloc (.cells cs.toArray T)) (Res.box w.heap.size T cs :: L) := by
  have hb : ∀ k, k < w.heap.size → (w.alloc (.cells cs.toArray T)).heap[k]? = w.heap[k]? := fun k hk => RowKit.Below.heap_alloc _ _ _ hk
  refine ⟨h.os, h.tape, h.output, by have := h.size; simp; omega, fun k hk hM => (hb k (by have := h.size; omega)).trans (h.old k hk hM), ?_, ?_, ?_⟩
  · intro r hr
    rcases List.mem_cons.1 hr with rfl | hr
    · show (w.heap.push _)[w.heap.size]? = _
      simp
    · exact r.loc w _ (fun b hbr => hb b (h.foot r hr b hbr).1) (h.ok r hr)
  · intro r hr b hbr
    rcases List.mem_cons.1 hr with rfl | hr
    · simp [Res.box] at hbr; subst hbr
      refine ⟨by simp, fun hlt => ?_⟩
      have := h.size; omega
    · have := h.foot r hr b hbr
      exact ⟨by simp; omega, this.2⟩
  · refine List.pairwise_cons.2 ⟨fun s hs b hbr hbs => ?_, h.disj⟩
    simp [Res.box] at hbr; subst hbr
    have := (h.foot s hs _ hbs).1
    omega

/-- One piece of the list is put in another's place. -/
inductive Upd : List Res → Res → Res → List Res → Prop where
  | head {r r' : Res} {L : List Res} : Upd (r :: L) r r' (r' :: L)
  | tail {s r r' : Res} {L L' : List Res} (h : Upd L r r' L') : Upd (s :: L) r r' (s :: L')

theorem Upd.mem {L L' : List Res} {r r' : Res} (h : Upd L r r' L') : r ∈ L := by
  induction h with
  | head => simp
  | tail _ ih => simp [ih]

theorem Upd.mem_new {L L' : List Res} {r r' : Res} (h : Upd L r r' L') : ∀ s ∈ L', s = r' ∨ s ∈ L := by
  induction h with
  | head => intro s hs; rcases List.mem_cons.1 hs with h | h <;> simp [h]
  | tail _ ih => intro s hs; rcases List.mem_cons.1 hs with h | h
                 · simp [h]
                 · rcases ih s h with h | h <;> simp [h]

theorem Upd.disj {L L' : List Res} {r r' : Res} (h : Upd L r r' L') (hf : ∀ b ∈ r'.foot, b ∈ r.foot ∨ ∀ s ∈ L, b ∉ s.foot) (hd : L.Pairwise fun r s => ∀ b ∈ r.foot, b ∉ s.foot) : L'.Pairwise fun r s => ∀ b ∈ r.foot, b ∉ s.foot := by
  induction h with
  | head =>
    rename_i r r' L
    have hp := List.pairwise_cons.1 hd
    refine List.pairwise_cons.2 ⟨fun s hs b hb hbs => ?_, hp.2⟩
    rcases hf b hb with h | h
    · exact hp.1 s hs b h hbs
    · exact h s (by simp [hs]) hbs
  | tail hu ih =>
    rename_i s r r' L L'
    have hp := List.pairwise_cons.1 hd
    refine List.pairwise_cons.2 ⟨fun t ht b hb hbt => ?_, ih (fun b hb => ?_) hp.2⟩
    · rcases hu.mem_new t ht with rfl | ht
      · rcases hf b hbt with h | h
        · exact hp.1 _ hu.mem b hb h
        · exact h s (by simp) hb
      · exact hp.1 t ht b hb hbt
    · rcases hf b hb with h | h
      · exact .inl h
      · exact .inr fun t ht => h t (by simp [ht])

/-- The pieces that are not turned: at every other piece there is nothing of the first. -/
theorem Upd.others {L L' : List Res} {r r' : Res} (h : Upd L r r' L') (hd : L.Pairwise fun r s => ∀ b ∈ r.foot, b ∉ s.foot) : ∀ s ∈ L', s = r' ∨ (s ∈ L ∧ ∀ b ∈ r.foot, b ∉ s.foot) := by
  induction h with
  | head =>
    intro s hs
    have hp := List.pairwise_cons.1 hd
    rcases List.mem_cons.1 hs with rfl | hs
    · simp
    · exact .inr ⟨by simp [hs], hp.1 s hs⟩
  | tail hu ih =>
    intro s hs
    have hp := List.pairwise_cons.1 hd
    rcases List.mem_cons.1 hs with rfl | hs
    · exact .inr ⟨by simp, fun b hb hbs => hp.1 _ hu.mem b hbs hb⟩
    · rcases ih hp.2 s hs with h | ⟨h1, h2⟩
      · exact .inl h
      · exact .inr ⟨by simp [h1], h2⟩

/-- A world in which one piece alone has turned (and new blocks may have come). -/
theorem St.turn {w0 : World} {M : List Nat} {w w' : World} {L L' : List Res} {r r' : Res} (h : St w0 M w L) (hu : Upd L r r' L')
    (hos : w'.os = w.os) (htape : w'.tape = w.tape) (hout : w'.output = w.output) (hsz : w.heap.size ≤ w'.heap.size)
    (hkeep : ∀ k, k < w.heap.size → k ∉ r.foot → w'.heap[k]? = w.heap[k]?) (hok : r'.ok w')
    (hf : ∀ b ∈ r'.foot, b < w'.heap.size ∧ (b ∈ r.foot ∨ w.heap.size ≤ b)) : St w0 M w' L' := by
  refine ⟨hos.trans h.os, htape.trans h.tape, hout.trans h.output, Nat.le_trans h.size hsz, ?_, ?_, ?_, ?_⟩
  · intro k hk hM
    have hr : k ∉ r.foot := fun hkr => hM ((h.foot r hu.mem k hkr).2 hk)
    exact (hkeep k (by have := h.size; omega) hr).trans (h.old k hk hM)
  · intro s hs
    rcases hu.others h.disj s hs with rfl | ⟨h1, h2⟩
    · exact hok
    · exact s.loc w w' (fun b hb => hkeep b (h.foot s h1 b hb).1 (fun hbr => h2 b hbr hb)) (h.ok s h1)
  · intro s hs b hb
    rcases hu.others h.disj s hs with rfl | ⟨h1, h2⟩
    · obtain ⟨a1, a2⟩ := hf b hb
      refine ⟨a1, fun hlt => ?_⟩
      rcases a2 with a2 | a2
      · exact (h.foot r hu.mem b a2).2 hlt
      · have := h.size; omega
    · have := h.foot s h1 b hb
      exact ⟨by omega, this.2⟩
  · refine hu.disj (fun b hb => ?_) h.disj
    rcases (hf b hb).2 with a2 | a2
    · exact .inl a2
    · exact .inr fun s hs hbs => by have := (h.foot s hs b hbs).1; omega

/-- Less may be known. -/
theorem St.sub {w0 : World} {M : List Nat} {w : World} {L L' : List Res} (h : St w0 M w L) (hs : L'.Sublist L) : St w0 M w L' :=
  ⟨h.os, h.tape, h.output, h.size, h.old, fun r hr => h.ok r (hs.subset hr), fun r hr => h.foot r (hs.subset hr), h.disj.sublist hs⟩

theorem St.drew {w0 : World} {M : List Nat} {w : World} {L : List Res} (h : St w0 M w L) (n : Nat) : St w0 M { w with drawn := n } L :=
  ⟨h.os, h.tape, h.output, h.size, h.old, fun r hr => r.loc w _ (fun _ _ => rfl) (h.ok r hr), h.foot, h.disj⟩

/-! ### Control -/
section
variable (P : Program) (n : Nat) (w0 : World) (M : List Nat)

def G (c : Code) (Q : Exit → Act → World → Prop) (F : List (Nat × Value)) (L : List Res) : Prop :=
  ∀ a w, Fr n a F → St w0 M w L → c.wp P Q a w
def GL (ops : Array Oper) (Q : Exit → Act → World → Prop) (l : List Oper) (F : List (Nat × Value)) (L : List Res) : Prop :=
  ∀ a w, Fr n a F → St w0 M w L → wpList P ops Q l a w
def GQ (Q : Exit → Act → World → Prop) (e : Exit) (F : List (Nat × Value)) (L : List Res) : Prop :=
  ∀ a w, Fr n a F → St w0 M w L → Q e a w
end

section
variable {P : Program} {n : Nat} {w0 : World} {M : List Nat} {Q : Exit → Act → World → Prop} {F : List (Nat × Value)} {L : List Res}

theorem G_seq {x y : Code} (h : G P n w0 M x (Exit.then (y.wp P Q) Q) F L) : G P n w0 M (.seq x y) Q F L := fun a w hF hS => wp_seq (h a w hF hS)
theorem G_block {id : Nat} {c : Code} (h : G P n w0 M c (Exit.inBlock id Q) F L) : G P n w0 M (.block id c) Q F L := fun a w hF hS => wp_block (h a w hF hS)
theorem G_exit {id : Nat} (h : GQ n w0 M Q (.exit id) F L) : G P n w0 M (.exit id) Q F L := fun a w hF hS => wp_exit (h a w hF hS)
theorem G_ret (h : GQ n w0 M Q .ret F L) : G P n w0 M .ret Q F L := fun a w hF hS => wp_ret (h a w hF hS)
theorem G_skip (h : GQ n w0 M Q .normal F L) : G P n w0 M .skip Q F L := fun a w hF hS => wp_skip (h a w hF hS)
theorem G_cond {c : Operand} {x y : Code} {b : Bool} (hc : ev F c = some (.bool b)) (ht : b = true → G P n w0 M x Q F L) (hf : b = false → G P n w0 M y Q F L) : G P n w0 M (.cond c x y) Q F L :=
  fun a w hF hS => wp_cond_split (hF.ev hc) (fun h => ht h a w hF hS) (fun h => hf h a w hF hS)
theorem G_true {c : Operand} {x y : Code} {b : Bool} (hc : ev F c = some (.bool b)) (hb : b = true) (ht : G P n w0 M x Q F L) : G P n w0 M (.cond c x y) Q F L :=
  G_cond hc (fun _ => ht) (fun h => by rw [hb] at h; cases h)
theorem G_false {c : Operand} {x y : Code} {b : Bool} (hc : ev F c = some (.bool b)) (hb : b = false) (hf : G P n w0 M y Q F L) : G P n w0 M (.cond c x y) Q F L :=
  G_cond hc (fun h => by rw [hb] at h; cases h) (fun _ => hf)
theorem G_region {id : Nat} {l : List Oper} (h : GL P n w0 M l.toArray Q l F L) : G P n w0 M (.region id l.toArray false) Q F L := fun a w hF hS => wp_region_lit (h a w hF hS)
theorem GL_nil {ops : Array Oper} (h : GQ n w0 M Q .normal F L) : GL P n w0 M ops Q [] F L := fun a w hF hS => wpList_nil (h a w hF hS)

theorem GQ_then {y : Code} (h : G P n w0 M y Q F L) : GQ n w0 M (Exit.then (y.wp P Q) Q) .normal F L := h
theorem GQ_then_ret {K : Act → World → Prop} (h : GQ n w0 M Q .ret F L) : GQ n w0 M (Exit.then K Q) .ret F L := h
theorem GQ_then_exit {K : Act → World → Prop} {id : Nat} (h : GQ n w0 M Q (.exit id) F L) : GQ n w0 M (Exit.then K Q) (.exit id) F L := h
theorem GQ_block {id : Nat} (h : GQ n w0 M Q .normal F L) : GQ n w0 M (Exit.inBlock id Q) .normal F L := fun a w hF hS => by simpa [Exit.inBlock] using h a w hF hS
theorem GQ_block_exit {id : Nat} (h : GQ n w0 M Q .normal F L) : GQ n w0 M (Exit.inBlock id Q) (.exit id) F L := fun a w hF hS => by simpa [Exit.inBlock] using h a w hF hS
theorem GQ_block_ret {id : Nat} (h : GQ n w0 M Q .ret F L) : GQ n w0 M (Exit.inBlock id Q) .ret F L := fun a w hF hS => by simpa [Exit.inBlock] using h a w hF hS

/-- A loop, over a state. -/
def Nxt (n : Nat) (w0 : World) (M : List Nat) {σ : Type} (I : σ → Prop) (μ : σ → Nat) (Fs : σ → List (Nat × Value)) (Ls : σ → List Res) (m : Nat) (a : Act) (w : World) : Prop := ∃ s, I s ∧ μ s < m ∧ Fr n a (Fs s) ∧ St w0 M w (Ls s)
theorem G_loop {σ : Type} {c : Code} (I : σ → Prop) (μ : σ → Nat) (Fs : σ → List (Nat × Value)) (Ls : σ → List Res) (s0 : σ) (h0 : I s0) (hF0 : Sub F (Fs s0)) (hL0 : (Ls s0).Sublist L)
    (round : ∀ s, I s → G P n w0 M c (Exit.then (Nxt n w0 M I μ Fs Ls (μ s)) Q) (Fs s) (Ls s)) : G P n w0 M (.loop c) Q F L := by
  intro a w hF hS
  have key : ∀ m s, μ s < m → I s → ∀ a w, Fr n a (Fs s) → St w0 M w (Ls s) → Code.rounds P c Q m a w := by
    intro m
    induction m with
    | zero => intro s h; omega
    | succ m ih =>
      intro s hm hI a w hf hs
      rw [rounds_succ]
      refine wp_mono (round s hI a w hf hs) fun e a' w' q => ?_
      cases e with
      | normal => obtain ⟨s', hI', hlt, hF', hS'⟩ := q; exact ih s' (by omega) hI' a' w' hF' hS'
      | _ => exact q
  exact wp_loop_rounds _ (key _ s0 (Nat.lt_succ_self _) h0 a w (hF.sub hF0) (hS.sub hL0))
theorem GQ_next {σ : Type} {I : σ → Prop} {μ : σ → Nat} {Fs : σ → List (Nat × Value)} {Ls : σ → List Res} {m : Nat} (s : σ) (hI : I s) (hm : μ s < m) (hF : Sub F (Fs s)) (hL : (Ls s).Sublist L) : GQ n w0 M (Exit.then (Nxt n w0 M I μ Fs Ls m) Q) .normal F L :=
  fun _ _ hf hS => ⟨s, hI, hm, hf.sub hF, hS.sub hL⟩
end
end Go.Ing
/- Engine, part 2: the operations, one lemma each. -/
namespace Go.Ing
open Go

/-- A string's value, off its bytes. -/
abbrev vstr (l : List UInt8) : Value := .string ⟨l.toArray⟩

section
variable (P : Program) (n : Nat) (w0 : World) (M : List Nat)
/-- The operation yields 'v', and what is known of memory is then 'L''. -/
def PS (op : Op) (T : TypeId) (F : List (Nat × Value)) (L : List Res) (v : Value) (L' : List Res) : Prop :=
  ∀ a w, Fr n a F → St w0 M w L → ∃ w', (execOp a.eval ⟨none, op, T, "", #[], none⟩).run P w = .ok (.value v) w' ∧ (w' = w ∧ L' = L)
/-- The same, of an operation that yields nothing (a store). -/
def PU (op : Op) (T : TypeId) (F : List (Nat × Value)) (L : List Res) (L' : List Res) : Prop :=
  ∀ a w, Fr n a F → St w0 M w L → ∃ w', (execOp a.eval ⟨none, op, T, "", #[], none⟩).run P w = .ok .skip w' ∧ St w0 M w' L'
/-- The same, of an operation that makes something new. -/
def PX (op : Op) (T : TypeId) (F : List (Nat × Value)) (L : List Res) (R : Value → List Res → Prop) : Prop :=
  ∀ a w, Fr n a F → St w0 M w L → ∃ v L' w', R v L' ∧ (execOp a.eval ⟨none, op, T, "", #[], none⟩).run P w = .ok (.value v) w' ∧ St w0 M w' L'
end

theorem execOp_bare (ρ : Operand → Value) (d : Option Tmp) (op : Op) (T : TypeId) (pos : String) (aft : Array Edge) (g : Option (Nat × Bool)) :
    execOp ρ ⟨d, op, T, pos, aft, g⟩ = execOp ρ ⟨none, op, T, "", #[], none⟩ := by
  cases op <;> rfl

section
variable {P : Program} {n : Nat} {w0 : World} {M : List Nat} {Q : Exit → Act → World → Prop} {F : List (Nat × Value)} {L L' : List Res} {ops : Array Oper} {rest : List Oper}

theorem GL_step {d : Nat} {op : Op} {T : TypeId} {pos : String} {aft : Array Edge} {v : Value} (hd : Nat.blt d n = true) (h : PS P n w0 M op T F L v L')
    (k : GL P n w0 M ops Q rest ((d, v) :: F) L') : GL P n w0 M ops Q (⟨some d, op, T, pos, aft, none⟩ :: rest) F L := by
  intro a w hF hS
  obtain ⟨_, hr, rfl, rfl⟩ := h a w hF hS
  refine wpList_plain rfl fun K hK => ?_
  unfold Oper.wp
  rw [execOp_bare, hr]
  exact hK _ _ (k _ _ (hF.put (by simpa [Nat.blt_eq] using hd) v) hS)
theorem GL_unit {op : Op} {T : TypeId} {pos : String} {aft : Array Edge} (h : PU P n w0 M op T F L L')
    (k : GL P n w0 M ops Q rest F L') : GL P n w0 M ops Q (⟨none, op, T, pos, aft, none⟩ :: rest) F L := by
  intro a w hF hS
  obtain ⟨w', hr, hS'⟩ := h a w hF hS
  refine wpList_plain rfl fun K hK => ?_
  unfold Oper.wp
  rw [execOp_bare, hr]
  exact hK _ _ (k _ _ hF hS')
theorem GL_new {d : Nat} {op : Op} {T : TypeId} {pos : String} {aft : Array Edge} {R : Value → List Res → Prop} (hd : Nat.blt d n = true) (h : PX P n w0 M op T F L R)
    (k : ∀ v L', R v L' → GL P n w0 M ops Q rest ((d, v) :: F) L') : GL P n w0 M ops Q (⟨some d, op, T, pos, aft, none⟩ :: rest) F L := by
  intro a w hF hS
  obtain ⟨v, L', w', hR, hr, hS'⟩ := h a w hF hS
  refine wpList_plain rfl fun K hK => ?_
  unfold Oper.wp
  rw [execOp_bare, hr]
  exact hK _ _ (k v L' hR _ _ (hF.put (by simpa [Nat.blt_eq] using hd) v) hS')

/-! #### guards -/
theorem yielded_of {a : Act} (hF : Fr n a F) {j t : Nat} (hj : (ops[j]?).bind (·.dst) = some t) {b : Bool} (h : lk t F = some (.bool b)) : yielded ops a.tmps j = some b := by
  unfold yielded
  rw [hj]
  simp [hF.get t _ h]
theorem GL_guard {d : Nat} {op : Op} {T : TypeId} {pos : String} {aft : Array Edge} {v : Value} {j t : Nat} {b : Bool} (hj : (ops[j]?).bind (·.dst) = some t) (hb : lk t F = some (.bool b)) (hd : Nat.blt d n = true) (h : PS P n w0 M op T F L v L')
    (k : GL P n w0 M ops Q rest ((d, v) :: F) L') : GL P n w0 M ops Q (⟨some d, op, T, pos, aft, some (j, b)⟩ :: rest) F L := by
  intro a w hF hS
  obtain ⟨_, hr, rfl, rfl⟩ := h a w hF hS
  refine wpList_step fun K hK => ?_
  rw [if_pos (by simp [Region.wanted, yielded_of hF hj hb])]
  unfold Oper.wp
  rw [execOp_bare, hr]
  exact hK _ _ (k _ _ (hF.put (by simpa [Nat.blt_eq] using hd) v) hS)
/-- The guard says no: nothing is known of the slot. -/
theorem GL_pass {d : Nat} {op : Op} {T : TypeId} {pos : String} {aft : Array Edge} {j t : Nat} {b c : Bool} (hj : (ops[j]?).bind (·.dst) = some t) (hb : lk t F = some (.bool c)) (hc : (c == b) = false) (hd : Nat.blt d n = true)
    (k : GL P n w0 M ops Q rest ((d, undef) :: F) L) : GL P n w0 M ops Q (⟨some d, op, T, pos, aft, some (j, b)⟩ :: rest) F L := by
  intro a w hF hS
  refine wpList_step fun K hK => ?_
  rw [if_neg (by simp [Region.wanted, yielded_of hF hj hb]; simpa using hc)]
  exact hK _ _ (k _ _ (hF.put (by simpa [Nat.blt_eq] using hd) undef) hS)
/-- The operation on whose bool it hangs was passed over itself. -/
theorem GL_pass_undef {d : Nat} {op : Op} {T : TypeId} {pos : String} {aft : Array Edge} {j t : Nat} {b : Bool} (hj : (ops[j]?).bind (·.dst) = some t) (hb : lk t F = some undef) (hd : Nat.blt d n = true)
    (k : GL P n w0 M ops Q rest ((d, undef) :: F) L) : GL P n w0 M ops Q (⟨some d, op, T, pos, aft, some (j, b)⟩ :: rest) F L := by
  intro a w hF hS
  refine wpList_step fun K hK => ?_
  have hy : yielded ops a.tmps j = none := by
    unfold yielded
    rw [hj]
    simp [hF.get t _ hb]
    rfl
  rw [if_neg (by simp [Region.wanted, hy])]
  exact hK _ _ (k _ _ (hF.put (by simpa [Nat.blt_eq] using hd) undef) hS)

/-! #### operations that leave the world alone -/
theorem PS_of {op : Op} {T : TypeId} {v : Value} (h : ∀ a w, Fr n a F → (execOp a.eval ⟨none, op, T, "", #[], none⟩).run P w = .ok (.value v) w) : PS P n w0 M op T F L v L :=
  fun a w hF _ => ⟨w, h a w hF, rfl, rfl⟩
theorem PS_move {x : Operand} {T : TypeId} {v : Value} (h : ev F x = some v) : PS P n w0 M (.move x) T F L v L := PS_of fun a w hF => by simp [execOp, hF.ev h]
theorem PS_assign {x : Operand} {T : TypeId} {v : Value} (h : ev F x = some v) : PS P n w0 M (.assign x) T F L v L := PS_of fun a w hF => by simp [execOp, hF.ev h]
theorem PS_pick_true {c x y : Operand} {T : TypeId} {v : Value} (hc : ev F c = some (.bool true)) (h : ev F x = some v) : PS P n w0 M (.pick c x y) T F L v L := PS_of fun a w hF => by simp [execOp, hF.ev h, hF.ev hc, asBool]
theorem PS_pick_false {c x y : Operand} {T : TypeId} {v : Value} (hc : ev F c = some (.bool false)) (h : ev F y = some v) : PS P n w0 M (.pick c x y) T F L v L := PS_of fun a w hF => by simp [execOp, hF.ev h, hF.ev hc, asBool]
theorem PS_extract {x : Operand} {T : TypeId} {i : Nat} {vs : List Value} {v : Value} (hx : ev F x = some (.tuple vs.toArray)) (h : vs[i]? = some v) : PS P n w0 M (.extract x i) T F L v L := PS_of fun a w hF => by
  simp [execOp, hF.ev hx, Instr.extract, h]
end
section
variable {P : Program} {n : Nat} {w0 : World} {M : List Nat} {F : List (Nat × Value)} {L L' : List Res}
variable {x y : Operand} {T U V : TypeId} {k : IntKind} {a b : Int}
theorem PS_lss (hx : ev F x = some (.int k a)) (hy : ev F y = some (.int k b)) : PS P n w0 M (.binOp .lss U x y V) T F L (.bool (decide (a < b))) L := PS_of fun e w hF => by
  simp [execOp, hF.ev hx, hF.ev hy, eqGuard, binOp, Op.intCmp]
theorem PS_gtr (hx : ev F x = some (.int k a)) (hy : ev F y = some (.int k b)) : PS P n w0 M (.binOp .gtr U x y V) T F L (.bool (decide (b < a))) L := PS_of fun e w hF => by
  simp [execOp, hF.ev hx, hF.ev hy, eqGuard, binOp, Op.intCmp]
theorem PS_geq (hx : ev F x = some (.int k a)) (hy : ev F y = some (.int k b)) : PS P n w0 M (.binOp .geq U x y V) T F L (.bool (decide (b ≤ a))) L := PS_of fun e w hF => by
  simp [execOp, hF.ev hx, hF.ev hy, eqGuard, binOp, Op.intCmp]
theorem PS_eql (hx : ev F x = some (.int k a)) (hy : ev F y = some (.int k b)) : PS P n w0 M (.binOp .eql U x y V) T F L (.bool (decide (a = b))) L := PS_of fun e w hF => by
  simp [execOp, hF.ev hx, hF.ev hy, eqGuard, binOp, Op.intCmp]; rfl
theorem PS_neq (hx : ev F x = some (.int k a)) (hy : ev F y = some (.int k b)) : PS P n w0 M (.binOp .neq U x y V) T F L (.bool (!decide (a = b))) L := PS_of fun e w hF => by
  simp [execOp, hF.ev hx, hF.ev hy, eqGuard, binOp, Op.intCmp, bne]; rfl
theorem PS_add (hx : ev F x = some (.int k a)) (hy : ev F y = some (.int k b)) {c : Int} (hc : k.wrap (a + b) = c) : PS P n w0 M (.binOp .add U x y V) T F L (.int k c) L := PS_of fun e w hF => by
  simp [execOp, hF.ev hx, hF.ev hy, eqGuard, binOp, Op.intArith, hc]
theorem PS_sub (hx : ev F x = some (.int k a)) (hy : ev F y = some (.int k b)) {c : Int} (hc : k.wrap (a - b) = c) : PS P n w0 M (.binOp .sub U x y V) T F L (.int k c) L := PS_of fun e w hF => by
  simp [execOp, hF.ev hx, hF.ev hy, eqGuard, binOp, Op.intArith, hc]
theorem PS_rem (hx : ev F x = some (.int k a)) (hy : ev F y = some (.int k b)) (hb : b ≠ 0) : PS P n w0 M (.binOp .rem U x y V) T F L (.int k (a.tmod b)) L := PS_of fun e w hF => by
  simp [execOp, hF.ev hx, hF.ev hy, eqGuard, binOp, Op.intDiv, hb]
theorem PS_not {p : Bool} (hx : ev F x = some (.bool p)) : PS P n w0 M (.unOp .not U x) T F L (.bool (!p)) L := PS_of fun e w hF => by
  simp [execOp, hF.ev hx, Op.unary]
theorem PS_neq_bool {p q : Bool} (hu : P.underlying U = some .bool) (hx : ev F x = some (.bool p)) (hy : ev F y = some (.bool q)) : PS P n w0 M (.binOp .neq U x y V) T F L (.bool (p != q)) L := PS_of fun e w hF => by
  simp [execOp, hF.ev hx, hF.ev hy, eqGuard, run_neq_bool w U p q hu]; cases p <;> cases q <;> rfl
end
/-! #### strings -/
theorem toList_mk (l : List UInt8) : (ByteArray.mk l.toArray).toList = l := ByteArray.toList_mk l
theorem beq_dec (s t : List UInt8) : (s == t) = decide (s = t) := by
  by_cases h : s = t <;> simp [h]
section
variable {P : Program} {n : Nat} {w0 : World} {M : List Nat} {F : List (Nat × Value)} {L L' : List Res}
variable {x y : Operand} {T U V : TypeId} {s t : List UInt8}
theorem PS_eql_str (hx : ev F x = some (vstr s)) (hy : ev F y = some (vstr t)) : PS P n w0 M (.binOp .eql U x y V) T F L (.bool (decide (s = t))) L := PS_of fun e w hF => by
  simp [execOp, hF.ev hx, hF.ev hy, eqGuard, binOp, Op.stringOp, beq_dec]
theorem PS_neq_str (hx : ev F x = some (vstr s)) (hy : ev F y = some (vstr t)) : PS P n w0 M (.binOp .neq U x y V) T F L (.bool (!decide (s = t))) L := PS_of fun e w hF => by
  simp [execOp, hF.ev hx, hF.ev hy, eqGuard, binOp, Op.stringOp, beq_dec]
theorem size_mk (l : List UInt8) : (ByteArray.mk l.toArray).size = l.length := rfl
theorem mk_append (s t : List UInt8) : (ByteArray.mk s.toArray) ++ (ByteArray.mk t.toArray) = ByteArray.mk (s ++ t).toArray := by
  apply ByteArray.ext
  simp
theorem PS_add_str (hx : ev F x = some (vstr s)) (hy : ev F y = some (vstr t)) (hl : s.length + t.length ≤ 9223372036854775807) : PS P n w0 M (.binOp .add U x y V) T F L (vstr (s ++ t)) L := PS_of fun e w hF => by
  have h : ¬ ((((ByteArray.mk s.toArray).size + (ByteArray.mk t.toArray).size : Nat) : Int) > IntKind.i64.max) := by
    have : IntKind.i64.max = 9223372036854775807 := by decide
    rw [size_mk, size_mk, this]
    omega
  simp only [execOp, hF.ev hx, hF.ev hy, eqGuard, binOp, Op.stringOp]
  rw [if_neg h, mk_append]
  simp
theorem PS_len_slice {ts : Array TypeId} {E : TypeId} {p : Option Addr} {l c : Nat} (ht : ts[0]? = some U) (hu : P.underlying U = some (.slice E)) (hx : ev F x = some (.slice p l c)) : PS P n w0 M (.call ⟨.builtin .len, #[x], ts⟩) T F L (.int .i64 l) L := PS_of fun e w hF => by
  simp [execOp, resolve, invoke, builtin, Builtin.len_, ht, hF.ev hx, underlying, hu, goInt]
end
end Go.Ing
/- Engine, part 3: memory, calls, a function's body. -/
namespace Go.Ing
open Go

/-- 'm' is laid over 'l' from 'o' on. -/
def splice (l : List Value) (o : Nat) (m : List Value) : List Value := l.take o ++ m ++ l.drop (o + m.length)
theorem splice_length {l : List Value} {o : Nat} {m : List Value} (h : o + m.length ≤ l.length) : (splice l o m).length = l.length := by
  simp [splice]; omega
theorem splice_nil (l : List Value) (o : Nat) : splice l o [] = l := by simp [splice]
theorem splice_get {l : List Value} {o : Nat} {m : List Value} (h : o + m.length ≤ l.length) (i : Nat) :
    (splice l o m)[i]? = if i < o then l[i]? else if i < o + m.length then m[i - o]? else l[i]? := by
  simp only [splice, List.getElem?_append, List.length_take, List.getElem?_take, List.getElem?_drop, List.length_append]
  rw [Nat.min_eq_left (by omega)]
  by_cases h1 : i < o
  · rw [if_pos (by omega), if_pos h1, if_pos h1, if_pos h1]
  · by_cases h2 : i < o + m.length
    · rw [if_pos h2, if_neg h1, if_neg h1, if_pos h2]
    · rw [if_neg h2, if_neg h1, if_neg h2]
      congr 1; omega
theorem splice_cons {l : List Value} {o : Nat} {v : Value} {m : List Value} (h : o + (m.length + 1) ≤ l.length) : splice l o (v :: m) = splice (l.set o v) (o + 1) m := by
  apply List.ext_getElem?
  intro i
  rw [splice_get (by simpa using h), splice_get (by simp; omega), List.length_cons]
  simp only [List.getElem?_set]
  by_cases h1 : i < o
  · rw [if_pos h1, if_pos (by omega), if_neg (by omega)]
  · by_cases h2 : i = o
    · subst h2
      rw [if_neg (by omega), if_pos (by omega), if_pos (by omega), if_pos rfl, if_pos (by omega)]
      simp
    · by_cases h3 : i < o + (m.length + 1)
      · rw [if_neg h1, if_pos h3, if_neg (by omega), if_pos (by omega), show i - o = (i - (o + 1)) + 1 by omega, List.getElem?_cons_succ]
      · rw [if_neg h1, if_neg h3, if_neg (by omega), if_neg (by omega), if_neg (by omega)]
theorem splice_splice {l m : List Value} {o1 o2 sz : Nat} (h1 : o1 + sz ≤ l.length) (h2 : o2 + m.length ≤ sz) : splice l o1 (splice ((l.drop o1).take sz) o2 m) = splice l (o1 + o2) m := by
  have hl : ((l.drop o1).take sz).length = sz := by simp; omega
  have hs : (splice ((l.drop o1).take sz) o2 m).length = sz := by rw [splice_length (by omega), hl]
  apply List.ext_getElem?
  intro i
  rw [splice_get (l := l) (o := o1) (by omega), splice_get (l := l) (o := o1 + o2) (by omega), hs]
  by_cases a1 : i < o1
  · rw [if_pos a1, if_pos (by omega)]
  · rw [if_neg a1]
    by_cases a2 : i < o1 + sz
    · rw [if_pos a2, splice_get (by omega)]
      simp only [List.getElem?_take, List.getElem?_drop]
      rw [show o1 + (i - o1) = i by omega, show i - o1 - o2 = i - (o1 + o2) by omega]
      by_cases a3 : i < o1 + o2
      · rw [if_pos (by omega), if_pos a3, if_pos (by omega)]
      · rw [if_neg (by omega), if_neg a3]
        by_cases a4 : i < o1 + o2 + m.length
        · rw [if_pos (by omega), if_pos a4]
        · rw [if_neg (by omega), if_neg a4, if_pos (by omega)]
    · rw [if_neg a2, if_neg (by omega), if_neg (by omega)]

theorem add_at (b o k : Nat) : (⟨b, o, none⟩ : Addr).add k = ⟨b, o + k, none⟩ := by
  unfold Addr.add; split
  · rename_i h; subst h; rfl
  · rfl

theorem cell_at {w : World} {b i : Nat} {T : TypeId} {cs : List Value} {fz : Nat × Nat} (h : w.heap[b]? = some (.cells cs.toArray T fz)) : w.cell? ⟨b, i, none⟩ = cs[i]? := by
  simp [World.cell?, h]
theorem frozen_at {w : World} {b i : Nat} {T : TypeId} {cs : List Value} (h : w.heap[b]? = some (.cells cs.toArray T)) : w.frozen? ⟨b, i, none⟩ = false := by
  simp [World.frozen?, h]

theorem run_load_at {P : Program} {w : World} {a : Addr} {v : Value} (h : w.cell? a = some v) : (load a).run P w = .ok v w := by
  simp [h]

theorem loadCellsFrom_at {P : Program} {w : World} {b o : Nat} {T : TypeId} {cs : List Value} {fz : Nat × Nat} (h : w.heap[b]? = some (.cells cs.toArray T fz)) :
    ∀ (k i : Nat) (acc : Array Value), o + i + k ≤ cs.length → (loadCellsFrom ⟨b, o, none⟩ i k acc).run P w = .ok (acc ++ ((cs.drop (o + i)).take k).toArray) w
  | 0, i, acc, _ => by simp [loadCellsFrom]
  | k + 1, i, acc, hk => by
    have hc : w.cell? ((⟨b, o, none⟩ : Addr).add i) = some cs[o + i] := by rw [add_at, cell_at h]; exact List.getElem?_eq_getElem (by omega)
    simp only [loadCellsFrom, Sem.run_bind, run_load_at hc, Result.andThen_ok]
    rw [loadCellsFrom_at h k (i + 1) _ (by omega)]
    congr 1
    apply Array.ext'
    rw [List.drop_eq_getElem_cons (show o + i < cs.length by omega)]
    simp [Nat.add_assoc]
theorem loadCells_at {P : Program} {w : World} {b o k : Nat} {T : TypeId} {cs : List Value} {fz : Nat × Nat} (h : w.heap[b]? = some (.cells cs.toArray T fz)) (hk : o + k ≤ cs.length) :
    (loadCells ⟨b, o, none⟩ k).run P w = .ok ((cs.drop o).take k).toArray w := by
  have := loadCellsFrom_at (P := P) (o := o) h k 0 #[] (by omega)
  simpa [loadCells] using this

theorem setCell_at {w : World} {b i : Nat} {T : TypeId} {cs : List Value} (h : w.heap[b]? = some (.cells cs.toArray T)) (v : Value) :
    (w.setCell ⟨b, i, none⟩ v).heap = w.heap.setIfInBounds b (.cells (cs.set i v).toArray T) := by
  apply Array.ext'
  apply List.ext_getElem?
  intro j
  simp only [World.setCell, Array.getElem?_toList, Array.getElem?_modify, Array.getElem?_setIfInBounds]
  by_cases e : b = j
  · subst e
    have hlt : b < w.heap.size := by
      rcases Nat.lt_or_ge b w.heap.size with h' | h'
      · exact h'
      · rw [Array.getElem?_eq_none h'] at h; cases h
    rw [h]
    simp [hlt]
  · simp [e]

theorem storeCells_at {P : Program} {b o : Nat} {T : TypeId} : ∀ (m : List Value) (w : World) (cs : List Value) (i : Nat), w.heap[b]? = some (.cells cs.toArray T) → (∀ v ∈ m, v.oneCell' = true) → o + i + m.length ≤ cs.length →
    ∃ w', (storeCells ⟨b, o, none⟩ m i).run P w = .ok () w' ∧ w'.heap[b]? = some (.cells (splice cs (o + i) m).toArray T) ∧ (∀ k, k ≠ b → w'.heap[k]? = w.heap[k]?) ∧ w'.heap.size = w.heap.size ∧ w'.os = w.os ∧ w'.tape = w.tape ∧ w'.output = w.output
  | [], w, cs, i, h, _, _ => ⟨w, by simp [storeCells], by simpa [splice_nil] using h, fun _ _ => rfl, rfl, rfl, rfl, rfl⟩
  | v :: m, w, cs, i, h, h1, hl => by
    simp only [List.length_cons] at hl
    have hc : w.cell? ((⟨b, o, none⟩ : Addr).add i) = some cs[o + i] := by rw [add_at, cell_at h]; exact List.getElem?_eq_getElem (by omega)
    have hf : w.frozen? ((⟨b, o, none⟩ : Addr).add i) = false := by rw [add_at]; exact frozen_at h
    have hset := setCell_at (i := o + i) h v
    have hb : b < w.heap.size := by
      rcases Nat.lt_or_ge b w.heap.size with h' | h'
      · exact h'
      · rw [Array.getElem?_eq_none h'] at h; cases h
    have h2 : (w.setCell ⟨b, o + i, none⟩ v).heap[b]? = some (.cells (cs.set (o + i) v).toArray T) := by rw [hset]; simp [hb]
    obtain ⟨w', e1, e2, e3, e4, e5, e6, e7⟩ := storeCells_at (P := P) (o := o) m _ _ (i + 1) h2 (fun u hu => h1 u (by simp [hu])) (by simp; omega)
    refine ⟨w', ?_, ?_, ?_, ?_, e5, e6, e7⟩
    · simp only [storeCells, Sem.run_bind]
      rw [run_store _ _ _ _ _ (h1 v (by simp)), hc]
      simp only [hf]
      rw [add_at]
      simpa using e1
    · rw [e2, splice_cons (by omega)]; rfl
    · intro k hk
      rw [e3 k hk, hset, Array.getElem?_setIfInBounds_ne (fun h => hk h.symm)]
    · rw [e4, hset]; simp

/-! #### types -/
/-- A value of this type lies in one cell. -/
def TyS (P : Program) (T : TypeId) : Prop := ∀ w, (isAgg T).run P w = .ok false w
/-- A struct or array of so many cells. -/
def TyA (P : Program) (T sz : Nat) : Prop := (∀ w, (isAgg T).run P w = .ok true w) ∧ ∀ w, (sizeOf T).run P w = .ok sz w
def Sz (P : Program) (T sz : Nat) : Prop := ∀ w, (sizeOf T).run P w = .ok sz w
def FA (P : Program) (T f off : Nat) : Prop := ∀ b o w, (Instr.fieldAt T (.pointer (some ⟨b, o, none⟩)) f).run P w = .ok (.pointer (some ⟨b, o + off, none⟩)) w
def IA (P : Program) (T len sz : Nat) : Prop := ∀ b o k i w, 0 ≤ i → i < (len : Int) → (Instr.indexAt T (.pointer (some ⟨b, o, none⟩)) (.int k i)).run P w = .ok (.pointer (some ⟨b, o + i.toNat * sz, none⟩)) w
def IS (P : Program) (T sz : Nat) : Prop := ∀ (b o l c : Nat) (k : IntKind) (i : Int) (w : World), 0 ≤ i → i < (l : Int) → (Instr.indexAt T (.slice (some ⟨b, o, none⟩) l c) (.int k i)).run P w = .ok (.pointer (some ⟨b, o + i.toNat * sz, none⟩)) w
def ZV (P : Program) (T : Nat) (v : Value) : Prop := ∀ w, (zeroValue T).run P w = .ok v w

section
variable {P : Program}
theorem Sz_of {T sz : Nat} (h : (P.info? T).map (·.size) = some sz) : Sz P T sz := fun w => by
  cases hi : P.info? T with
  | none => rw [hi] at h; cases h
  | some i => rw [hi] at h; simp at h; simp [sizeOf, typeInfo, hi, h]
theorem ZV_of {T : Nat} {v : Value} (h : (P.info? T).map (·.zero) = some (some v)) : ZV P T v := fun w => by
  cases hi : P.info? T with
  | none => rw [hi] at h; cases h
  | some i => rw [hi] at h; simp at h; simp [zeroValue, typeInfo, hi, h]
theorem FA_of {T f z off E : Nat} {fs : Array Field} (hu : P.underlying T = some (.struct fs)) (hf : (fs[f]?).map (fun fd => (fd.offset, fd.type)) = some (off, E)) (hz : Sz P E (z + 1)) : FA P T f off := fun b o w => by
  cases h : fs[f]? with
  | none => rw [h] at hf; cases hf
  | some fd =>
    rw [h] at hf; simp at hf
    obtain ⟨rfl, rfl⟩ := hf
    simp [Instr.fieldAt, underlying, hu, h, Instr.sureAddr, fieldPlace, hz w, add_at]
theorem IA_of {T len E sz : Nat} (hu : P.underlying T = some (.array len E)) (hz : Sz P E sz) : IA P T len sz := fun b o k i w h0 h1 => by
  simp [Instr.indexAt, asIntOf, underlying, hu, Instr.sureAddr, h0, h1, hz w, add_at]
theorem IS_of {T E sz : Nat} (hu : P.underlying T = some (.slice E)) (hz : Sz P E sz) : IS P T sz := fun b o l c k i w h0 h1 => by
  simp [Instr.indexAt, asIntOf, underlying, hu, h0, h1, hz w, add_at]
theorem TyS_of {T : Nat} {d : TypeDesc} (hu : P.underlying T = some d) (hd : (match d with | .struct _ | .array _ _ => true | _ => false) = false) : TyS P T := fun w => by
  cases d <;> simp [isAgg, underlying, hu] at hd ⊢
theorem TyA_of {T sz : Nat} {d : TypeDesc} (hu : P.underlying T = some d) (hd : (match d with | .struct _ | .array _ _ => true | _ => false) = true) (hz : Sz P T sz) : TyA P T sz := by
  refine ⟨fun w => ?_, hz⟩
  cases d <;> simp [isAgg, underlying, hu] at hd ⊢
end

/-- How a part lies in a whole. -/
structure Lens {α β : Type} (ea : α → List Value) (eb : β → List Value) (o sz : Nat) (g : α → β) (s : α → β → α) : Prop where
  get : ∀ x, ((ea x).drop o).take sz = eb (g x)
  len : ∀ y, (eb y).length = sz
  bnd : ∀ x, o + sz ≤ (ea x).length
  set : ∀ x y, splice (ea x) o (eb y) = ea (s x y)
  one : ∀ y, ∀ v ∈ eb y, v.oneCell' = true

theorem Lens.id {α : Type} {ea : α → List Value} {sz : Nat} (hl : ∀ x, (ea x).length = sz) (ho : ∀ y, ∀ v ∈ ea y, v.oneCell' = true) : Lens ea ea 0 sz (fun x => x) (fun _ y => y) :=
  ⟨fun x => by simp [← hl x], hl, fun x => by simp [hl x], fun x y => by simp [splice, hl], ho⟩

theorem Lens.comp {α β γ : Type} {ea : α → List Value} {eb : β → List Value} {ec : γ → List Value} {o1 sz1 o2 sz2 : Nat} {g1 : α → β} {s1 : α → β → α} {g2 : β → γ} {s2 : β → γ → β}
    (h1 : Lens ea eb o1 sz1 g1 s1) (h2 : Lens eb ec o2 sz2 g2 s2) : Lens ea ec (o1 + o2) sz2 (fun x => g2 (g1 x)) (fun x y => s1 x (s2 (g1 x) y)) := by
  have hb : ∀ x, o2 + sz2 ≤ sz1 := fun x => by have := h2.bnd (g1 x); rw [h1.len] at this; exact this
  refine ⟨fun x => ?_, h2.len, fun x => by have := h1.bnd x; have := hb x; omega, fun x y => ?_, h2.one⟩
  · rw [← h2.get (g1 x), ← h1.get x, List.drop_take, List.take_take, List.drop_drop, Nat.min_eq_left (by have := hb x; omega)]
  · rw [← h1.set x, ← h2.set]
    rw [← h1.get x]
    exact (splice_splice (h1.bnd x) (by rw [h2.len]; exact hb x)).symm

section
variable {P : Program} {n : Nat} {w0 : World} {M : List Nat} {Q : Exit → Act → World → Prop} {F : List (Nat × Value)} {L L' : List Res} {ops : Array Oper} {rest : List Oper}

theorem PS_fieldAddr {T U f off b o : Nat} {x : Operand} (hf : FA P T f off) (hx : ev F x = some (.pointer (some ⟨b, o, none⟩))) : PS P n w0 M (.fieldAddr T x f) U F L (.pointer (some ⟨b, o + off, none⟩)) L :=
  PS_of fun a w hF => by simp [execOp, hF.ev hx, hf b o w]
theorem PS_indexAddr {T U len sz b o : Nat} {k : IntKind} {i : Int} {x y : Operand} (hf : IA P T len sz) (hx : ev F x = some (.pointer (some ⟨b, o, none⟩))) (hy : ev F y = some (.int k i)) (h0 : 0 ≤ i) (h1 : i < (len : Int)) : PS P n w0 M (.indexAddr T x y) U F L (.pointer (some ⟨b, o + i.toNat * sz, none⟩)) L :=
  PS_of fun a w hF => by simp [execOp, hF.ev hx, hF.ev hy, hf b o k i w h0 h1]
/-- A part of one cell is read. -/
theorem PS_load {α β : Type} {ea : α → List Value} {eb : β → List Value} {o sz : Nat} {g : α → β} {s : α → β → α} {T U V b off : Nat} {x : Operand} {X : α} {v : Value}
    (hx : ev F x = some (.pointer (some ⟨b, off, none⟩))) (hT : TyS P T) (hL : Res.box b V (ea X) ∈ L) (hl : Lens ea eb o sz g s) (ho : off = o) (hv : eb (g X) = [v]) : PS P n w0 M (.load T x) U F L v L := by
  intro a w hF hS
  have hb : w.heap[b]? = some (.cells (ea X).toArray V) := hS.ok _ hL
  have hsz : sz = 1 := by rw [← hl.len (g X), hv]; rfl
  have hc : w.cell? ⟨b, off, none⟩ = some v := by
    rw [cell_at hb, ho]
    have h := hl.get X
    have hbd := hl.bnd X
    rw [hv, hsz] at h
    rw [hsz] at hbd
    rw [List.drop_eq_getElem_cons (by omega), List.take_succ_cons, List.take_zero] at h
    rw [List.getElem?_eq_getElem (by omega), List.head_eq_of_cons_eq h]
  refine ⟨w, ?_, rfl, rfl⟩
  simp [execOp, hF.ev hx, Instr.loadAt, Instr.sureAddr, loadVar, hT w, hc]
/-- A struct or an array is read whole. -/
theorem PS_loadA {α β : Type} {ea : α → List Value} {eb : β → List Value} {o sz : Nat} {g : α → β} {s : α → β → α} {T U V b off : Nat} {x : Operand} {X : α}
    (hx : ev F x = some (.pointer (some ⟨b, off, none⟩))) (hT : TyA P T sz) (hL : Res.box b V (ea X) ∈ L) (hl : Lens ea eb o sz g s) (ho : off = o) : PS P n w0 M (.load T x) U F L (.agg (eb (g X)).toArray) L := by
  intro a w hF hS
  have hb : w.heap[b]? = some (.cells (ea X).toArray V) := hS.ok _ hL
  refine ⟨w, ?_, rfl, rfl⟩
  subst ho
  simp only [execOp, hF.ev hx, Instr.loadAt, Instr.sureAddr, loadVar]
  simp [hT.1 w, hT.2 w, loadCells_at hb (hl.bnd X), hl.get X]

/-- A part is written. -/
theorem PU_store {α β : Type} {ea : α → List Value} {eb : β → List Value} {o sz : Nat} {g : α → β} {s : α → β → α} {T U V b off : Nat} {x y : Operand} {X : α} {Y : β} {v : Value}
    (hl : Lens ea eb o sz g s) (hx : ev F x = some (.pointer (some ⟨b, off, none⟩))) (hy : ev F y = some v) (hv : v.cells = (eb Y).toArray) (hT : Sz P T sz) (ho : off = o) (hL : Upd L (Res.box b V (ea X)) (Res.box b V (ea (s X Y))) L') : PU P n w0 M (.store T x y) U F L L' := by
  intro a w hF hS
  have hb : w.heap[b]? = some (.cells (ea X).toArray V) := hS.ok _ hL.mem
  subst ho
  obtain ⟨w', e1, e2, e3, e4, e5, e6, e7⟩ := storeCells_at (P := P) (o := off) (eb Y) w (ea X) 0 hb (hl.one Y) (by have := hl.bnd X; rw [hl.len]; omega)
  refine ⟨w', ?_, hS.turn hL e5 e6 e7 (by omega) (fun k _ hk => e3 k (by simpa [Res.box] using hk)) ?_ ?_⟩
  · simp only [execOp, hF.ev hx, hF.ev hy, Instr.storeAt, Instr.sureAddr, storeVar, hv]
    simp [hT w, hl.len, e1]
  · have := hl.set X Y
    show w'.heap[b]? = _
    rw [e2, Nat.add_zero, this]
  · intro k hk
    simp [Res.box] at hk
    subst hk
    refine ⟨?_, .inl (by simp [Res.box])⟩
    rcases Nat.lt_or_ge k w'.heap.size with h | h
    · exact h
    · rw [Array.getElem?_eq_none h] at e2; cases e2

/-- A new variable with a value. -/
theorem PX_box {T U : Nat} {x : Operand} {v : Value} {cs : List Value} (hx : ev F x = some v) (hv : v.cells = cs.toArray) : PX P n w0 M (.box T x) U F L (fun v L' => ∃ b, v = .pointer (some ⟨b, 0, none⟩) ∧ L' = Res.box b T cs :: L) := by
  intro a w hF hS
  refine ⟨_, _, w.alloc (.cells cs.toArray T), ⟨w.heap.size, rfl, rfl⟩, ?_, hS.alloc T cs⟩
  simp [execOp, hF.ev hx, Instr.box, newVar, newRow, hv]
theorem PX_alloc {T U : Nat} {v : Value} {cs : List Value} (hz : ZV P T v) (hv : v.cells = cs.toArray) : PX P n w0 M (.alloc T) U F L (fun v L' => ∃ b, v = .pointer (some ⟨b, 0, none⟩) ∧ L' = Res.box b T cs :: L) := by
  intro a w hF hS
  refine ⟨_, _, w.alloc (.cells cs.toArray T), ⟨w.heap.size, rfl, rfl⟩, ?_, hS.alloc T cs⟩
  simp [execOp, Instr.alloc, hz w, newVar, newRow, hv]
theorem GL_box {d T U : Nat} {x : Operand} {pos : String} {aft : Array Edge} {v : Value} {cs : List Value} (hd : Nat.blt d n = true) (hx : ev F x = some v) (hv : v.cells = cs.toArray)
    (k : ∀ b, GL P n w0 M ops Q rest ((d, .pointer (some ⟨b, 0, none⟩)) :: F) (Res.box b T cs :: L)) : GL P n w0 M ops Q (⟨some d, .box T x, U, pos, aft, none⟩ :: rest) F L :=
  GL_new hd (PX_box hx hv) fun _ _ ⟨b, hv, hL⟩ => by subst hv; subst hL; exact k b
theorem GL_alloc {d T U : Nat} {pos : String} {aft : Array Edge} {v : Value} {cs : List Value} (hd : Nat.blt d n = true) (hz : ZV P T v) (hv : v.cells = cs.toArray)
    (k : ∀ b, GL P n w0 M ops Q rest ((d, .pointer (some ⟨b, 0, none⟩)) :: F) (Res.box b T cs :: L)) : GL P n w0 M ops Q (⟨some d, .alloc T, U, pos, aft, none⟩ :: rest) F L :=
  GL_new hd (PX_alloc hz hv) fun _ _ ⟨b, hv, hL⟩ => by subst hv; subst hL; exact k b
end

/-! #### calls -/
/-- The call returns, and 'R' holds of what it returns and of the world behind it. -/
def Ret (P : Program) (f : FuncId) (args : Array Value) (w : World) (R : Value → World → Prop) : Prop := Calls P f args w fun e w' => ∃ v, e = .returned v ∧ R v w'
theorem Ret.mono {P : Program} {f : FuncId} {args : Array Value} {w : World} {R R' : Value → World → Prop} (h : Ret P f args w R) (hr : ∀ v w', R v w' → R' v w') : Ret P f args w R' :=
  Calls.mono h fun _ _ ⟨v, he, hR⟩ => ⟨v, he, hr _ _ hR⟩
/-- Nothing that was there has turned. -/
structure Keep (w w' : World) : Prop where
  os : w'.os = w.os
  tape : w'.tape = w.tape
  output : w'.output = w.output
  size : w.heap.size ≤ w'.heap.size
  old : ∀ k, k < w.heap.size → w'.heap[k]? = w.heap[k]?
theorem Keep.refl (w : World) : Keep w w := ⟨rfl, rfl, rfl, Nat.le_refl _, fun _ _ => rfl⟩
theorem Keep.trans {a b c : World} (h : Keep a b) (k : Keep b c) : Keep a c :=
  ⟨k.os.trans h.os, k.tape.trans h.tape, k.output.trans h.output, Nat.le_trans h.size k.size, fun i hi => (k.old i (Nat.lt_of_lt_of_le hi h.size)).trans (h.old i hi)⟩
theorem St.keep {w0 w w' : World} {M : List Nat} {L : List Res} (h : St w0 M w L) (k : Keep w w') : St w0 M w' L := by
  refine ⟨k.os.trans h.os, k.tape.trans h.tape, k.output.trans h.output, Nat.le_trans h.size k.size, fun i hi hM => (k.old i (Nat.lt_of_lt_of_le hi h.size)).trans (h.old i hi hM), fun r hr => r.loc w w' (fun b hb => k.old b (h.foot r hr b hb).1) (h.ok r hr), fun r hr b hb => ?_, h.disj⟩
  have := h.foot r hr b hb
  exact ⟨Nat.lt_of_lt_of_le this.1 k.size, this.2⟩
theorem St.toKeep {w0 w : World} {L : List Res} (h : St w0 [] w L) : Keep w0 w := ⟨h.os, h.tape, h.output, h.size, fun k hk => h.old k hk (by simp)⟩
theorem Keep.below {w w' : World} (h : Keep w w') : RowKit.Below w.heap.size w w' := ⟨h.os, h.tape, h.output, h.size, h.old⟩

def CF (P : Program) (f : FuncId) : Prop := ∀ args w, (callFunc f args).run P w = .ok (.enter f args) w
/-- The operands' values. -/
inductive Evs (F : List (Nat × Value)) : List Operand → List Value → Prop where
  | nil : Evs F [] []
  | cons {x : Operand} {v : Value} {xs : List Operand} {vs : List Value} (h : ev F x = some v) (hs : Evs F xs vs) : Evs F (x :: xs) (v :: vs)
theorem Evs.map {n : Nat} {a : Act} {F : List (Nat × Value)} (hF : Fr n a F) {xs : List Operand} {vs : List Value} (h : Evs F xs vs) : xs.map a.eval = vs := by
  induction h with
  | nil => rfl
  | cons h _ ih => simp [hF.ev h, ih]

section
variable {P : Program} {n : Nat} {w0 : World} {M : List Nat} {Q : Exit → Act → World → Prop} {F : List (Nat × Value)} {L L' : List Res} {ops : Array Oper} {rest : List Oper}
theorem run_call {f : FuncId} {args : List Operand} {ts : Array TypeId} {T : TypeId} {vs : List Value} (hc : CF P f) {a : Act} (hF : Fr n a F) (ha : Evs F args vs) (w : World) (d : Option Tmp) (pos : String) (aft : Array Edge) (g : Option (Nat × Bool)) :
    (execOp a.eval ⟨d, .call ⟨.value (.func f), args.toArray, ts⟩, T, pos, aft, g⟩).run P w = .ok (.enter f vs.toArray) w := by
  have := hc vs.toArray w
  simp [execOp, resolve, Deferred.ofValue, invoke, Act.eval, ← Evs.map hF ha] at this ⊢
  exact this
theorem GL_call {d : Nat} {f : FuncId} {args : List Operand} {ts : Array TypeId} {T : TypeId} {pos : String} {aft : Array Edge} {vs : List Value} {R : World → Value → World → Prop} (hd : Nat.blt d n = true) (hc : CF P f) (ha : Evs F args vs)
    (h : ∀ w, St w0 M w L → Ret P f vs.toArray w (R w))
    (k : ∀ w v w', St w0 M w L → R w v w' → ∃ L', St w0 M w' L' ∧ GL P n w0 M ops Q rest ((d, v) :: F) L') : GL P n w0 M ops Q (⟨some d, .call ⟨.value (.func f), args.toArray, ts⟩, T, pos, aft, none⟩ :: rest) F L := by
  intro a w hF hS
  refine wpList_plain rfl fun K hK => ?_
  unfold Oper.wp
  rw [run_call hc hF ha]
  show Calls _ _ _ _ _
  refine Calls.mono (h w hS) fun e w' he => ?_
  obtain ⟨v, rfl, hR⟩ := he
  obtain ⟨L', hS', hk⟩ := k w v w' hS hR
  exact hK _ _ (hk _ _ (hF.put (by simpa [Nat.blt_eq] using hd) v) hS')
/-- A call that only computes. -/
theorem GL_pure {d : Nat} {f : FuncId} {args : List Operand} {ts : Array TypeId} {T : TypeId} {pos : String} {aft : Array Edge} {vs : List Value} {v : Value} (hd : Nat.blt d n = true) (hc : CF P f) (ha : Evs F args vs)
    (h : ∀ w, St w0 M w L → Ret P f vs.toArray w fun v' w' => v' = v ∧ Keep w w')
    (k : GL P n w0 M ops Q rest ((d, v) :: F) L) : GL P n w0 M ops Q (⟨some d, .call ⟨.value (.func f), args.toArray, ts⟩, T, pos, aft, none⟩ :: rest) F L :=
  GL_call hd hc ha h fun w _ w' hS ⟨hv, hk⟩ => ⟨L, hS.keep hk, by rw [hv]; exact k⟩
/-! #### a body -/
def entry : Nat → List Value → List (Nat × Value)
  | _, [] => []
  | i, v :: vs => (i, v) :: entry (i + 1) vs
theorem lk_entry : ∀ (vs : List Value) (i k : Nat) (v : Value), lk k (entry i vs) = some v → i ≤ k ∧ vs[k - i]? = some v
  | [], i, k, v, h => by simp [entry, lk] at h
  | u :: vs, i, k, v, h => by
    simp only [entry, lk] at h
    by_cases e : k = i
    · subst e; simp at h; subst h; simp
    · rw [show Nat.beq k i = false from Bool.eq_false_iff.2 fun h => e (Nat.eq_of_beq_eq_true h)] at h
      have := lk_entry vs (i + 1) k v h
      refine ⟨by omega, ?_⟩
      rw [show k - i = (k - (i + 1)) + 1 by omega]
      simpa using this.2
theorem Ret_body {f : FuncId} {fn : Func} {c : Code} {args : List Value} {w : World} {R : Value → World → Prop} (M : List Nat) (L : List Res) (hf : P.funcs[f]? = some fn) (hb : fn.body = some c) (hn : fn.ntmps = n) (hl : Nat.ble args.length n = true) (hS : St w M w L)
    (h : G P n w M c (bodyPost P fn fun e w' => ∃ v, e = .returned v ∧ R v w') (entry 0 args) L) : Ret P f args.toArray w R := by
  refine calls_of_wp hf hb (h _ _ ⟨?_, rfl, ?_⟩ hS)
  · have := Nat.le_of_ble_eq_true hl
    simp [hn]; omega
  · intro k v hk
    obtain ⟨_, h2⟩ := lk_entry args 0 k v hk
    have : k < args.length := by
      rcases Nat.lt_or_ge k args.length with h | h
      · exact h
      · rw [List.getElem?_eq_none (by simpa using h)] at h2; cases h2
    simp only [Nat.sub_zero] at h2
    rw [Array.getElem?_append_left (by simpa using this)]
    simpa using h2

/-- What the result variables hold. -/
inductive Rs (P : Program) (F : List (Nat × Value)) (L : List Res) : List ResultVar → List Value → Prop where
  | nil : Rs P F L [] []
  | tmp {t : Tmp} {v : Value} {rs : List ResultVar} {vs : List Value} (h : lk t F = some v) (hs : Rs P F L rs vs) : Rs P F L (.tmp t :: rs) (v :: vs)
  | cell {t : Tmp} {T V b : Nat} {cs : List Value} {v : Value} {rs : List ResultVar} {vs : List Value} (h : lk t F = some (.pointer (some ⟨b, 0, none⟩))) (hL : Res.box b V cs ∈ L) (hT : (TyA P T cs.length ∧ v = .agg cs.toArray) ∨ (TyS P T ∧ cs = [v])) (hs : Rs P F L rs vs) : Rs P F L (.cell t T :: rs) (v :: vs)
def tup (vs : List Value) : Value := match vs with | [v] => v | vs => .tuple vs.toArray
theorem Rs.run {fn : Func} {rs : List ResultVar} {vs : List Value} (hr : fn.results = rs.toArray) (h : Rs P F L rs vs) {a : Act} {w : World} (hF : Fr n a F) (hS : St w0 M w L) : (results fn a.tmps).run P w = .ok (tup vs) w := by
  let f : ResultVar → Sem Value := fun | .tmp t => pure (a.tmps.getD t undef) | .cell x t => do loadVar t (← asAddr (a.tmps.getD x undef))
  have key : ∀ rs vs, Rs P F L rs vs → (List.mapM f rs).run P w = .ok vs w := by
    intro rs vs h
    induction h with
    | nil => rfl
    | tmp h hs ih =>
      have hd : ∀ t, (f (.tmp t)).run P w = .ok (a.tmps.getD t undef) w := fun _ => rfl
      rw [List.mapM_cons, Sem.run_bind, hd]
      simp only [Result.andThen_ok, Sem.run_bind, ih, Sem.run_pure]
      simp [hF.get _ _ h]
    | cell h hL hT hs ih =>
      rename_i t T V b cs v rs vs
      have hb : w.heap[b]? = some (.cells cs.toArray V) := hS.ok _ hL
      have hd : (f (.cell t T)).run P w = .ok v w := by
        show (do loadVar T (← asAddr (a.tmps.getD t undef)) : Sem Value).run P w = _
        rw [show a.tmps.getD t undef = .pointer (some ⟨b, 0, none⟩) by simp [hF.get _ _ h]]
        rcases hT with ⟨hT, rfl⟩ | ⟨hT, rfl⟩
        · have := loadCells_at (P := P) (o := 0) hb (Nat.le_of_eq (Nat.zero_add _))
          rw [List.drop_zero, List.take_length] at this
          simp [asAddr, loadVar, hT.1 w, hT.2 w, this]
        · have : w.cell? ⟨b, 0, none⟩ = some v := cell_at (i := 0) hb
          simp [asAddr, loadVar, hT w, this]
      rw [List.mapM_cons, Sem.run_bind, hd]
      simp only [Result.andThen_ok, Sem.run_bind, ih, Sem.run_pure]
  have := key rs vs h
  have e : results fn a.tmps = (do let vs ← (List.toArray <$> List.mapM f rs); pure (if h : vs.size = 1 then vs[0] else .tuple vs)) := by
    unfold results
    rw [hr, List.mapM_toArray]
    rfl
  rw [e, Sem.run_bind, Sem.run_map, this]
  simp only [Result.andThen_ok]
  cases vs with
  | nil => rfl
  | cons v vs => cases vs <;> rfl
theorem GQ_ret {fn : Func} {rs : List ResultVar} {vs : List Value} {R : Value → World → Prop} (hr : fn.results = rs.toArray) (h : Rs P F L rs vs) (hR : ∀ w, St w0 M w L → R (tup vs) w) : GQ n w0 M (bodyPost P fn fun e w' => ∃ v, e = .returned v ∧ R v w') .ret F L :=
  fun _ w hF hS => ⟨hF.defers, tup vs, h.run hr hF hS, tup vs, rfl, hR w hS⟩
theorem GQ_end {fn : Func} {rs : List ResultVar} {vs : List Value} {R : Value → World → Prop} (hr : fn.results = rs.toArray) (h : Rs P F L rs vs) (hR : ∀ w, St w0 M w L → R (tup vs) w) : GQ n w0 M (bodyPost P fn fun e w' => ∃ v, e = .returned v ∧ R v w') .normal F L :=
  fun _ w hF hS => ⟨hF.defers, tup vs, h.run hr hF hS, tup vs, rfl, hR w hS⟩
end
end Go.Ing
/- Engine, part 4: parts of data in cells. -/
namespace Go.Ing
open Go

abbrev Str := List UInt8
def encI (x : Int) : List Value := [.int .i64 x]
def encB (x : Bool) : List Value := [.bool x]
def encS (x : Str) : List Value := [vstr x]
structure Hd where
  a : Option Addr
  len : Nat
  cap : Nat
def Hd.val (h : Hd) : Value := .slice h.a h.len h.cap
def encH (h : Hd) : List Value := [h.val]
def encP (p : Option Addr) : List Value := [.pointer p]

/-- Flat data of so many cells. -/
structure Flat {α : Type} (e : α → List Value) (sz : Nat) : Prop where
  len : ∀ y, (e y).length = sz
  one : ∀ y, ∀ v ∈ e y, v.oneCell' = true
theorem flI : Flat encI 1 := ⟨fun _ => rfl, fun y v hv => by simp [encI] at hv; subst hv; rfl⟩
theorem flB : Flat encB 1 := ⟨fun _ => rfl, fun y v hv => by simp [encB] at hv; subst hv; rfl⟩
theorem flS : Flat encS 1 := ⟨fun _ => rfl, fun y v hv => by simp [encS] at hv; subst hv; rfl⟩
theorem flP : Flat encP 1 := ⟨fun _ => rfl, fun y v hv => by simp [encP] at hv; subst hv; rfl⟩
theorem flH : Flat encH 1 := ⟨fun _ => rfl, fun y v hv => by simp [encH] at hv; subst hv; rfl⟩

theorem Lens.mid {α β : Type} {ea : α → List Value} {eb : β → List Value} {o sz : Nat} {g : α → β} {s : α → β → α} (fb : Flat eb sz) (pre post : α → List Value)
    (hp : ∀ x, (pre x).length = o) (h1 : ∀ x, ea x = pre x ++ eb (g x) ++ post x) (h2 : ∀ x y, ea (s x y) = pre x ++ eb y ++ post x) : Lens ea eb o sz g s := by
  refine ⟨fun x => ?_, fb.len, fun x => ?_, fun x y => ?_, fb.one⟩
  · rw [h1, List.append_assoc, ← hp x, List.drop_left, ← fb.len (g x), List.take_left]
  · rw [h1]; simp [hp x, fb.len]
  · rw [h2, h1]
    have : ((pre x) ++ eb (g x)).length = o + (eb y).length := by simp [hp x, fb.len]
    simp only [splice]
    rw [← this, List.drop_left, List.append_assoc (pre x), ← hp x, List.take_left, List.append_assoc]

/-! ### arrays -/
abbrev Arr (α : Type) (n : Nat) := Vector α n
section
variable {α : Type} {n : Nat}
def _root_.Vector.at [Inhabited α] (v : Vector α n) (i : Int) : α := v.toList.getD i.toNat default
def _root_.Vector.put (v : Vector α n) (i : Int) (x : α) : Vector α n := v.setIfInBounds i.toNat x
def encA (e : α → List Value) (v : Vector α n) : List Value := v.toList.flatMap e
theorem flatMap_len {e : α → List Value} {sz : Nat} (h : ∀ y, (e y).length = sz) : ∀ l : List α, (l.flatMap e).length = l.length * sz
  | [] => by simp
  | x :: l => by simp [flatMap_len h l, h]; rw [Nat.add_mul]; omega
theorem flA {e : α → List Value} {sz : Nat} (fe : Flat e sz) : Flat (encA (n := n) e) (n * sz) :=
  ⟨fun y => by simp [encA, flatMap_len fe.len], fun y v hv => by
    simp only [encA, List.mem_flatMap] at hv
    obtain ⟨x, _, hx⟩ := hv
    exact fe.one x v hx⟩
theorem flatMap_split {e : α → List Value} (l : List α) (k : Nat) (hk : k < l.length) : l.flatMap e = (l.take k).flatMap e ++ e l[k] ++ (l.drop (k + 1)).flatMap e := by
  have h1 : l = l.take k ++ l[k] :: l.drop (k + 1) := by rw [← List.drop_eq_getElem_cons hk, List.take_append_drop]
  have h2 : l.flatMap e = (l.take k ++ l[k] :: l.drop (k + 1)).flatMap e := congrArg _ h1
  exact h2.trans (by rw [List.flatMap_append, List.flatMap_cons, List.append_assoc])
theorem Lens.arr [Inhabited α] {e : α → List Value} {sz : Nat} (fe : Flat e sz) {i : Int} (_h0 : 0 ≤ i) (h1 : i < (n : Int)) : Lens (encA (n := n) e) e (i.toNat * sz) sz (fun v => v.at i) (fun v y => v.put i y) := by
  have hn : i.toNat < n := by omega
  refine Lens.mid fe (fun v => (v.toList.take i.toNat).flatMap e) (fun v => (v.toList.drop (i.toNat + 1)).flatMap e) (fun v => ?_) (fun v => ?_) (fun v y => ?_)
  · rw [flatMap_len fe.len, List.length_take, Nat.min_eq_left (by simp; omega)]
  · rw [encA, flatMap_split v.toList i.toNat (by simpa using hn)]
    simp [Vector.at, List.getD, hn]
  · have hl : i.toNat < (v.put i y).toList.length := by simpa using hn
    rw [encA, flatMap_split _ i.toNat hl]
    have e1 : (v.put i y).toList = v.toList.set i.toNat y := by simp [Vector.put]
    simp [e1, List.take_set_of_le, List.drop_set_of_lt]
end
end Go.Ing
/- The program's data, in Lean, and their parts. -/
namespace Go.Ing
open Go
structure Telnet where
  at_ : Int
  verb : Int
  sub : Str
  us : Arr Int 3
  them : Arr Int 3
  height : Int
  deriving DecidableEq, Inhabited
def Telnet.enc (x : Telnet) : List Value := encI x.at_ ++ encI x.verb ++ encS x.sub ++ encA encI x.us ++ encA encI x.them ++ encI x.height
theorem Telnet.fl : Flat Telnet.enc 10 := ⟨fun x => by simp [Telnet.enc, (flA flI).len, flI.len, flS.len], fun x v hv => by
  simp only [Telnet.enc, List.mem_append] at hv
  rcases hv with ((((h | h) | h) | h) | h) | h
  · exact flI.one _ v h
  · exact flI.one _ v h
  · exact flS.one _ v h
  · exact (flA flI).one _ v h
  · exact (flA flI).one _ v h
  · exact flI.one _ v h⟩
theorem Telnet.l0 : Lens Telnet.enc (encI) 0 1 (fun x => x.at_) (fun x y => { x with at_ := y }) :=
  Lens.mid flI (fun _ => []) (fun x => encI x.verb ++ encS x.sub ++ encA encI x.us ++ encA encI x.them ++ encI x.height) (fun _ => rfl) (fun x => by simp [Telnet.enc]) (fun x y => by simp [Telnet.enc])
theorem Telnet.l1 : Lens Telnet.enc (encI) 1 1 (fun x => x.verb) (fun x y => { x with verb := y }) :=
  Lens.mid flI (fun x => encI x.at_) (fun x => encS x.sub ++ encA encI x.us ++ encA encI x.them ++ encI x.height) (fun x => by simp [flI.len]) (fun x => by simp [Telnet.enc]) (fun x y => by simp [Telnet.enc])
theorem Telnet.l2 : Lens Telnet.enc (encS) 2 1 (fun x => x.sub) (fun x y => { x with sub := y }) :=
  Lens.mid flS (fun x => encI x.at_ ++ encI x.verb) (fun x => encA encI x.us ++ encA encI x.them ++ encI x.height) (fun x => by simp [flI.len]) (fun x => by simp [Telnet.enc]) (fun x y => by simp [Telnet.enc])
theorem Telnet.l3 : Lens Telnet.enc (encA encI) 3 3 (fun x => x.us) (fun x y => { x with us := y }) :=
  Lens.mid (flA flI) (fun x => encI x.at_ ++ encI x.verb ++ encS x.sub) (fun x => encA encI x.them ++ encI x.height) (fun x => by simp [flI.len, flS.len]) (fun x => by simp [Telnet.enc]) (fun x y => by simp [Telnet.enc])
theorem Telnet.l4 : Lens Telnet.enc (encA encI) 6 3 (fun x => x.them) (fun x y => { x with them := y }) :=
  Lens.mid (flA flI) (fun x => encI x.at_ ++ encI x.verb ++ encS x.sub ++ encA encI x.us) (fun x => encI x.height) (fun x => by simp [(flA flI).len, flI.len, flS.len]) (fun x => by simp [Telnet.enc]) (fun x y => by simp [Telnet.enc])
theorem Telnet.l5 : Lens Telnet.enc (encI) 9 1 (fun x => x.height) (fun x y => { x with height := y }) :=
  Lens.mid flI (fun x => encI x.at_ ++ encI x.verb ++ encS x.sub ++ encA encI x.us ++ encA encI x.them) (fun _ => []) (fun x => by simp [(flA flI).len, flI.len, flS.len]) (fun x => by simp [Telnet.enc]) (fun x y => by simp [Telnet.enc])
structure LineV where
  now : Str
  long : Bool
  ret : Bool
  queue : Hd
def LineV.enc (x : LineV) : List Value := encS x.now ++ encB x.long ++ encB x.ret ++ encH x.queue
theorem LineV.fl : Flat LineV.enc 4 := ⟨fun x => by simp [LineV.enc, flB.len, flH.len, flS.len], fun x v hv => by
  simp only [LineV.enc, List.mem_append] at hv
  rcases hv with ((h | h) | h) | h
  · exact flS.one _ v h
  · exact flB.one _ v h
  · exact flB.one _ v h
  · exact flH.one _ v h⟩
theorem LineV.l0 : Lens LineV.enc (encS) 0 1 (fun x => x.now) (fun x y => { x with now := y }) :=
  Lens.mid flS (fun _ => []) (fun x => encB x.long ++ encB x.ret ++ encH x.queue) (fun _ => rfl) (fun x => by simp [LineV.enc]) (fun x y => by simp [LineV.enc])
theorem LineV.l1 : Lens LineV.enc (encB) 1 1 (fun x => x.long) (fun x y => { x with long := y }) :=
  Lens.mid flB (fun x => encS x.now) (fun x => encB x.ret ++ encH x.queue) (fun x => by simp [flS.len]) (fun x => by simp [LineV.enc]) (fun x y => by simp [LineV.enc])
theorem LineV.l2 : Lens LineV.enc (encB) 2 1 (fun x => x.ret) (fun x y => { x with ret := y }) :=
  Lens.mid flB (fun x => encS x.now ++ encB x.long) (fun x => encH x.queue) (fun x => by simp [flB.len, flS.len]) (fun x => by simp [LineV.enc]) (fun x y => by simp [LineV.enc])
theorem LineV.l3 : Lens LineV.enc (encH) 3 1 (fun x => x.queue) (fun x y => { x with queue := y }) :=
  Lens.mid flH (fun x => encS x.now ++ encB x.long ++ encB x.ret) (fun _ => []) (fun x => by simp [flB.len, flS.len]) (fun x => by simp [LineV.enc]) (fun x y => by simp [LineV.enc])
structure PageV where
  wait : Hd
  shown : Int
  asking : Bool
  ring : Str
  cut : Bool
def PageV.enc (x : PageV) : List Value := encH x.wait ++ encI x.shown ++ encB x.asking ++ encS x.ring ++ encB x.cut
theorem PageV.fl : Flat PageV.enc 5 := ⟨fun x => by simp [PageV.enc, flB.len, flH.len, flI.len, flS.len], fun x v hv => by
  simp only [PageV.enc, List.mem_append] at hv
  rcases hv with (((h | h) | h) | h) | h
  · exact flH.one _ v h
  · exact flI.one _ v h
  · exact flB.one _ v h
  · exact flS.one _ v h
  · exact flB.one _ v h⟩
theorem PageV.l0 : Lens PageV.enc (encH) 0 1 (fun x => x.wait) (fun x y => { x with wait := y }) :=
  Lens.mid flH (fun _ => []) (fun x => encI x.shown ++ encB x.asking ++ encS x.ring ++ encB x.cut) (fun _ => rfl) (fun x => by simp [PageV.enc]) (fun x y => by simp [PageV.enc])
theorem PageV.l1 : Lens PageV.enc (encI) 1 1 (fun x => x.shown) (fun x y => { x with shown := y }) :=
  Lens.mid flI (fun x => encH x.wait) (fun x => encB x.asking ++ encS x.ring ++ encB x.cut) (fun x => by simp [flH.len]) (fun x => by simp [PageV.enc]) (fun x y => by simp [PageV.enc])
theorem PageV.l2 : Lens PageV.enc (encB) 2 1 (fun x => x.asking) (fun x y => { x with asking := y }) :=
  Lens.mid flB (fun x => encH x.wait ++ encI x.shown) (fun x => encS x.ring ++ encB x.cut) (fun x => by simp [flH.len, flI.len]) (fun x => by simp [PageV.enc]) (fun x y => by simp [PageV.enc])
theorem PageV.l3 : Lens PageV.enc (encS) 3 1 (fun x => x.ring) (fun x y => { x with ring := y }) :=
  Lens.mid flS (fun x => encH x.wait ++ encI x.shown ++ encB x.asking) (fun x => encB x.cut) (fun x => by simp [flB.len, flH.len, flI.len]) (fun x => by simp [PageV.enc]) (fun x y => by simp [PageV.enc])
theorem PageV.l4 : Lens PageV.enc (encB) 4 1 (fun x => x.cut) (fun x y => { x with cut := y }) :=
  Lens.mid flB (fun x => encH x.wait ++ encI x.shown ++ encB x.asking ++ encS x.ring) (fun _ => []) (fun x => by simp [flB.len, flH.len, flI.len, flS.len]) (fun x => by simp [PageV.enc]) (fun x y => by simp [PageV.enc])
structure Room where
  name : Str
  dark : Bool
  exits : Arr Int 6
  shut : Arr Bool 6
  deriving DecidableEq, Inhabited
def Room.enc (x : Room) : List Value := encS x.name ++ encB x.dark ++ encA encI x.exits ++ encA encB x.shut
theorem Room.fl : Flat Room.enc 14 := ⟨fun x => by simp [Room.enc, (flA flB).len, (flA flI).len, flB.len, flS.len], fun x v hv => by
  simp only [Room.enc, List.mem_append] at hv
  rcases hv with ((h | h) | h) | h
  · exact flS.one _ v h
  · exact flB.one _ v h
  · exact (flA flI).one _ v h
  · exact (flA flB).one _ v h⟩
theorem Room.l0 : Lens Room.enc (encS) 0 1 (fun x => x.name) (fun x y => { x with name := y }) :=
  Lens.mid flS (fun _ => []) (fun x => encB x.dark ++ encA encI x.exits ++ encA encB x.shut) (fun _ => rfl) (fun x => by simp [Room.enc]) (fun x y => by simp [Room.enc])
theorem Room.l1 : Lens Room.enc (encB) 1 1 (fun x => x.dark) (fun x y => { x with dark := y }) :=
  Lens.mid flB (fun x => encS x.name) (fun x => encA encI x.exits ++ encA encB x.shut) (fun x => by simp [flS.len]) (fun x => by simp [Room.enc]) (fun x y => by simp [Room.enc])
theorem Room.l2 : Lens Room.enc (encA encI) 2 6 (fun x => x.exits) (fun x y => { x with exits := y }) :=
  Lens.mid (flA flI) (fun x => encS x.name ++ encB x.dark) (fun x => encA encB x.shut) (fun x => by simp [flB.len, flS.len]) (fun x => by simp [Room.enc]) (fun x y => by simp [Room.enc])
theorem Room.l3 : Lens Room.enc (encA encB) 8 6 (fun x => x.shut) (fun x y => { x with shut := y }) :=
  Lens.mid (flA flB) (fun x => encS x.name ++ encB x.dark ++ encA encI x.exits) (fun _ => []) (fun x => by simp [(flA flI).len, flB.len, flS.len]) (fun x => by simp [Room.enc]) (fun x y => by simp [Room.enc])
structure Thing where
  name : Str
  kind : Int
  whr : Int
  at_ : Int
  on : Bool
  deriving DecidableEq, Inhabited
def Thing.enc (x : Thing) : List Value := encS x.name ++ encI x.kind ++ encI x.whr ++ encI x.at_ ++ encB x.on
theorem Thing.fl : Flat Thing.enc 5 := ⟨fun x => by simp [Thing.enc, flB.len, flI.len, flS.len], fun x v hv => by
  simp only [Thing.enc, List.mem_append] at hv
  rcases hv with (((h | h) | h) | h) | h
  · exact flS.one _ v h
  · exact flI.one _ v h
  · exact flI.one _ v h
  · exact flI.one _ v h
  · exact flB.one _ v h⟩
theorem Thing.l0 : Lens Thing.enc (encS) 0 1 (fun x => x.name) (fun x y => { x with name := y }) :=
  Lens.mid flS (fun _ => []) (fun x => encI x.kind ++ encI x.whr ++ encI x.at_ ++ encB x.on) (fun _ => rfl) (fun x => by simp [Thing.enc]) (fun x y => by simp [Thing.enc])
theorem Thing.l1 : Lens Thing.enc (encI) 1 1 (fun x => x.kind) (fun x y => { x with kind := y }) :=
  Lens.mid flI (fun x => encS x.name) (fun x => encI x.whr ++ encI x.at_ ++ encB x.on) (fun x => by simp [flS.len]) (fun x => by simp [Thing.enc]) (fun x y => by simp [Thing.enc])
theorem Thing.l2 : Lens Thing.enc (encI) 2 1 (fun x => x.whr) (fun x y => { x with whr := y }) :=
  Lens.mid flI (fun x => encS x.name ++ encI x.kind) (fun x => encI x.at_ ++ encB x.on) (fun x => by simp [flI.len, flS.len]) (fun x => by simp [Thing.enc]) (fun x y => by simp [Thing.enc])
theorem Thing.l3 : Lens Thing.enc (encI) 3 1 (fun x => x.at_) (fun x y => { x with at_ := y }) :=
  Lens.mid flI (fun x => encS x.name ++ encI x.kind ++ encI x.whr) (fun x => encB x.on) (fun x => by simp [flI.len, flS.len]) (fun x => by simp [Thing.enc]) (fun x y => by simp [Thing.enc])
theorem Thing.l4 : Lens Thing.enc (encB) 4 1 (fun x => x.on) (fun x y => { x with on := y }) :=
  Lens.mid flB (fun x => encS x.name ++ encI x.kind ++ encI x.whr ++ encI x.at_) (fun _ => []) (fun x => by simp [flI.len, flS.len]) (fun x => by simp [Thing.enc]) (fun x y => by simp [Thing.enc])
structure Being where
  name : Str
  here : Bool
  keen : Bool
  room : Int
  health : Int
  foe : Int
  deriving DecidableEq, Inhabited
def Being.enc (x : Being) : List Value := encS x.name ++ encB x.here ++ encB x.keen ++ encI x.room ++ encI x.health ++ encI x.foe
theorem Being.fl : Flat Being.enc 6 := ⟨fun x => by simp [Being.enc, flB.len, flI.len, flS.len], fun x v hv => by
  simp only [Being.enc, List.mem_append] at hv
  rcases hv with ((((h | h) | h) | h) | h) | h
  · exact flS.one _ v h
  · exact flB.one _ v h
  · exact flB.one _ v h
  · exact flI.one _ v h
  · exact flI.one _ v h
  · exact flI.one _ v h⟩
theorem Being.l0 : Lens Being.enc (encS) 0 1 (fun x => x.name) (fun x y => { x with name := y }) :=
  Lens.mid flS (fun _ => []) (fun x => encB x.here ++ encB x.keen ++ encI x.room ++ encI x.health ++ encI x.foe) (fun _ => rfl) (fun x => by simp [Being.enc]) (fun x y => by simp [Being.enc])
theorem Being.l1 : Lens Being.enc (encB) 1 1 (fun x => x.here) (fun x y => { x with here := y }) :=
  Lens.mid flB (fun x => encS x.name) (fun x => encB x.keen ++ encI x.room ++ encI x.health ++ encI x.foe) (fun x => by simp [flS.len]) (fun x => by simp [Being.enc]) (fun x y => by simp [Being.enc])
theorem Being.l2 : Lens Being.enc (encB) 2 1 (fun x => x.keen) (fun x y => { x with keen := y }) :=
  Lens.mid flB (fun x => encS x.name ++ encB x.here) (fun x => encI x.room ++ encI x.health ++ encI x.foe) (fun x => by simp [flB.len, flS.len]) (fun x => by simp [Being.enc]) (fun x y => by simp [Being.enc])
theorem Being.l3 : Lens Being.enc (encI) 3 1 (fun x => x.room) (fun x y => { x with room := y }) :=
  Lens.mid flI (fun x => encS x.name ++ encB x.here ++ encB x.keen) (fun x => encI x.health ++ encI x.foe) (fun x => by simp [flB.len, flS.len]) (fun x => by simp [Being.enc]) (fun x y => by simp [Being.enc])
theorem Being.l4 : Lens Being.enc (encI) 4 1 (fun x => x.health) (fun x y => { x with health := y }) :=
  Lens.mid flI (fun x => encS x.name ++ encB x.here ++ encB x.keen ++ encI x.room) (fun x => encI x.foe) (fun x => by simp [flB.len, flI.len, flS.len]) (fun x => by simp [Being.enc]) (fun x y => by simp [Being.enc])
theorem Being.l5 : Lens Being.enc (encI) 5 1 (fun x => x.foe) (fun x y => { x with foe := y }) :=
  Lens.mid flI (fun x => encS x.name ++ encB x.here ++ encB x.keen ++ encI x.room ++ encI x.health) (fun _ => []) (fun x => by simp [flB.len, flI.len, flS.len]) (fun x => by simp [Being.enc]) (fun x y => by simp [Being.enc])
structure Land where
  rooms : Arr Room 6
  things : Arr Thing 9
  beings : Arr Being 6
  deriving DecidableEq, Inhabited
def Land.enc (x : Land) : List Value := encA Room.enc x.rooms ++ encA Thing.enc x.things ++ encA Being.enc x.beings
theorem Land.fl : Flat Land.enc 165 := ⟨fun x => by simp [Land.enc, (flA Being.fl).len, (flA Room.fl).len, (flA Thing.fl).len], fun x v hv => by
  simp only [Land.enc, List.mem_append] at hv
  rcases hv with (h | h) | h
  · exact (flA Room.fl).one _ v h
  · exact (flA Thing.fl).one _ v h
  · exact (flA Being.fl).one _ v h⟩
theorem Land.l0 : Lens Land.enc (encA Room.enc) 0 84 (fun x => x.rooms) (fun x y => { x with rooms := y }) :=
  Lens.mid (flA Room.fl) (fun _ => []) (fun x => encA Thing.enc x.things ++ encA Being.enc x.beings) (fun _ => rfl) (fun x => by simp [Land.enc]) (fun x y => by simp [Land.enc])
theorem Land.l1 : Lens Land.enc (encA Thing.enc) 84 45 (fun x => x.things) (fun x y => { x with things := y }) :=
  Lens.mid (flA Thing.fl) (fun x => encA Room.enc x.rooms) (fun x => encA Being.enc x.beings) (fun x => by simp [(flA Room.fl).len]) (fun x => by simp [Land.enc]) (fun x y => by simp [Land.enc])
theorem Land.l2 : Lens Land.enc (encA Being.enc) 129 36 (fun x => x.beings) (fun x y => { x with beings := y }) :=
  Lens.mid (flA Being.fl) (fun x => encA Room.enc x.rooms ++ encA Thing.enc x.things) (fun _ => []) (fun x => by simp [(flA Room.fl).len, (flA Thing.fl).len]) (fun x => by simp [Land.enc]) (fun x y => by simp [Land.enc])
structure Order where
  verb : Int
  nth : Int
  all_ : Bool
  name : Str
  second : Str
  text : Str
  deriving DecidableEq, Inhabited
def Order.enc (x : Order) : List Value := encI x.verb ++ encI x.nth ++ encB x.all_ ++ encS x.name ++ encS x.second ++ encS x.text
theorem Order.fl : Flat Order.enc 6 := ⟨fun x => by simp [Order.enc, flB.len, flI.len, flS.len], fun x v hv => by
  simp only [Order.enc, List.mem_append] at hv
  rcases hv with ((((h | h) | h) | h) | h) | h
  · exact flI.one _ v h
  · exact flI.one _ v h
  · exact flB.one _ v h
  · exact flS.one _ v h
  · exact flS.one _ v h
  · exact flS.one _ v h⟩
theorem Order.l0 : Lens Order.enc (encI) 0 1 (fun x => x.verb) (fun x y => { x with verb := y }) :=
  Lens.mid flI (fun _ => []) (fun x => encI x.nth ++ encB x.all_ ++ encS x.name ++ encS x.second ++ encS x.text) (fun _ => rfl) (fun x => by simp [Order.enc]) (fun x y => by simp [Order.enc])
theorem Order.l1 : Lens Order.enc (encI) 1 1 (fun x => x.nth) (fun x y => { x with nth := y }) :=
  Lens.mid flI (fun x => encI x.verb) (fun x => encB x.all_ ++ encS x.name ++ encS x.second ++ encS x.text) (fun x => by simp [flI.len]) (fun x => by simp [Order.enc]) (fun x y => by simp [Order.enc])
theorem Order.l2 : Lens Order.enc (encB) 2 1 (fun x => x.all_) (fun x y => { x with all_ := y }) :=
  Lens.mid flB (fun x => encI x.verb ++ encI x.nth) (fun x => encS x.name ++ encS x.second ++ encS x.text) (fun x => by simp [flI.len]) (fun x => by simp [Order.enc]) (fun x y => by simp [Order.enc])
theorem Order.l3 : Lens Order.enc (encS) 3 1 (fun x => x.name) (fun x y => { x with name := y }) :=
  Lens.mid flS (fun x => encI x.verb ++ encI x.nth ++ encB x.all_) (fun x => encS x.second ++ encS x.text) (fun x => by simp [flB.len, flI.len]) (fun x => by simp [Order.enc]) (fun x y => by simp [Order.enc])
theorem Order.l4 : Lens Order.enc (encS) 4 1 (fun x => x.second) (fun x y => { x with second := y }) :=
  Lens.mid flS (fun x => encI x.verb ++ encI x.nth ++ encB x.all_ ++ encS x.name) (fun x => encS x.text) (fun x => by simp [flB.len, flI.len, flS.len]) (fun x => by simp [Order.enc]) (fun x y => by simp [Order.enc])
theorem Order.l5 : Lens Order.enc (encS) 5 1 (fun x => x.text) (fun x y => { x with text := y }) :=
  Lens.mid flS (fun x => encI x.verb ++ encI x.nth ++ encB x.all_ ++ encS x.name ++ encS x.second) (fun _ => []) (fun x => by simp [flB.len, flI.len, flS.len]) (fun x => by simp [Order.enc]) (fun x y => by simp [Order.enc])
structure Event where
  kind : Int
  room : Int
  actor : Int
  other : Int
  dir : Int
  n : Int
  who : Str
  whom : Str
  thing : Str
  text : Str
  by_ : Arr Int 6
  deriving DecidableEq, Inhabited
def Event.enc (x : Event) : List Value := encI x.kind ++ encI x.room ++ encI x.actor ++ encI x.other ++ encI x.dir ++ encI x.n ++ encS x.who ++ encS x.whom ++ encS x.thing ++ encS x.text ++ encA encI x.by_
theorem Event.fl : Flat Event.enc 16 := ⟨fun x => by simp [Event.enc, (flA flI).len, flI.len, flS.len], fun x v hv => by
  simp only [Event.enc, List.mem_append] at hv
  rcases hv with (((((((((h | h) | h) | h) | h) | h) | h) | h) | h) | h) | h
  · exact flI.one _ v h
  · exact flI.one _ v h
  · exact flI.one _ v h
  · exact flI.one _ v h
  · exact flI.one _ v h
  · exact flI.one _ v h
  · exact flS.one _ v h
  · exact flS.one _ v h
  · exact flS.one _ v h
  · exact flS.one _ v h
  · exact (flA flI).one _ v h⟩
theorem Event.l0 : Lens Event.enc (encI) 0 1 (fun x => x.kind) (fun x y => { x with kind := y }) :=
  Lens.mid flI (fun _ => []) (fun x => encI x.room ++ encI x.actor ++ encI x.other ++ encI x.dir ++ encI x.n ++ encS x.who ++ encS x.whom ++ encS x.thing ++ encS x.text ++ encA encI x.by_) (fun _ => rfl) (fun x => by simp [Event.enc]) (fun x y => by simp [Event.enc])
theorem Event.l1 : Lens Event.enc (encI) 1 1 (fun x => x.room) (fun x y => { x with room := y }) :=
  Lens.mid flI (fun x => encI x.kind) (fun x => encI x.actor ++ encI x.other ++ encI x.dir ++ encI x.n ++ encS x.who ++ encS x.whom ++ encS x.thing ++ encS x.text ++ encA encI x.by_) (fun x => by simp [flI.len]) (fun x => by simp [Event.enc]) (fun x y => by simp [Event.enc])
theorem Event.l2 : Lens Event.enc (encI) 2 1 (fun x => x.actor) (fun x y => { x with actor := y }) :=
  Lens.mid flI (fun x => encI x.kind ++ encI x.room) (fun x => encI x.other ++ encI x.dir ++ encI x.n ++ encS x.who ++ encS x.whom ++ encS x.thing ++ encS x.text ++ encA encI x.by_) (fun x => by simp [flI.len]) (fun x => by simp [Event.enc]) (fun x y => by simp [Event.enc])
theorem Event.l3 : Lens Event.enc (encI) 3 1 (fun x => x.other) (fun x y => { x with other := y }) :=
  Lens.mid flI (fun x => encI x.kind ++ encI x.room ++ encI x.actor) (fun x => encI x.dir ++ encI x.n ++ encS x.who ++ encS x.whom ++ encS x.thing ++ encS x.text ++ encA encI x.by_) (fun x => by simp [flI.len]) (fun x => by simp [Event.enc]) (fun x y => by simp [Event.enc])
theorem Event.l4 : Lens Event.enc (encI) 4 1 (fun x => x.dir) (fun x y => { x with dir := y }) :=
  Lens.mid flI (fun x => encI x.kind ++ encI x.room ++ encI x.actor ++ encI x.other) (fun x => encI x.n ++ encS x.who ++ encS x.whom ++ encS x.thing ++ encS x.text ++ encA encI x.by_) (fun x => by simp [flI.len]) (fun x => by simp [Event.enc]) (fun x y => by simp [Event.enc])
theorem Event.l5 : Lens Event.enc (encI) 5 1 (fun x => x.n) (fun x y => { x with n := y }) :=
  Lens.mid flI (fun x => encI x.kind ++ encI x.room ++ encI x.actor ++ encI x.other ++ encI x.dir) (fun x => encS x.who ++ encS x.whom ++ encS x.thing ++ encS x.text ++ encA encI x.by_) (fun x => by simp [flI.len]) (fun x => by simp [Event.enc]) (fun x y => by simp [Event.enc])
theorem Event.l6 : Lens Event.enc (encS) 6 1 (fun x => x.who) (fun x y => { x with who := y }) :=
  Lens.mid flS (fun x => encI x.kind ++ encI x.room ++ encI x.actor ++ encI x.other ++ encI x.dir ++ encI x.n) (fun x => encS x.whom ++ encS x.thing ++ encS x.text ++ encA encI x.by_) (fun x => by simp [flI.len]) (fun x => by simp [Event.enc]) (fun x y => by simp [Event.enc])
theorem Event.l7 : Lens Event.enc (encS) 7 1 (fun x => x.whom) (fun x y => { x with whom := y }) :=
  Lens.mid flS (fun x => encI x.kind ++ encI x.room ++ encI x.actor ++ encI x.other ++ encI x.dir ++ encI x.n ++ encS x.who) (fun x => encS x.thing ++ encS x.text ++ encA encI x.by_) (fun x => by simp [flI.len, flS.len]) (fun x => by simp [Event.enc]) (fun x y => by simp [Event.enc])
theorem Event.l8 : Lens Event.enc (encS) 8 1 (fun x => x.thing) (fun x y => { x with thing := y }) :=
  Lens.mid flS (fun x => encI x.kind ++ encI x.room ++ encI x.actor ++ encI x.other ++ encI x.dir ++ encI x.n ++ encS x.who ++ encS x.whom) (fun x => encS x.text ++ encA encI x.by_) (fun x => by simp [flI.len, flS.len]) (fun x => by simp [Event.enc]) (fun x y => by simp [Event.enc])
theorem Event.l9 : Lens Event.enc (encS) 9 1 (fun x => x.text) (fun x y => { x with text := y }) :=
  Lens.mid flS (fun x => encI x.kind ++ encI x.room ++ encI x.actor ++ encI x.other ++ encI x.dir ++ encI x.n ++ encS x.who ++ encS x.whom ++ encS x.thing) (fun x => encA encI x.by_) (fun x => by simp [flI.len, flS.len]) (fun x => by simp [Event.enc]) (fun x y => by simp [Event.enc])
theorem Event.l10 : Lens Event.enc (encA encI) 10 6 (fun x => x.by_) (fun x y => { x with by_ := y }) :=
  Lens.mid (flA flI) (fun x => encI x.kind ++ encI x.room ++ encI x.actor ++ encI x.other ++ encI x.dir ++ encI x.n ++ encS x.who ++ encS x.whom ++ encS x.thing ++ encS x.text) (fun _ => []) (fun x => by simp [flI.len, flS.len]) (fun x => by simp [Event.enc]) (fun x y => by simp [Event.enc])
structure ActV where
  kind : Int
  seat : Int
  n : Int
  bytes : Str
  deriving DecidableEq, Inhabited
def ActV.enc (x : ActV) : List Value := encI x.kind ++ encI x.seat ++ encI x.n ++ encS x.bytes
theorem ActV.fl : Flat ActV.enc 4 := ⟨fun x => by simp [ActV.enc, flI.len, flS.len], fun x v hv => by
  simp only [ActV.enc, List.mem_append] at hv
  rcases hv with ((h | h) | h) | h
  · exact flI.one _ v h
  · exact flI.one _ v h
  · exact flI.one _ v h
  · exact flS.one _ v h⟩
theorem ActV.l0 : Lens ActV.enc (encI) 0 1 (fun x => x.kind) (fun x y => { x with kind := y }) :=
  Lens.mid flI (fun _ => []) (fun x => encI x.seat ++ encI x.n ++ encS x.bytes) (fun _ => rfl) (fun x => by simp [ActV.enc]) (fun x y => by simp [ActV.enc])
theorem ActV.l1 : Lens ActV.enc (encI) 1 1 (fun x => x.seat) (fun x y => { x with seat := y }) :=
  Lens.mid flI (fun x => encI x.kind) (fun x => encI x.n ++ encS x.bytes) (fun x => by simp [flI.len]) (fun x => by simp [ActV.enc]) (fun x y => by simp [ActV.enc])
theorem ActV.l2 : Lens ActV.enc (encI) 2 1 (fun x => x.n) (fun x y => { x with n := y }) :=
  Lens.mid flI (fun x => encI x.kind ++ encI x.seat) (fun x => encS x.bytes) (fun x => by simp [flI.len]) (fun x => by simp [ActV.enc]) (fun x y => by simp [ActV.enc])
theorem ActV.l3 : Lens ActV.enc (encS) 3 1 (fun x => x.bytes) (fun x y => { x with bytes := y }) :=
  Lens.mid flS (fun x => encI x.kind ++ encI x.seat ++ encI x.n) (fun _ => []) (fun x => by simp [flI.len]) (fun x => by simp [ActV.enc]) (fun x y => by simp [ActV.enc])
structure Reply where
  code : Int
  out : Str
  deriving DecidableEq, Inhabited
def Reply.enc (x : Reply) : List Value := encI x.code ++ encS x.out
theorem Reply.fl : Flat Reply.enc 2 := ⟨fun x => by simp [Reply.enc, flI.len, flS.len], fun x v hv => by
  simp only [Reply.enc, List.mem_append] at hv
  rcases hv with h | h
  · exact flI.one _ v h
  · exact flS.one _ v h⟩
theorem Reply.l0 : Lens Reply.enc (encI) 0 1 (fun x => x.code) (fun x y => { x with code := y }) :=
  Lens.mid flI (fun _ => []) (fun x => encS x.out) (fun _ => rfl) (fun x => by simp [Reply.enc]) (fun x y => by simp [Reply.enc])
theorem Reply.l1 : Lens Reply.enc (encS) 1 1 (fun x => x.out) (fun x y => { x with out := y }) :=
  Lens.mid flS (fun x => encI x.code) (fun _ => []) (fun x => by simp [flI.len]) (fun x => by simp [Reply.enc]) (fun x y => by simp [Reply.enc])
structure BldV where
  addr : Option Addr
  buf : Hd
def BldV.enc (x : BldV) : List Value := encP x.addr ++ encH x.buf
theorem BldV.fl : Flat BldV.enc 2 := ⟨fun x => by simp [BldV.enc, flH.len, flP.len], fun x v hv => by
  simp only [BldV.enc, List.mem_append] at hv
  rcases hv with h | h
  · exact flP.one _ v h
  · exact flH.one _ v h⟩
theorem BldV.l0 : Lens BldV.enc (encP) 0 1 (fun x => x.addr) (fun x y => { x with addr := y }) :=
  Lens.mid flP (fun _ => []) (fun x => encH x.buf) (fun _ => rfl) (fun x => by simp [BldV.enc]) (fun x y => by simp [BldV.enc])
theorem BldV.l1 : Lens BldV.enc (encH) 1 1 (fun x => x.buf) (fun x y => { x with buf := y }) :=
  Lens.mid flH (fun x => encP x.addr) (fun _ => []) (fun x => by simp [flP.len]) (fun x => by simp [BldV.enc]) (fun x y => by simp [BldV.enc])
end Go.Ing
/- Engine, part 5: small rules for the printed walks. -/
namespace Go.Ing
open Go
section
variable {P : Program} {n : Nat} {w0 : World} {M : List Nat} {Q : Exit → Act → World → Prop} {F F' : List (Nat × Value)} {L L' : List Res} {ops : Array Oper} {rest : List Oper} {e : Exit}
theorem GQ_sub (hs : Sub F F') (h : GQ n w0 M Q e F' L) : GQ n w0 M Q e F L := fun a w hF hS => h a w (hF.sub hs) hS
theorem PS_nilCheck {T : TypeId} {x : Operand} {p : Addr} (hx : ev F x = some (.pointer (some p))) : PS P n w0 M (.nilCheck x) T F L (.pointer (some p)) L := PS_of fun a w hF => by simp [execOp, hF.ev hx]
theorem G_subF {c : Code} (hs : Sub F F') (h : G P n w0 M c Q F' L) : G P n w0 M c Q F L := fun a w hF hS => h a w (hF.sub hs) hS
/-- One piece of the list is taken out. -/
inductive Pull : List Res → Res → List Res → Prop where
  | head {r : Res} {L : List Res} : Pull (r :: L) r L
  | tail {s r : Res} {L L' : List Res} (h : Pull L r L') : Pull (s :: L) r (s :: L')
theorem Pull.perm {L L' : List Res} {r : Res} (h : Pull L r L') : L.Perm (r :: L') := by
  induction h with
  | head => exact .refl _
  | tail _ ih => exact (List.Perm.cons _ ih).trans (.swap ..)
theorem St.perm {w : World} (h : St w0 M w L) (hp : L.Perm L') : St w0 M w L' :=
  ⟨h.os, h.tape, h.output, h.size, h.old, fun r hr => h.ok r (hp.mem_iff.2 hr), fun r hr => h.foot r (hp.mem_iff.2 hr), h.disj.perm hp fun h b hb hb' => h b hb' hb⟩
theorem G_pull {c : Code} {r : Res} (hp : Pull L r L') (h : G P n w0 M c Q F (r :: L')) : G P n w0 M c Q F L := fun a w hF hS => h a w hF (hS.perm hp.perm)
/-! #### what hangs on a bool -/
def cv (c : Bool) (v : Value) : Value := bif c then v else undef
theorem cvE {x : Operand} {c : Bool} {v : Value} (h : ev F x = some (cv c v)) (hc : c = true) : ev F x = some v := by rw [hc] at h; exact h
theorem GL_gt {d : Nat} {op : Op} {T : TypeId} {pos : String} {aft : Array Edge} {v : Value} {j t : Nat} {y : Bool} (hj : (ops[j]?).bind (·.dst) = some t) (hb : lk t F = some (.bool y)) (hd : Nat.blt d n = true) (h : y = true → PS P n w0 M op T F L v L)
    (k : GL P n w0 M ops Q rest ((d, cv y v) :: F) L) : GL P n w0 M ops Q (⟨some d, op, T, pos, aft, some (j, true)⟩ :: rest) F L := by
  cases y with
  | true => exact GL_guard hj hb hd (h rfl) k
  | false => exact GL_pass hj hb rfl hd k
theorem GL_gf {d : Nat} {op : Op} {T : TypeId} {pos : String} {aft : Array Edge} {v : Value} {j t : Nat} {y : Bool} (hj : (ops[j]?).bind (·.dst) = some t) (hb : lk t F = some (.bool y)) (hd : Nat.blt d n = true) (h : y = false → PS P n w0 M op T F L v L)
    (k : GL P n w0 M ops Q rest ((d, cv (!y) v) :: F) L) : GL P n w0 M ops Q (⟨some d, op, T, pos, aft, some (j, false)⟩ :: rest) F L := by
  cases y with
  | false => exact GL_guard hj hb hd (h rfl) k
  | true => exact GL_pass hj hb rfl hd k
theorem GL_gtc {d : Nat} {op : Op} {T : TypeId} {pos : String} {aft : Array Edge} {v : Value} {j t : Nat} {c y : Bool} (hj : (ops[j]?).bind (·.dst) = some t) (hb : lk t F = some (cv c (.bool y))) (hd : Nat.blt d n = true) (h : c = true → y = true → PS P n w0 M op T F L v L)
    (k : GL P n w0 M ops Q rest ((d, cv (c && y) v) :: F) L) : GL P n w0 M ops Q (⟨some d, op, T, pos, aft, some (j, true)⟩ :: rest) F L := by
  cases c with
  | false => exact GL_pass_undef hj hb hd k
  | true => exact GL_gt hj hb hd (h rfl) (by simpa using k)
theorem GL_gfc {d : Nat} {op : Op} {T : TypeId} {pos : String} {aft : Array Edge} {v : Value} {j t : Nat} {c y : Bool} (hj : (ops[j]?).bind (·.dst) = some t) (hb : lk t F = some (cv c (.bool y))) (hd : Nat.blt d n = true) (h : c = true → y = false → PS P n w0 M op T F L v L)
    (k : GL P n w0 M ops Q rest ((d, cv (c && !y) v) :: F) L) : GL P n w0 M ops Q (⟨some d, op, T, pos, aft, some (j, false)⟩ :: rest) F L := by
  cases c with
  | false => exact GL_pass_undef hj hb hd k
  | true => exact GL_gf hj hb hd (h rfl) (by simpa using k)
theorem PS_and {c x : Operand} {T : TypeId} {y z d : Bool} (hc : ev F c = some (.bool y)) (hx : ev F x = some (cv d (.bool z))) (hd : y = true → d = true) : PS P n w0 M (.pick c x (.const (.bool false))) T F L (.bool (y && z)) L := by
  cases y with
  | true => exact PS_pick_true hc (cvE hx (hd rfl))
  | false => exact PS_pick_false hc rfl
theorem PS_or {c x : Operand} {T : TypeId} {y z d : Bool} (hc : ev F c = some (.bool y)) (hx : ev F x = some (cv d (.bool z))) (hd : y = false → d = true) : PS P n w0 M (.pick c (.const (.bool true)) x) T F L (.bool (y || z)) L := by
  cases y with
  | false => exact PS_pick_false hc (cvE hx (hd rfl))
  | true => exact PS_pick_true hc rfl
/-- A call that only computes, as a step. -/
def PC (P : Program) (n : Nat) (w0 : World) (M : List Nat) (op : Op) (T : TypeId) (F : List (Nat × Value)) (L : List Res) (v : Value) : Prop :=
  ∀ a w, Fr n a F → St w0 M w L → ∃ f args, (execOp a.eval ⟨none, op, T, "", #[], none⟩).run P w = .ok (.enter f args) w ∧ Ret P f args w fun v' w' => v' = v ∧ Keep w w'
theorem PC_of {f : FuncId} {args : List Operand} {ts : Array TypeId} {T : TypeId} {vs : List Value} {v : Value} (hc : CF P f) (ha : Evs F args vs) (h : ∀ w, St w0 M w L → Ret P f vs.toArray w fun v' w' => v' = v ∧ Keep w w') :
    PC P n w0 M (.call ⟨.value (.func f), args.toArray, ts⟩) T F L v := fun _ w hF hS => ⟨f, vs.toArray, run_call hc hF ha w _ _ _ _, h w hS⟩
theorem GL_pgt {d : Nat} {op : Op} {T : TypeId} {pos : String} {aft : Array Edge} {v : Value} {j t : Nat} {y : Bool} (hj : (ops[j]?).bind (·.dst) = some t) (hb : lk t F = some (.bool y)) (hd : Nat.blt d n = true) (h : y = true → PC P n w0 M op T F L v)
    (k : GL P n w0 M ops Q rest ((d, cv y v) :: F) L) : GL P n w0 M ops Q (⟨some d, op, T, pos, aft, some (j, true)⟩ :: rest) F L := by
  cases y with
  | false => exact GL_pass hj hb rfl hd k
  | true =>
    intro a w hF hS
    obtain ⟨f, args, hr, hc⟩ := h rfl a w hF hS
    refine wpList_step fun K hK => ?_
    rw [if_pos (by simp [Region.wanted, yielded_of hF hj hb])]
    unfold Oper.wp
    rw [execOp_bare, hr]
    show Calls _ _ _ _ _
    refine Calls.mono hc fun e w' he => ?_
    obtain ⟨v', rfl, hv, hk⟩ := he
    subst hv
    exact hK _ _ (k _ _ (hF.put (by simpa [Nat.blt_eq] using hd) v') (hS.keep hk))
theorem GL_pgf {d : Nat} {op : Op} {T : TypeId} {pos : String} {aft : Array Edge} {v : Value} {j t : Nat} {y : Bool} (hj : (ops[j]?).bind (·.dst) = some t) (hb : lk t F = some (.bool y)) (hd : Nat.blt d n = true) (h : y = false → PC P n w0 M op T F L v)
    (k : GL P n w0 M ops Q rest ((d, cv (!y) v) :: F) L) : GL P n w0 M ops Q (⟨some d, op, T, pos, aft, some (j, false)⟩ :: rest) F L := by
  cases y with
  | true => exact GL_pass hj hb rfl hd k
  | false =>
    intro a w hF hS
    obtain ⟨f, args, hr, hc⟩ := h rfl a w hF hS
    refine wpList_step fun K hK => ?_
    rw [if_pos (by simp [Region.wanted, yielded_of hF hj hb])]
    unfold Oper.wp
    rw [execOp_bare, hr]
    show Calls _ _ _ _ _
    refine Calls.mono hc fun e w' he => ?_
    obtain ⟨v', rfl, hv, hk⟩ := he
    subst hv
    exact hK _ _ (k _ _ (hF.put (by simpa [Nat.blt_eq] using hd) v') (hS.keep hk))
theorem GL_pgfc {d : Nat} {op : Op} {T : TypeId} {pos : String} {aft : Array Edge} {v : Value} {j t : Nat} {c y : Bool} (hj : (ops[j]?).bind (·.dst) = some t) (hb : lk t F = some (cv c (.bool y))) (hd : Nat.blt d n = true) (h : c = true → y = false → PC P n w0 M op T F L v)
    (k : GL P n w0 M ops Q rest ((d, cv (c && !y) v) :: F) L) : GL P n w0 M ops Q (⟨some d, op, T, pos, aft, some (j, false)⟩ :: rest) F L := by
  cases c with
  | false => exact GL_pass_undef hj hb hd k
  | true => exact GL_pgf hj hb hd (h rfl) (by simpa using k)
end
end Go.Ing
/- Engine, part 6: regions that draw their order: the first 'm' operations each yield one value whatever the order; the others stand in a chain behind them. -/
namespace Go.Ing
open Go

def lkD (k : Nat) : List (Nat × (Nat × Value)) → Option (Nat × Value)
  | [] => none
  | (j, x) :: D => bif Nat.beq k j then some x else lkD k D
theorem lkD_hit (k : Nat) (x : Nat × Value) (D : List (Nat × (Nat × Value))) : lkD k ((k, x) :: D) = some x := by simp [lkD]
theorem lkD_miss {k j : Nat} (h : k ≠ j) (x : Nat × Value) (D : List (Nat × (Nat × Value))) : lkD k ((j, x) :: D) = lkD k D := by
  have : Nat.beq k j = false := Bool.eq_false_iff.2 fun e => h (Nat.eq_of_beq_eq_true e)
  simp [lkD, this]
def depF (D : List (Nat × (Nat × Value))) : List Edge → List (Nat × Value)
  | [] => []
  | e :: es => bif Region.binds .any e then (match lkD e.on D with | some x => x :: depF D es | none => depF D es) else depF D es
theorem depF_congr {D D' : List (Nat × (Nat × Value))} : ∀ (es : List Edge), (∀ e ∈ es, lkD e.on D = lkD e.on D') → depF D es = depF D' es
  | [], _ => rfl
  | e :: es, h => by simp only [depF, h e (by simp), depF_congr es fun x hx => h x (by simp [hx])]
theorem depF_mem {D : List (Nat × (Nat × Value))} {x : Nat × Value} : ∀ (es : List Edge), x ∈ depF D es → ∃ e ∈ es, Region.binds .any e = true ∧ lkD e.on D = some x
  | [], h => by simp [depF] at h
  | e :: es, h => by
    unfold depF at h
    cases hb : Region.binds .any e with
    | false => rw [hb] at h; obtain ⟨y, hy, h1, h2⟩ := depF_mem es h; exact ⟨y, by simp [hy], h1, h2⟩
    | true =>
      rw [hb] at h
      cases hl : lkD e.on D with
      | none => simp only [hl, cond_true] at h; obtain ⟨y, hy, h1, h2⟩ := depF_mem es h; exact ⟨y, by simp [hy], h1, h2⟩
      | some z =>
        simp only [hl, cond_true] at h
        rcases List.mem_cons.1 h with rfl | h
        · exact ⟨e, by simp, hb, hl⟩
        · obtain ⟨y, hy, h1, h2⟩ := depF_mem es h; exact ⟨y, by simp [hy], h1, h2⟩
def factsD : List (Nat × (Nat × Value)) → List (Nat × Value)
  | [] => []
  | (_, x) :: D => x :: factsD D
theorem lk_append {k : Nat} {v : Value} : ∀ (A F : List (Nat × Value)), lk k (A ++ F) = some v → (k, v) ∈ A ∨ lk k F = some v
  | [], _, h => .inr h
  | (j, u) :: A, F, h => by
    simp only [List.cons_append, lk] at h
    by_cases e : k = j
    · subst e; simp at h; subst h; simp
    · rw [show Nat.beq k j = false from Bool.eq_false_iff.2 fun h => e (Nat.eq_of_beq_eq_true h)] at h
      rcases lk_append A F h with h | h
      · exact .inl (by simp [h])
      · exact .inr h

section
variable (P : Program) (n : Nat) (w0 : World) (M : List Nat) (Q : Exit → Act → World → Prop) (ops : Array Oper) (F : List (Nat × Value)) (L : List Res)
def OpOk (o : Oper) (D : List (Nat × (Nat × Value))) (v : Value) : Prop :=
  ∀ a w (K : Act → World → Prop), Fr n a (depF D o.after.toList ++ F) → St w0 M w L → (∀ w', St w0 M w' L → K (a.put o.dst v) w') →
    if Region.wanted o (yielded ops a.tmps) = true then o.wp P a w K Q else K (a.put o.dst undef) w
end

def unlikeB : List Oper → Bool
  | [] => true
  | o :: l => l.all (fun p => match o.dst, p.dst with | some d, some e => !(Nat.beq d e) | _, _ => true) && unlikeB l
def Closed (l : List Oper) (listed : Array Bool) : Prop := ∀ x o, l[x]? = some o → listed.getD x false = true → ∀ e ∈ o.after.toList, Region.binds .any e = true → listed.getD e.on false = true
theorem unlikeB_at : ∀ (l : List Oper) (i j : Nat) (o p : Oper) (d : Nat), unlikeB l = true → l[i]? = some o → l[j]? = some p → o.dst = some d → p.dst = some d → i = j
  | [], _, _, _, _, _, _, h, _, _, _ => by simp at h
  | q :: l, 0, 0, _, _, _, _, _, _, _, _ => rfl
  | q :: l, 0, j + 1, o, p, d, hb, h1, h2, e1, e2 => by
    simp at h1; subst h1
    simp only [unlikeB, Bool.and_eq_true, List.all_eq_true] at hb
    have := hb.1 p (List.mem_of_getElem? (by simpa using h2))
    simp [e1, e2] at this
  | q :: l, i + 1, 0, o, p, d, hb, h1, h2, e1, e2 => by
    simp at h2; subst h2
    simp only [unlikeB, Bool.and_eq_true, List.all_eq_true] at hb
    have := hb.1 o (List.mem_of_getElem? (by simpa using h1))
    simp [e1, e2] at this
  | q :: l, i + 1, j + 1, o, p, d, hb, h1, h2, e1, e2 => by
    simp only [unlikeB, Bool.and_eq_true] at hb
    rw [unlikeB_at l i j o p d hb.2 (by simpa using h1) (by simpa using h2) e1 e2]

section
variable {P : Program} {n : Nat} {w0 : World} {M : List Nat} {Q : Exit → Act → World → Prop} {ops : Array Oper} {F : List (Nat × Value)} {L : List Res}
theorem OpOk.congr {o : Oper} {D D' : List (Nat × (Nat × Value))} {v : Value} (h : OpOk P n w0 M Q ops F L o D v) (he : ∀ e ∈ o.after.toList, lkD e.on D = lkD e.on D') : OpOk P n w0 M Q ops F L o D' v := by
  unfold OpOk at *
  rw [depF_congr _ he] at h
  exact h
theorem ready_iff {l : List Oper} {listed : Array Bool} (hsz : listed.size = l.length) {i : Nat} :
    i ∈ Region.ready .any l.toArray listed ↔ ∃ o, l[i]? = some o ∧ listed[i]? = some false ∧ ∀ e ∈ o.after.toList, Region.binds .any e = true → listed.getD e.on false = true := by
  simp only [Region.ready, List.mem_filter, List.mem_range, List.size_toArray, Bool.and_eq_true, List.getElem?_toArray]
  constructor
  · rintro ⟨h1, h2, h3⟩
    have ho : l[i]? = some l[i] := List.getElem?_eq_getElem h1
    refine ⟨l[i], ho, ?_, ?_⟩
    · have : listed[i]? = some listed[i] := Array.getElem?_eq_getElem (by omega)
      simp [this] at h2
      rw [this, h2]
    · rw [ho] at h3
      simp only [Option.map_some, Option.getD_some] at h3
      intro e he hb
      have := Array.all_eq_true_iff_forall_mem.1 h3 e (by simpa using he)
      simpa [hb] using this
  · rintro ⟨o, ho, h2, h3⟩
    have hi : i < l.length := by
      rcases Nat.lt_or_ge i l.length with h | h
      · exact h
      · rw [List.getElem?_eq_none h] at ho; cases ho
    refine ⟨hi, by simp [h2], ?_⟩
    rw [ho]
    simp only [Option.map_some, Option.getD_some]
    refine Array.all_eq_true_iff_forall_mem.2 fun e he => ?_
    have := h3 e (by simpa using he)
    cases hb : Region.binds .any e with
    | false => simp
    | true => simpa using this hb
theorem count_set {l : List Bool} : ∀ (i : Nat), l[i]? = some false → (l.set i true).count false + 1 = l.count false := by
  induction l with
  | nil => intro i h; simp at h
  | cons b l ih =>
    intro i h
    cases i with
    | zero => simp at h; subst h; simp
    | succ i =>
      have := ih i (by simpa using h)
      simp only [List.set_cons_succ, List.count_cons]
      omega
theorem lkD_mem {j : Nat} {x : Nat × Value} : ∀ (D : List (Nat × (Nat × Value))), lkD j D = some x → (j, x) ∈ D
  | [], h => by simp [lkD] at h
  | (i, y) :: D, h => by
    by_cases e : j = i
    · subst e; rw [lkD_hit] at h; cases h; simp
    · rw [lkD_miss e] at h; exact List.mem_cons_of_mem _ (lkD_mem D h)
/-- The operation runs, and yields 'v'. -/
def EX (P : Program) (n : Nat) (w0 : World) (M : List Nat) (op : Op) (T : TypeId) (F : List (Nat × Value)) (L : List Res) (v : Value) : Prop :=
  ∀ a w (K : Act → World → Prop) (Q : Exit → Act → World → Prop) d pos aft g, Fr n a F → St w0 M w L → (∀ w', St w0 M w' L → K (a.put d v) w') → Oper.wp P ⟨d, op, T, pos, aft, g⟩ a w K Q
theorem EX_s {op : Op} {T : TypeId} {v : Value} (h : PS P n w0 M op T F L v L) : EX P n w0 M op T F L v := by
  intro a w K Q d pos aft g hF hS hK
  obtain ⟨w', hr, hw, _⟩ := h a w hF hS
  have hS' : St w0 M w' L := hw ▸ hS
  unfold Oper.wp
  rw [execOp_bare, hr]
  exact hK _ hS'
theorem EX_c {op : Op} {T : TypeId} {v : Value} (h : PC P n w0 M op T F L v) : EX P n w0 M op T F L v := by
  intro a w K Q d pos aft g hF hS hK
  obtain ⟨f, args, hr, hc⟩ := h a w hF hS
  unfold Oper.wp
  rw [execOp_bare, hr]
  show Calls _ _ _ _ _
  refine Calls.mono hc fun e w' he => ?_
  obtain ⟨v', rfl, hv, hk⟩ := he
  subst hv
  exact hK _ (hS.keep hk)
section
variable {i d : Nat} {op : Op} {T : TypeId} {pos : String} {aft : Array Edge} {v : Value} {rest : List Oper} {D : List (Nat × (Nat × Value))} {k : List (Nat × (Nat × Value)) → Prop} {j t : Nat} {c y : Bool}
theorem wanted_cv {a : Act} (hF : Fr n a F) (hj : (ops[j]?).bind (·.dst) = some t) (hb : lk t F = some (cv c (.bool y))) (b : Bool) : Region.wanted ⟨some d, op, T, pos, aft, some (j, b)⟩ (yielded ops a.tmps) = (match b with | true => c && y | false => c && !y) := by
  cases c with
  | true => simp only [Region.wanted, yielded_of hF hj hb]; cases y <;> cases b <;> rfl
  | false =>
    have hy : yielded ops a.tmps j = none := by
      unfold yielded
      rw [hj]
      simp [hF.get t _ hb]
      rfl
    simp only [Region.wanted, hy]; cases y <;> cases b <;> rfl
end
end
end Go.Ing
