/- The engine: rules by which a walk over a function of the model goes operation by operation; data in cells; from a contract of a law to its row. No condition. -/
import Derived.Test.YtceffkjlnhekcaaGreatDoorHouseNilEa1
import Derived.Laws.IdiomStrings
import Derived.Laws.BytesArg
import Derived.ProofKit
import Derived.OpenShut
import Derived.ShutString
import Derived.ChangeOld
import Derived.Below
import Derived.Carry
import Derived.Lib.Builder
import Derived.Lib.AppendStr
import Derived.Lib.UnsafeStr
import Derived.Laws.Externs
set_option linter.unusedSimpArgs false
set_option linter.unusedVariables false
/- Engine, part 7: slices. -/
namespace Go.Ing
open Go

/-- The slice reads as these cells (of elements of 'sz' cells each). -/
def Rd (w : World) (h : Hd) (T : TypeId) (sz : Nat) (cs : List Value) : Prop :=
  h.len * sz = cs.length ∧ (cs ≠ [] → ∃ b o C fz, h.a = some ⟨b, o, none⟩ ∧ b < w.heap.size ∧ w.heap[b]? = some (.cells (List.toArray C) T fz) ∧ o + cs.length ≤ C.length ∧ (C.drop o).take cs.length = cs)
theorem Rd.keep {w w' : World} {h : Hd} {T sz : Nat} {cs : List Value} (hr : Rd w h T sz cs) (hk : Keep w w') : Rd w' h T sz cs := by
  refine ⟨hr.1, fun hne => ?_⟩
  obtain ⟨b, o, C, fz, h1, h2, h3, h4, h5⟩ := hr.2 hne
  exact ⟨b, o, C, fz, h1, Nat.lt_of_lt_of_le h2 hk.size, by rw [hk.old b h2]; exact h3, h4, h5⟩
theorem St.rd {w0 w : World} {L : List Res} {h : Hd} {T sz : Nat} {cs : List Value} (hS : St w0 [] w L) (hr : Rd w0 h T sz cs) : Rd w h T sz cs := hr.keep hS.toKeep
theorem Rd.nil (w : World) (T sz : Nat) : Rd w ⟨none, 0, 0⟩ T sz [] := ⟨by simp, fun h => absurd rfl h⟩

/-- A slice over a block of the call's own. -/
def Res.own (h : Hd) (T : TypeId) (sz : Nat) (cs : List Value) : Res where
  foot := match h.a with | some a => [a.block] | none => []
  ok w := (h = ⟨none, 0, 0⟩ ∧ cs = []) ∨ ∃ b o C fz, h.a = some ⟨b, o, none⟩ ∧ b < w.heap.size ∧ w.heap[b]? = some (.cells (List.toArray C) T fz) ∧ (∀ i, i < C.length → ¬ (fz.1 ≤ i ∧ i < fz.2)) ∧ o + h.cap * sz ≤ C.length ∧ h.len ≤ h.cap ∧ h.len * sz = cs.length ∧ (C.drop o).take cs.length = cs
  loc w w' hk hw := by
    rcases hw with hw | ⟨b, o, C, fz, h1, h2, h3, h4⟩
    · exact .inl hw
    · have h3' := hk b (by rw [h1]; simp)
      refine .inr ⟨b, o, C, fz, h1, ?_, by rw [h3']; exact h3, h4⟩
      rw [h3] at h3'
      rcases Nat.lt_or_ge b w'.heap.size with h | h
      · exact h
      · rw [Array.getElem?_eq_none h] at h3'; cases h3'
theorem Res.own_rd {w : World} {h : Hd} {T sz : Nat} {cs : List Value} (hw : (Res.own h T sz cs).ok w) : Rd w h T sz cs := by
  rcases hw with ⟨rfl, rfl⟩ | ⟨b, o, C, fz, h1, h2, h3, h4, h5, h6, h7, h8⟩
  · exact Rd.nil w T sz
  · exact ⟨h7, fun _ => ⟨b, o, C, fz, h1, h2, h3, by have := Nat.mul_le_mul_right sz h6; omega, h8⟩⟩
/-- Where element i of a slice begins. -/
def Hd.ptr (h : Hd) (i sz : Nat) (o : Nat) : Value := .pointer (some ⟨(h.a.getD default).block, (h.a.getD default).off + i * sz + o, none⟩)
theorem Hd.ptr_of {h : Hd} {b o : Nat} (e : h.a = some ⟨b, o, none⟩) (i sz p : Nat) : h.ptr i sz p = .pointer (some ⟨b, o + i * sz + p, none⟩) := by simp [Hd.ptr, e]

section
variable {P : Program} {n : Nat} {w0 : World} {M : List Nat} {Q : Exit → Act → World → Prop} {F F' : List (Nat × Value)} {L L' : List Res} {ops : Array Oper} {rest : List Oper}
/-- What is known of a slice wherever 'L' is. -/
def Kn (w0 : World) (M : List Nat) (L : List Res) (h : Hd) (T sz : Nat) (cs : List Value) : Prop := ∀ w, St w0 M w L → Rd w h T sz cs
theorem Kn.own {h : Hd} {T sz : Nat} {cs : List Value} (hm : Res.own h T sz cs ∈ L) : Kn w0 M L h T sz cs := fun _ hS => Res.own_rd (hS.ok _ hm)
theorem Kn.old {h : Hd} {T sz : Nat} {cs : List Value} (hr : Rd w0 h T sz cs) : Kn w0 [] L h T sz cs := fun _ hS => hS.rd hr

theorem PS_idxS {T U E sz : Nat} {h : Hd} {cs : List Value} {k : IntKind} {i : Int} {x y : Operand} (hf : IS P T sz) (hsz : 0 < sz) (hk : Kn w0 M L h E sz cs) (hx : ev F x = some h.val) (hy : ev F y = some (.int k i)) (h0 : 0 ≤ i) (h1 : i < (h.len : Int)) : PS P n w0 M (.indexAddr T x y) U F L (h.ptr i.toNat sz 0) L := by
  intro a w hF hS
  have hr := hk w hS
  have hne : cs ≠ [] := fun e => by
    have h2 := hr.1
    rw [e] at h2
    have h3 : 0 < h.len * sz := Nat.mul_pos (by omega) hsz
    simp only [List.length_nil] at h2
    omega
  obtain ⟨b, o, C, fz, e1, e2, e3, e4, e5⟩ := hr.2 hne
  refine ⟨w, ?_, rfl, rfl⟩
  rw [Hd.ptr_of e1]
  have hv : ev F x = some (.slice (some ⟨b, o, none⟩) h.len h.cap) := by rw [hx, Hd.val, e1]
  simp [execOp, hF.ev hv, hF.ev hy, hf b o h.len h.cap k i w h0 h1]
/-- Element i of a list in cells. -/
theorem elem_cells {α : Type} {e : α → List Value} {sz : Nat} (fe : Flat e sz) (xs : List α) (i : Nat) (hi : i < xs.length) : ((xs.flatMap e).drop (i * sz)).take sz = e xs[i] := by
  rw [flatMap_split xs i hi, List.append_assoc]
  have : ((xs.take i).flatMap e).length = i * sz := by rw [flatMap_len fe.len, List.length_take, Nat.min_eq_left (by omega)]
  rw [← this, List.drop_left, ← fe.len xs[i], List.take_left]
theorem ld_cells {α β : Type} {ea : α → List Value} {eb : β → List Value} {sz p q : Nat} {g : α → β} {s : α → β → α} (fe : Flat ea sz) (hl : Lens ea eb p q g s) {w : World} {h : Hd} {T : Nat} {xs : List α} (hr : Rd w h T sz (xs.flatMap ea)) {i : Nat} (hi : i < xs.length) (hq : 0 < q) :
    ∃ b o C fz, h.a = some ⟨b, o, none⟩ ∧ w.heap[b]? = some (.cells (List.toArray C) T fz) ∧ o + i * sz + p + q ≤ C.length ∧ (C.drop (o + i * sz + p)).take q = eb (g xs[i]) := by
  have hlen : (xs.flatMap ea).length = xs.length * sz := flatMap_len fe.len xs
  have hb := hl.bnd xs[i]
  rw [fe.len] at hb
  have hmul : (i + 1) * sz ≤ xs.length * sz := Nat.mul_le_mul_right sz (by omega)
  rw [Nat.add_mul] at hmul
  have hne : xs.flatMap ea ≠ [] := fun e => by rw [e] at hlen; simp only [List.length_nil] at hlen; omega
  obtain ⟨b, o, C, fz, e1, _, e3, e4, e5⟩ := hr.2 hne
  refine ⟨b, o, C, fz, e1, e3, by omega, ?_⟩
  rw [← hl.get xs[i], ← elem_cells fe xs i hi, ← e5, hlen]
  simp only [List.drop_take, List.drop_drop, List.take_take]
  congr 1
  omega
theorem PS_ldS {α β : Type} {ea : α → List Value} {eb : β → List Value} {sz p q : Nat} {g : α → β} {s : α → β → α} {T U E i : Nat} {h : Hd} {x : Operand} {xs : List α} {v : Value}
    (hx : ev F x = some (h.ptr i sz p)) (hT : TyS P T) (fe : Flat ea sz) (hl : Lens ea eb p q g s) (hk : Kn w0 M L h E sz (xs.flatMap ea)) (hi : i < xs.length) (hv : eb (g xs[i]) = [v]) : PS P n w0 M (.load T x) U F L v L := by
  intro a w hF hS
  have hq : q = 1 := by rw [← hl.len (g xs[i]), hv]; rfl
  obtain ⟨b, o, C, fz, e1, e3, e4, e5⟩ := ld_cells fe hl (hk w hS) hi (by omega)
  rw [Hd.ptr_of e1] at hx
  rw [hq] at e4 e5
  have hc : w.cell? ⟨b, o + i * sz + p, none⟩ = some v := by
    rw [cell_at e3]
    rw [hv, List.drop_eq_getElem_cons (by omega), List.take_succ_cons, List.take_zero] at e5
    rw [List.getElem?_eq_getElem (by omega), List.head_eq_of_cons_eq e5]
  exact ⟨w, by simp [execOp, hF.ev hx, Instr.loadAt, Instr.sureAddr, loadVar, hT w, hc], rfl, rfl⟩
/-- One string of a list. -/
theorem PS_ldStr {T U E i : Nat} {h : Hd} {x : Operand} {xs : List Str} (hx : ev F x = some (h.ptr i 1 0)) (hT : TyS P T) (hk : Kn w0 M L h E 1 (xs.flatMap encS)) (hi : i < xs.length) : PS P n w0 M (.load T x) U F L (vstr (xs.getD i [])) L := by
  have e : xs.getD i [] = xs[i] := by simp [List.getD, hi]
  rw [e]
  exact PS_ldS hx hT flS (Lens.id flS.len flS.one) hk hi rfl
end
end Go.Ing
/- Engine, part 8: slices of the call's own: making, growing, cutting. -/
namespace Go.Ing
open Go

theorem firstCells_rd {P : Program} {w : World} {h : Hd} {T sz : Nat} {cs : List Value} (hr : Rd w h T sz cs) : (Builtin.firstCells sz h.len h.val).run P w = .ok cs.toArray w := by
  obtain ⟨a, l, c⟩ := h
  have h1 := hr.1
  dsimp only at h1
  by_cases hne : cs = []
  · subst hne
    simp only [List.length_nil] at h1
    cases a with
    | none => rfl
    | some a => simp only [Hd.val, Builtin.firstCells, h1]; simp [loadCells, loadCellsFrom]
  · obtain ⟨b, o, C, fz, e1, e2, e3, e4, e5⟩ := hr.2 hne
    dsimp only at e1
    subst e1
    simp only [Hd.val, Builtin.firstCells, h1]
    rw [loadCells_at e3 e4, e5]
/-- What may be appended: so many elements, in these cells. -/
structure Src (P : Program) (w : World) (U sz : Nat) (x : Value) (n : Nat) (ys : List Value) : Prop where
  ty : (∃ e, P.underlying U = some (.slice e)) ∨ P.underlying U = some .string
  lenOf : ∀ w', (Builtin.lenOf x).run P w' = .ok n w'
  cells : ∀ w', Keep w w' → (Builtin.firstCells sz n x).run P w' = .ok ys.toArray w'
  len : n * sz = ys.length
theorem Src.slice {P : Program} {w : World} {U E sz : Nat} {g : Hd} {ys : List Value} (hu : P.underlying U = some (.slice E)) (hg : Rd w g E sz ys) : Src P w U sz g.val g.len ys :=
  ⟨.inl ⟨_, hu⟩, fun _ => rfl, fun _ hk => firstCells_rd (hg.keep hk), hg.1⟩
end Go.Ing
/- Engine, part 9: slices in walks. -/
namespace Go.Ing
open Go

theorem fold_splice : ∀ (vs : List Value) (k off : Nat) (cs : List Value), off + k + vs.length ≤ cs.length →
    (vs.zipIdx k).foldl (fun (cs : Array Value) (x : Value × Nat) => cs.setIfInBounds (off + x.2) x.1) cs.toArray = (splice cs (off + k) vs).toArray
  | [], k, off, cs, _ => by simp [splice_nil]
  | v :: vs, k, off, cs, h => by
    simp only [List.length_cons] at h
    rw [List.zipIdx_cons, List.foldl_cons]
    have e : (cs.toArray).setIfInBounds (off + k) v = (cs.set (off + k) v).toArray := by simp
    rw [e, fold_splice vs (k + 1) off _ (by simp; omega), splice_cons (by omega)]
    rfl
theorem fill_cons {place : Nat → Option (Nat × Nat)} {cs : List Value} {i off sz : Nat} {v : Value} {vs : List Value} {rest : List (Nat × Value)} (hp : place i = some (off, sz)) (hv : v.cells = vs.toArray) (hl : vs.length = sz) (hb : off + sz ≤ cs.length) :
    Instr.fill place cs.toArray ((i, v) :: rest) = Instr.fill place (splice cs off vs).toArray rest := by
  have h1 : v.cells.size = sz := by rw [hv]; simpa using hl
  simp only [Instr.fill, hp]
  rw [if_neg (by simp [h1]; omega)]
  congr 1
  rw [hv, ← Array.foldl_toList]
  have := fold_splice vs 0 off cs (by omega)
  simpa using this

section
variable {P : Program} {n : Nat} {w0 : World} {M : List Nat} {Q : Exit → Act → World → Prop} {F F' : List (Nat × Value)} {L L' : List Res} {ops : Array Oper} {rest : List Oper}

/-- The parts of a literal, laid one behind the other over what is there. -/
inductive Bd (F : List (Nat × Value)) (place : Nat → Option (Nat × Nat)) : List (Nat × Operand) → List Value → List Value → Prop where
  | nil {cs : List Value} : Bd F place [] cs cs
  | cons {α β : Type} {ea : α → List Value} {eb : β → List Value} {o sz : Nat} {g : α → β} {s : α → β → α} {i : Nat} {x : Operand} {X : α} {Y : β} {v : Value} {rest : List (Nat × Operand)} {cs' : List Value}
      (hl : Lens ea eb o sz g s) (hx : ev F x = some v) (hv : v.cells = (eb Y).toArray) (hp : place i = some (o, sz)) (h : Bd F place rest (ea (s X Y)) cs') : Bd F place ((i, x) :: rest) (ea X) cs'
theorem Bd.fill {place : Nat → Option (Nat × Nat)} {ps : List (Nat × Operand)} {cs cs' : List Value} (h : Bd F place ps cs cs') {a : Act} (hF : Fr n a F) : Instr.fill place cs.toArray (ps.map fun (i, x) => (i, a.eval x)) = some cs'.toArray := by
  induction h with
  | nil => rfl
  | cons hl hx hv hp _ ih =>
    rename_i X Y v rest cs' _
    rw [List.map_cons]
    show Instr.fill _ _ ((_, a.eval _) :: _) = _
    rw [hF.ev hx, fill_cons hp hv (hl.len Y) (hl.bnd X), hl.set]
    exact ih
/-- Where the fields of a struct lie. -/
def Places (P : Program) (T : Nat) (ps : List (Nat × Nat)) : Prop := ∃ fs, P.underlying T = some (.struct fs) ∧ ∀ w, (fs.mapM fun f => do pure (f.offset, ← sizeOf f.type) : Sem (Array (Nat × Nat))).run P w = .ok ps.toArray w
theorem PS_build {T U : Nat} {ps : List (Nat × Nat)} {parts : List (Nat × Operand)} {z : Value} {cs cs' : List Value} (hp : Places P T ps) (hz : ZV P T z) (hzc : z.cells = cs.toArray) (h : Bd F (fun i => ps[i]?) parts cs cs') : PS P n w0 M (.build T parts.toArray) U F L (.agg cs'.toArray) L := PS_of fun a w hF => by
  obtain ⟨fs, hu, hf⟩ := hp
  have := h.fill (n := n) hF
  have hw := hf w
  simp only [execOp, Instr.build, underlying]
  simp only [Sem.run_bind, hz w, Result.andThen_ok, run_program, hu, Sem.run_pure]
  rw [hw]
  simp only [Result.andThen_ok, hzc]
  have e : (Array.map (fun x => match x with | (i, x) => (i, a.eval x)) parts.toArray).toList = parts.map fun (i, x) => (i, a.eval x) := by simp
  rw [e]
  have e2 : (fun x : Nat => ps.toArray[x]?) = fun i : Nat => ps[i]? := by funext i; simp
  rw [e2, this]
  rfl
end
end Go.Ing
namespace Go.Ing
open Go
section
variable {P : Program} {n : Nat} {w0 : World} {M : List Nat} {Q : Exit → Act → World → Prop} {F F' : List (Nat × Value)} {L L' : List Res} {ops : Array Oper} {rest : List Oper}
end
end Go.Ing
/- Engine, part R: from a contract of a law to the row. -/
namespace Go.Ing
open Go Go.RowKit Go.ChangeShapes Go.WideShapes Go.ChangeAt

theorem trodAll_below {H : Type} {enc : TypeId × Value → H} {P : Program} {W W' : World} (hl : laidOutB P = true) (hb : RowKit.Below W.heap.size W W') :
    ∀ (ts : List TypeId) (vs : List Value) (ds : List (DataW H)) (p : List MemPlace), (∀ t ∈ ts, P.readableRec t = true ∧ t < P.types.size) → DataW.TrodAll enc P W 0 (fun _ => true) true ts vs ds p → DataW.TrodAll enc P W' 0 (fun b => decide (b < W.heap.size)) true ts vs ds p
  | [], [], [], p, _, h => h
  | t :: ts, v :: vs, d :: ds, p, hr, h => by
    obtain ⟨a, q, h1, h2, rfl⟩ := h
    have lt : ∀ x ∈ a, x.block < W.heap.size := by obtain ⟨m, hm⟩ := h1; exact DataW.trod_lt m _ _ _ hm
    exact ⟨a, q, Below.trod hl (hr t (by simp)).1 (hr t (by simp)).2 h1 hb lt, trodAll_below hl hb ts vs ds q (fun t ht => hr t (by simp [ht])) h2, rfl⟩
  | [], [], _ :: _, _, _, h => by simp [DataW.TrodAll] at h
  | [], _ :: _, _, _, _, h => by simp [DataW.TrodAll] at h
  | _ :: _, [], _, _, _, h => by simp [DataW.TrodAll] at h
  | _ :: _, _ :: _, [], _, _, h => by simp [DataW.TrodAll] at h

/-- What a law's contract gives for its row: the row names no variable. -/
theorem law_post {H : Type} {enc : TypeId × Value → H} {P : Program} {fn : Func} {s : ChangeSpec} {B : TypeId} {f : FuncId} (hl : laidOutB P = true) (hres : fn.resultTypes = #[B]) (hB : P.underlying B = some .bool) (hread : (fn.params.toList.all fun t => P.readableRec t && Nat.blt t P.types.size) = true)
    (hvars : s.vars = []) (hs : ∀ (ds : List (DataW H)), ds.length = fn.params.toList.length → (s.fn H (ds ++ [])) = { results := [.lit (.bool true)], args := ds })
    {W : World} {args : Array Value} {ds gs : List (DataW H)} {before : List MemPlace} (hW : DataW.Whole enc P fn.params.toList s.vars false W args.toList ds gs before)
    (hc : Ret P f args W fun v W' => v = .bool true ∧ Keep W W') : Calls P f args W fun e W' => ∃ v, e = .returned v ∧ s.post enc P fn false true false false W args v W' := by
  refine Calls.mono hc fun e W' ⟨v, he, hv, hk⟩ => ⟨v, he, ?_⟩
  subst hv
  have hW' := hW
  obtain ⟨p, q, hA, hV, rfl, hfz, hnd⟩ := hW
  rw [hvars] at hV
  obtain ⟨rfl, rfl⟩ := trodVars_none hV
  have hlen : ds.length = fn.params.toList.length := by
    have : ∀ (ts : List TypeId) (vs : List Value) (ds : List (DataW H)) (p : List MemPlace), DataW.TrodAll enc P W 0 (fun _ => true) true ts vs ds p → ds.length = ts.length := by
      intro ts
      induction ts with
      | nil => intro vs ds p h; cases vs <;> cases ds <;> simp_all [DataW.TrodAll]
      | cons t ts ih => intro vs ds p h; cases vs <;> cases ds <;> simp_all [DataW.TrodAll]; obtain ⟨_, _, _, h2, _⟩ := h; exact ih _ _ _ h2
    exact this _ _ _ _ hA
  have e := hs ds hlen
  refine ⟨ds, [], p ++ [], [], p, [], hW', ?_, ?_, ?_, hk.below.frame _, fun h => by cases h⟩
  · rw [e, hres]
    exact trodAll_mk1 (shut_bool hB true)
  · rw [e]
    refine trodAll_below hl hk.below _ _ _ _ (fun t ht => ?_) hA
    have := List.all_eq_true.1 hread t ht
    rw [Bool.and_eq_true] at this
    exact ⟨this.1, by simpa [Nat.blt_eq] using this.2⟩
  · rw [e, hvars]
    rfl

/-! ### data out of cells -/
section
variable {H : Type} {enc : TypeId × Value → H} {P : Program} {w : World}
/-- Whatever is read at this type is what 'e' lays. -/
def Dc (H : Type) (enc : TypeId × Value → H) (P : Program) (w : World) {α : Type} (e : α → List Value) (wf : α → Prop) (t : TypeId) : Prop :=
  ∀ fuel cs d ps, DataW.trod enc P w 0 (fun _ => true) true fuel t cs = some (d, ps) → ∃ x : α, cs = e x ∧ wf x
def wfI (n : Int) : Prop := -9223372036854775808 ≤ n ∧ n ≤ 9223372036854775807
def wfS (s : Str) : Prop := s.length ≤ 9223372036854775807
def wfB (_ : Bool) : Prop := True
theorem Dc_int {t : TypeId} (hu : P.underlying t = some (.int .i64)) : Dc H enc P w encI wfI t := by
  intro fuel cs d ps h
  obtain ⟨n, e, _, hw⟩ := DataW.trod_int hu h
  exact ⟨n, e, bounds_i64 hw⟩
theorem Dc_string {t : TypeId} (hu : P.underlying t = some .string) : Dc H enc P w encS wfS t := by
  intro fuel cs d ps h
  obtain ⟨s, e, _, hl⟩ := DataW.trod_string hu h
  exact ⟨s.data.toList, e, hl⟩
def wfA {α : Type} {n : Nat} [Inhabited α] (wf : α → Prop) (v : Vector α n) : Prop := ∀ i : Int, 0 ≤ i → i < (n : Int) → wf (v.at i)
theorem Dc.part {α : Type} {e : α → List Value} {wf : α → Prop} {fs : Array Field} {n i T o sz : Nat} {cs : List Value} {xs : List (DataW H × List MemPlace)} (hlen : xs.length = fs.size) (hf : ∀ (i : Nat) (f : Field), fs[i]? = some f → DataW.trod enc P w 0 (fun _ => true) true n f.type ((cs.drop f.offset).take (P.cellsOf f.type)) = xs[i]?)
    (hfi : (fs[i]?).map (fun f => (f.type, f.offset)) = some (T, o)) (hz : P.cellsOf T = sz) (hd : Dc H enc P w e wf T) : ∃ x, (cs.drop o).take sz = e x ∧ wf x := by
  cases h : fs[i]? with
  | none => rw [h] at hfi; cases hfi
  | some f =>
    rw [h] at hfi; simp at hfi
    obtain ⟨rfl, rfl⟩ := hfi
    have h1 := hf i f h
    have hi : i < fs.size := by
      rcases Nat.lt_or_ge i fs.size with h' | h'
      · exact h'
      · rw [Array.getElem?_eq_none h'] at h; cases h
    have h2 : xs[i]? = some xs[i] := List.getElem?_eq_getElem (by omega)
    rw [h2, hz] at h1
    exact hd _ _ _ _ h1
theorem seg {cs : List Value} (o a b : Nat) : (cs.drop o).take a ++ (cs.drop (o + a)).take b = (cs.drop o).take (a + b) := by
  rw [List.take_add, List.drop_drop]
/-- An argument that is a struct or an array. -/
theorem open_ag {α : Type} {e : α → List Value} {wf : α → Prop} {base t : Nat} {v : Value} {d : DataW H} {p : List MemPlace} (hu : (match P.underlying t with | some (.struct _) | some (.array _ _) => true | _ => false) = true) (hval : Value.okWide P w .any base t v) (hd : Dc H enc P w e wf t)
    (h : DataW.Trod enc P w 0 (fun _ => true) true t v d p) : ∃ x, v = .agg (e x).toArray ∧ wf x := by
  obtain ⟨fuel, hf⟩ := h
  obtain ⟨x, hx, hw⟩ := hd _ _ _ _ hf
  have : ∃ cs, v = .agg cs := by
    unfold Value.okWide at hval
    split at hval
    · obtain ⟨cs, e, _⟩ := hval; exact ⟨cs, e⟩
    · obtain ⟨cs, e, _⟩ := hval; exact ⟨cs, e⟩
    · rename_i h1 h2
      split at hu
      · rename_i fs h; exact absurd h (h1 fs)
      · rename_i n e h; exact absurd h (h2 n e)
      · cases hu
  obtain ⟨cs, rfl⟩ := this
  refine ⟨x, ?_, hw⟩
  have hx' : cs.toList = e x := hx
  rw [← hx']
end
end Go.Ing
/- The program's data, out of what came in. -/
namespace Go.Ing
open Go Go.RowKit Go.ChangeShapes Go.WideShapes Go.ChangeAt
def Telnet.wf (x : Telnet) : Prop := (wfI) x.at_ ∧ (wfI) x.verb ∧ (wfS) x.sub ∧ (wfA wfI) x.us ∧ (wfA wfI) x.them ∧ (wfI) x.height
theorem Telnet.dc {H : Type} {enc : TypeId × Value → H} {P : Program} {w : World} {t : TypeId} {fs : Array Field} {T0 T1 T2 T3 T4 T5 : Nat} (hu : P.underlying t = some (.struct fs)) (hc : P.cellsOf t = 10)
    (f0 : (fs[0]?).map (fun f => (f.type, f.offset)) = some (T0, 0)) (z0 : P.cellsOf T0 = 1) (d0 : Dc H enc P w (α := Int) (encI) (wfI) T0)
    (f1 : (fs[1]?).map (fun f => (f.type, f.offset)) = some (T1, 1)) (z1 : P.cellsOf T1 = 1) (d1 : Dc H enc P w (α := Int) (encI) (wfI) T1)
    (f2 : (fs[2]?).map (fun f => (f.type, f.offset)) = some (T2, 2)) (z2 : P.cellsOf T2 = 1) (d2 : Dc H enc P w (α := Str) (encS) (wfS) T2)
    (f3 : (fs[3]?).map (fun f => (f.type, f.offset)) = some (T3, 3)) (z3 : P.cellsOf T3 = 3) (d3 : Dc H enc P w (α := Arr Int 3) (encA encI) (wfA wfI) T3)
    (f4 : (fs[4]?).map (fun f => (f.type, f.offset)) = some (T4, 6)) (z4 : P.cellsOf T4 = 3) (d4 : Dc H enc P w (α := Arr Int 3) (encA encI) (wfA wfI) T4)
    (f5 : (fs[5]?).map (fun f => (f.type, f.offset)) = some (T5, 9)) (z5 : P.cellsOf T5 = 1) (d5 : Dc H enc P w (α := Int) (encI) (wfI) T5) :
    Dc H enc P w Telnet.enc (Telnet.wf) t := by
  intro fuel cs d ps h
  obtain ⟨xs, n, _, _, hl, hlen, hf⟩ := DataW.trod_struct hu h
  obtain ⟨x0, e0, w0⟩ := Dc.part hlen hf f0 z0 d0
  obtain ⟨x1, e1, w1⟩ := Dc.part hlen hf f1 z1 d1
  obtain ⟨x2, e2, w2⟩ := Dc.part hlen hf f2 z2 d2
  obtain ⟨x3, e3, w3⟩ := Dc.part hlen hf f3 z3 d3
  obtain ⟨x4, e4, w4⟩ := Dc.part hlen hf f4 z4 d4
  obtain ⟨x5, e5, w5⟩ := Dc.part hlen hf f5 z5 d5
  refine ⟨⟨x0, x1, x2, x3, x4, x5⟩, ?_, w0, w1, w2, w3, w4, w5⟩
  have hs : cs = (cs.drop 0).take 10 := by rw [List.drop_zero, ← hc, ← hl, List.take_length]
  rw [hs, show (cs.drop 0).take 10 = (cs.drop 0).take 9 ++ (cs.drop 9).take 1 from (by rw [show (9 : Nat) = 0 + 9 from rfl, seg 0 9 1]), show (cs.drop 0).take 9 = (cs.drop 0).take 6 ++ (cs.drop 6).take 3 from (by rw [show (6 : Nat) = 0 + 6 from rfl, seg 0 6 3]), show (cs.drop 0).take 6 = (cs.drop 0).take 3 ++ (cs.drop 3).take 3 from (by rw [show (3 : Nat) = 0 + 3 from rfl, seg 0 3 3]), show (cs.drop 0).take 3 = (cs.drop 0).take 2 ++ (cs.drop 2).take 1 from (by rw [show (2 : Nat) = 0 + 2 from rfl, seg 0 2 1]), show (cs.drop 0).take 2 = (cs.drop 0).take 1 ++ (cs.drop 1).take 1 from (by rw [show (1 : Nat) = 0 + 1 from rfl, seg 0 1 1]), e0, e1, e2, e3, e4, e5]
  rfl
def LineV.wf (wfQ : Hd → Prop) (x : LineV) : Prop := (wfS) x.now ∧ (wfB) x.long ∧ (wfB) x.ret ∧ wfQ x.queue
theorem LineV.dc {H : Type} {enc : TypeId × Value → H} {P : Program} {w : World} {wfQ : Hd → Prop} {t : TypeId} {fs : Array Field} {T0 T1 T2 T3 : Nat} (hu : P.underlying t = some (.struct fs)) (hc : P.cellsOf t = 4)
    (f0 : (fs[0]?).map (fun f => (f.type, f.offset)) = some (T0, 0)) (z0 : P.cellsOf T0 = 1) (d0 : Dc H enc P w (α := Str) (encS) (wfS) T0)
    (f1 : (fs[1]?).map (fun f => (f.type, f.offset)) = some (T1, 1)) (z1 : P.cellsOf T1 = 1) (d1 : Dc H enc P w (α := Bool) (encB) (wfB) T1)
    (f2 : (fs[2]?).map (fun f => (f.type, f.offset)) = some (T2, 2)) (z2 : P.cellsOf T2 = 1) (d2 : Dc H enc P w (α := Bool) (encB) (wfB) T2)
    (f3 : (fs[3]?).map (fun f => (f.type, f.offset)) = some (T3, 3)) (z3 : P.cellsOf T3 = 1) (d3 : Dc H enc P w (α := Hd) (encH) (wfQ) T3) :
    Dc H enc P w LineV.enc (LineV.wf wfQ) t := by
  intro fuel cs d ps h
  obtain ⟨xs, n, _, _, hl, hlen, hf⟩ := DataW.trod_struct hu h
  obtain ⟨x0, e0, w0⟩ := Dc.part hlen hf f0 z0 d0
  obtain ⟨x1, e1, w1⟩ := Dc.part hlen hf f1 z1 d1
  obtain ⟨x2, e2, w2⟩ := Dc.part hlen hf f2 z2 d2
  obtain ⟨x3, e3, w3⟩ := Dc.part hlen hf f3 z3 d3
  refine ⟨⟨x0, x1, x2, x3⟩, ?_, w0, w1, w2, w3⟩
  have hs : cs = (cs.drop 0).take 4 := by rw [List.drop_zero, ← hc, ← hl, List.take_length]
  rw [hs, show (cs.drop 0).take 4 = (cs.drop 0).take 3 ++ (cs.drop 3).take 1 from (by rw [show (3 : Nat) = 0 + 3 from rfl, seg 0 3 1]), show (cs.drop 0).take 3 = (cs.drop 0).take 2 ++ (cs.drop 2).take 1 from (by rw [show (2 : Nat) = 0 + 2 from rfl, seg 0 2 1]), show (cs.drop 0).take 2 = (cs.drop 0).take 1 ++ (cs.drop 1).take 1 from (by rw [show (1 : Nat) = 0 + 1 from rfl, seg 0 1 1]), e0, e1, e2, e3]
  rfl
def PageV.wf (wfQ : Hd → Prop) (x : PageV) : Prop := wfQ x.wait ∧ (wfI) x.shown ∧ (wfB) x.asking ∧ (wfS) x.ring ∧ (wfB) x.cut
theorem PageV.dc {H : Type} {enc : TypeId × Value → H} {P : Program} {w : World} {wfQ : Hd → Prop} {t : TypeId} {fs : Array Field} {T0 T1 T2 T3 T4 : Nat} (hu : P.underlying t = some (.struct fs)) (hc : P.cellsOf t = 5)
    (f0 : (fs[0]?).map (fun f => (f.type, f.offset)) = some (T0, 0)) (z0 : P.cellsOf T0 = 1) (d0 : Dc H enc P w (α := Hd) (encH) (wfQ) T0)
    (f1 : (fs[1]?).map (fun f => (f.type, f.offset)) = some (T1, 1)) (z1 : P.cellsOf T1 = 1) (d1 : Dc H enc P w (α := Int) (encI) (wfI) T1)
    (f2 : (fs[2]?).map (fun f => (f.type, f.offset)) = some (T2, 2)) (z2 : P.cellsOf T2 = 1) (d2 : Dc H enc P w (α := Bool) (encB) (wfB) T2)
    (f3 : (fs[3]?).map (fun f => (f.type, f.offset)) = some (T3, 3)) (z3 : P.cellsOf T3 = 1) (d3 : Dc H enc P w (α := Str) (encS) (wfS) T3)
    (f4 : (fs[4]?).map (fun f => (f.type, f.offset)) = some (T4, 4)) (z4 : P.cellsOf T4 = 1) (d4 : Dc H enc P w (α := Bool) (encB) (wfB) T4) :
    Dc H enc P w PageV.enc (PageV.wf wfQ) t := by
  intro fuel cs d ps h
  obtain ⟨xs, n, _, _, hl, hlen, hf⟩ := DataW.trod_struct hu h
  obtain ⟨x0, e0, w0⟩ := Dc.part hlen hf f0 z0 d0
  obtain ⟨x1, e1, w1⟩ := Dc.part hlen hf f1 z1 d1
  obtain ⟨x2, e2, w2⟩ := Dc.part hlen hf f2 z2 d2
  obtain ⟨x3, e3, w3⟩ := Dc.part hlen hf f3 z3 d3
  obtain ⟨x4, e4, w4⟩ := Dc.part hlen hf f4 z4 d4
  refine ⟨⟨x0, x1, x2, x3, x4⟩, ?_, w0, w1, w2, w3, w4⟩
  have hs : cs = (cs.drop 0).take 5 := by rw [List.drop_zero, ← hc, ← hl, List.take_length]
  rw [hs, show (cs.drop 0).take 5 = (cs.drop 0).take 4 ++ (cs.drop 4).take 1 from (by rw [show (4 : Nat) = 0 + 4 from rfl, seg 0 4 1]), show (cs.drop 0).take 4 = (cs.drop 0).take 3 ++ (cs.drop 3).take 1 from (by rw [show (3 : Nat) = 0 + 3 from rfl, seg 0 3 1]), show (cs.drop 0).take 3 = (cs.drop 0).take 2 ++ (cs.drop 2).take 1 from (by rw [show (2 : Nat) = 0 + 2 from rfl, seg 0 2 1]), show (cs.drop 0).take 2 = (cs.drop 0).take 1 ++ (cs.drop 1).take 1 from (by rw [show (1 : Nat) = 0 + 1 from rfl, seg 0 1 1]), e0, e1, e2, e3, e4]
  rfl
def Room.wf (x : Room) : Prop := (wfS) x.name ∧ (wfB) x.dark ∧ (wfA wfI) x.exits ∧ (wfA wfB) x.shut
theorem Room.dc {H : Type} {enc : TypeId × Value → H} {P : Program} {w : World} {t : TypeId} {fs : Array Field} {T0 T1 T2 T3 : Nat} (hu : P.underlying t = some (.struct fs)) (hc : P.cellsOf t = 14)
    (f0 : (fs[0]?).map (fun f => (f.type, f.offset)) = some (T0, 0)) (z0 : P.cellsOf T0 = 1) (d0 : Dc H enc P w (α := Str) (encS) (wfS) T0)
    (f1 : (fs[1]?).map (fun f => (f.type, f.offset)) = some (T1, 1)) (z1 : P.cellsOf T1 = 1) (d1 : Dc H enc P w (α := Bool) (encB) (wfB) T1)
    (f2 : (fs[2]?).map (fun f => (f.type, f.offset)) = some (T2, 2)) (z2 : P.cellsOf T2 = 6) (d2 : Dc H enc P w (α := Arr Int 6) (encA encI) (wfA wfI) T2)
    (f3 : (fs[3]?).map (fun f => (f.type, f.offset)) = some (T3, 8)) (z3 : P.cellsOf T3 = 6) (d3 : Dc H enc P w (α := Arr Bool 6) (encA encB) (wfA wfB) T3) :
    Dc H enc P w Room.enc (Room.wf) t := by
  intro fuel cs d ps h
  obtain ⟨xs, n, _, _, hl, hlen, hf⟩ := DataW.trod_struct hu h
  obtain ⟨x0, e0, w0⟩ := Dc.part hlen hf f0 z0 d0
  obtain ⟨x1, e1, w1⟩ := Dc.part hlen hf f1 z1 d1
  obtain ⟨x2, e2, w2⟩ := Dc.part hlen hf f2 z2 d2
  obtain ⟨x3, e3, w3⟩ := Dc.part hlen hf f3 z3 d3
  refine ⟨⟨x0, x1, x2, x3⟩, ?_, w0, w1, w2, w3⟩
  have hs : cs = (cs.drop 0).take 14 := by rw [List.drop_zero, ← hc, ← hl, List.take_length]
  rw [hs, show (cs.drop 0).take 14 = (cs.drop 0).take 8 ++ (cs.drop 8).take 6 from (by rw [show (8 : Nat) = 0 + 8 from rfl, seg 0 8 6]), show (cs.drop 0).take 8 = (cs.drop 0).take 2 ++ (cs.drop 2).take 6 from (by rw [show (2 : Nat) = 0 + 2 from rfl, seg 0 2 6]), show (cs.drop 0).take 2 = (cs.drop 0).take 1 ++ (cs.drop 1).take 1 from (by rw [show (1 : Nat) = 0 + 1 from rfl, seg 0 1 1]), e0, e1, e2, e3]
  rfl
def Thing.wf (x : Thing) : Prop := (wfS) x.name ∧ (wfI) x.kind ∧ (wfI) x.whr ∧ (wfI) x.at_ ∧ (wfB) x.on
theorem Thing.dc {H : Type} {enc : TypeId × Value → H} {P : Program} {w : World} {t : TypeId} {fs : Array Field} {T0 T1 T2 T3 T4 : Nat} (hu : P.underlying t = some (.struct fs)) (hc : P.cellsOf t = 5)
    (f0 : (fs[0]?).map (fun f => (f.type, f.offset)) = some (T0, 0)) (z0 : P.cellsOf T0 = 1) (d0 : Dc H enc P w (α := Str) (encS) (wfS) T0)
    (f1 : (fs[1]?).map (fun f => (f.type, f.offset)) = some (T1, 1)) (z1 : P.cellsOf T1 = 1) (d1 : Dc H enc P w (α := Int) (encI) (wfI) T1)
    (f2 : (fs[2]?).map (fun f => (f.type, f.offset)) = some (T2, 2)) (z2 : P.cellsOf T2 = 1) (d2 : Dc H enc P w (α := Int) (encI) (wfI) T2)
    (f3 : (fs[3]?).map (fun f => (f.type, f.offset)) = some (T3, 3)) (z3 : P.cellsOf T3 = 1) (d3 : Dc H enc P w (α := Int) (encI) (wfI) T3)
    (f4 : (fs[4]?).map (fun f => (f.type, f.offset)) = some (T4, 4)) (z4 : P.cellsOf T4 = 1) (d4 : Dc H enc P w (α := Bool) (encB) (wfB) T4) :
    Dc H enc P w Thing.enc (Thing.wf) t := by
  intro fuel cs d ps h
  obtain ⟨xs, n, _, _, hl, hlen, hf⟩ := DataW.trod_struct hu h
  obtain ⟨x0, e0, w0⟩ := Dc.part hlen hf f0 z0 d0
  obtain ⟨x1, e1, w1⟩ := Dc.part hlen hf f1 z1 d1
  obtain ⟨x2, e2, w2⟩ := Dc.part hlen hf f2 z2 d2
  obtain ⟨x3, e3, w3⟩ := Dc.part hlen hf f3 z3 d3
  obtain ⟨x4, e4, w4⟩ := Dc.part hlen hf f4 z4 d4
  refine ⟨⟨x0, x1, x2, x3, x4⟩, ?_, w0, w1, w2, w3, w4⟩
  have hs : cs = (cs.drop 0).take 5 := by rw [List.drop_zero, ← hc, ← hl, List.take_length]
  rw [hs, show (cs.drop 0).take 5 = (cs.drop 0).take 4 ++ (cs.drop 4).take 1 from (by rw [show (4 : Nat) = 0 + 4 from rfl, seg 0 4 1]), show (cs.drop 0).take 4 = (cs.drop 0).take 3 ++ (cs.drop 3).take 1 from (by rw [show (3 : Nat) = 0 + 3 from rfl, seg 0 3 1]), show (cs.drop 0).take 3 = (cs.drop 0).take 2 ++ (cs.drop 2).take 1 from (by rw [show (2 : Nat) = 0 + 2 from rfl, seg 0 2 1]), show (cs.drop 0).take 2 = (cs.drop 0).take 1 ++ (cs.drop 1).take 1 from (by rw [show (1 : Nat) = 0 + 1 from rfl, seg 0 1 1]), e0, e1, e2, e3, e4]
  rfl
def Being.wf (x : Being) : Prop := (wfS) x.name ∧ (wfB) x.here ∧ (wfB) x.keen ∧ (wfI) x.room ∧ (wfI) x.health ∧ (wfI) x.foe
theorem Being.dc {H : Type} {enc : TypeId × Value → H} {P : Program} {w : World} {t : TypeId} {fs : Array Field} {T0 T1 T2 T3 T4 T5 : Nat} (hu : P.underlying t = some (.struct fs)) (hc : P.cellsOf t = 6)
    (f0 : (fs[0]?).map (fun f => (f.type, f.offset)) = some (T0, 0)) (z0 : P.cellsOf T0 = 1) (d0 : Dc H enc P w (α := Str) (encS) (wfS) T0)
    (f1 : (fs[1]?).map (fun f => (f.type, f.offset)) = some (T1, 1)) (z1 : P.cellsOf T1 = 1) (d1 : Dc H enc P w (α := Bool) (encB) (wfB) T1)
    (f2 : (fs[2]?).map (fun f => (f.type, f.offset)) = some (T2, 2)) (z2 : P.cellsOf T2 = 1) (d2 : Dc H enc P w (α := Bool) (encB) (wfB) T2)
    (f3 : (fs[3]?).map (fun f => (f.type, f.offset)) = some (T3, 3)) (z3 : P.cellsOf T3 = 1) (d3 : Dc H enc P w (α := Int) (encI) (wfI) T3)
    (f4 : (fs[4]?).map (fun f => (f.type, f.offset)) = some (T4, 4)) (z4 : P.cellsOf T4 = 1) (d4 : Dc H enc P w (α := Int) (encI) (wfI) T4)
    (f5 : (fs[5]?).map (fun f => (f.type, f.offset)) = some (T5, 5)) (z5 : P.cellsOf T5 = 1) (d5 : Dc H enc P w (α := Int) (encI) (wfI) T5) :
    Dc H enc P w Being.enc (Being.wf) t := by
  intro fuel cs d ps h
  obtain ⟨xs, n, _, _, hl, hlen, hf⟩ := DataW.trod_struct hu h
  obtain ⟨x0, e0, w0⟩ := Dc.part hlen hf f0 z0 d0
  obtain ⟨x1, e1, w1⟩ := Dc.part hlen hf f1 z1 d1
  obtain ⟨x2, e2, w2⟩ := Dc.part hlen hf f2 z2 d2
  obtain ⟨x3, e3, w3⟩ := Dc.part hlen hf f3 z3 d3
  obtain ⟨x4, e4, w4⟩ := Dc.part hlen hf f4 z4 d4
  obtain ⟨x5, e5, w5⟩ := Dc.part hlen hf f5 z5 d5
  refine ⟨⟨x0, x1, x2, x3, x4, x5⟩, ?_, w0, w1, w2, w3, w4, w5⟩
  have hs : cs = (cs.drop 0).take 6 := by rw [List.drop_zero, ← hc, ← hl, List.take_length]
  rw [hs, show (cs.drop 0).take 6 = (cs.drop 0).take 5 ++ (cs.drop 5).take 1 from (by rw [show (5 : Nat) = 0 + 5 from rfl, seg 0 5 1]), show (cs.drop 0).take 5 = (cs.drop 0).take 4 ++ (cs.drop 4).take 1 from (by rw [show (4 : Nat) = 0 + 4 from rfl, seg 0 4 1]), show (cs.drop 0).take 4 = (cs.drop 0).take 3 ++ (cs.drop 3).take 1 from (by rw [show (3 : Nat) = 0 + 3 from rfl, seg 0 3 1]), show (cs.drop 0).take 3 = (cs.drop 0).take 2 ++ (cs.drop 2).take 1 from (by rw [show (2 : Nat) = 0 + 2 from rfl, seg 0 2 1]), show (cs.drop 0).take 2 = (cs.drop 0).take 1 ++ (cs.drop 1).take 1 from (by rw [show (1 : Nat) = 0 + 1 from rfl, seg 0 1 1]), e0, e1, e2, e3, e4, e5]
  rfl
def Land.wf (x : Land) : Prop := (wfA Room.wf) x.rooms ∧ (wfA Thing.wf) x.things ∧ (wfA Being.wf) x.beings
theorem Land.dc {H : Type} {enc : TypeId × Value → H} {P : Program} {w : World} {t : TypeId} {fs : Array Field} {T0 T1 T2 : Nat} (hu : P.underlying t = some (.struct fs)) (hc : P.cellsOf t = 165)
    (f0 : (fs[0]?).map (fun f => (f.type, f.offset)) = some (T0, 0)) (z0 : P.cellsOf T0 = 84) (d0 : Dc H enc P w (α := Arr Room 6) (encA Room.enc) (wfA Room.wf) T0)
    (f1 : (fs[1]?).map (fun f => (f.type, f.offset)) = some (T1, 84)) (z1 : P.cellsOf T1 = 45) (d1 : Dc H enc P w (α := Arr Thing 9) (encA Thing.enc) (wfA Thing.wf) T1)
    (f2 : (fs[2]?).map (fun f => (f.type, f.offset)) = some (T2, 129)) (z2 : P.cellsOf T2 = 36) (d2 : Dc H enc P w (α := Arr Being 6) (encA Being.enc) (wfA Being.wf) T2) :
    Dc H enc P w Land.enc (Land.wf) t := by
  intro fuel cs d ps h
  obtain ⟨xs, n, _, _, hl, hlen, hf⟩ := DataW.trod_struct hu h
  obtain ⟨x0, e0, w0⟩ := Dc.part hlen hf f0 z0 d0
  obtain ⟨x1, e1, w1⟩ := Dc.part hlen hf f1 z1 d1
  obtain ⟨x2, e2, w2⟩ := Dc.part hlen hf f2 z2 d2
  refine ⟨⟨x0, x1, x2⟩, ?_, w0, w1, w2⟩
  have hs : cs = (cs.drop 0).take 165 := by rw [List.drop_zero, ← hc, ← hl, List.take_length]
  rw [hs, show (cs.drop 0).take 165 = (cs.drop 0).take 129 ++ (cs.drop 129).take 36 from (by rw [show (129 : Nat) = 0 + 129 from rfl, seg 0 129 36]), show (cs.drop 0).take 129 = (cs.drop 0).take 84 ++ (cs.drop 84).take 45 from (by rw [show (84 : Nat) = 0 + 84 from rfl, seg 0 84 45]), e0, e1, e2]
  rfl
def Order.wf (x : Order) : Prop := (wfI) x.verb ∧ (wfI) x.nth ∧ (wfB) x.all_ ∧ (wfS) x.name ∧ (wfS) x.second ∧ (wfS) x.text
theorem Order.dc {H : Type} {enc : TypeId × Value → H} {P : Program} {w : World} {t : TypeId} {fs : Array Field} {T0 T1 T2 T3 T4 T5 : Nat} (hu : P.underlying t = some (.struct fs)) (hc : P.cellsOf t = 6)
    (f0 : (fs[0]?).map (fun f => (f.type, f.offset)) = some (T0, 0)) (z0 : P.cellsOf T0 = 1) (d0 : Dc H enc P w (α := Int) (encI) (wfI) T0)
    (f1 : (fs[1]?).map (fun f => (f.type, f.offset)) = some (T1, 1)) (z1 : P.cellsOf T1 = 1) (d1 : Dc H enc P w (α := Int) (encI) (wfI) T1)
    (f2 : (fs[2]?).map (fun f => (f.type, f.offset)) = some (T2, 2)) (z2 : P.cellsOf T2 = 1) (d2 : Dc H enc P w (α := Bool) (encB) (wfB) T2)
    (f3 : (fs[3]?).map (fun f => (f.type, f.offset)) = some (T3, 3)) (z3 : P.cellsOf T3 = 1) (d3 : Dc H enc P w (α := Str) (encS) (wfS) T3)
    (f4 : (fs[4]?).map (fun f => (f.type, f.offset)) = some (T4, 4)) (z4 : P.cellsOf T4 = 1) (d4 : Dc H enc P w (α := Str) (encS) (wfS) T4)
    (f5 : (fs[5]?).map (fun f => (f.type, f.offset)) = some (T5, 5)) (z5 : P.cellsOf T5 = 1) (d5 : Dc H enc P w (α := Str) (encS) (wfS) T5) :
    Dc H enc P w Order.enc (Order.wf) t := by
  intro fuel cs d ps h
  obtain ⟨xs, n, _, _, hl, hlen, hf⟩ := DataW.trod_struct hu h
  obtain ⟨x0, e0, w0⟩ := Dc.part hlen hf f0 z0 d0
  obtain ⟨x1, e1, w1⟩ := Dc.part hlen hf f1 z1 d1
  obtain ⟨x2, e2, w2⟩ := Dc.part hlen hf f2 z2 d2
  obtain ⟨x3, e3, w3⟩ := Dc.part hlen hf f3 z3 d3
  obtain ⟨x4, e4, w4⟩ := Dc.part hlen hf f4 z4 d4
  obtain ⟨x5, e5, w5⟩ := Dc.part hlen hf f5 z5 d5
  refine ⟨⟨x0, x1, x2, x3, x4, x5⟩, ?_, w0, w1, w2, w3, w4, w5⟩
  have hs : cs = (cs.drop 0).take 6 := by rw [List.drop_zero, ← hc, ← hl, List.take_length]
  rw [hs, show (cs.drop 0).take 6 = (cs.drop 0).take 5 ++ (cs.drop 5).take 1 from (by rw [show (5 : Nat) = 0 + 5 from rfl, seg 0 5 1]), show (cs.drop 0).take 5 = (cs.drop 0).take 4 ++ (cs.drop 4).take 1 from (by rw [show (4 : Nat) = 0 + 4 from rfl, seg 0 4 1]), show (cs.drop 0).take 4 = (cs.drop 0).take 3 ++ (cs.drop 3).take 1 from (by rw [show (3 : Nat) = 0 + 3 from rfl, seg 0 3 1]), show (cs.drop 0).take 3 = (cs.drop 0).take 2 ++ (cs.drop 2).take 1 from (by rw [show (2 : Nat) = 0 + 2 from rfl, seg 0 2 1]), show (cs.drop 0).take 2 = (cs.drop 0).take 1 ++ (cs.drop 1).take 1 from (by rw [show (1 : Nat) = 0 + 1 from rfl, seg 0 1 1]), e0, e1, e2, e3, e4, e5]
  rfl
def Event.wf (x : Event) : Prop := (wfI) x.kind ∧ (wfI) x.room ∧ (wfI) x.actor ∧ (wfI) x.other ∧ (wfI) x.dir ∧ (wfI) x.n ∧ (wfS) x.who ∧ (wfS) x.whom ∧ (wfS) x.thing ∧ (wfS) x.text ∧ (wfA wfI) x.by_
theorem Event.dc {H : Type} {enc : TypeId × Value → H} {P : Program} {w : World} {t : TypeId} {fs : Array Field} {T0 T1 T2 T3 T4 T5 T6 T7 T8 T9 T10 : Nat} (hu : P.underlying t = some (.struct fs)) (hc : P.cellsOf t = 16)
    (f0 : (fs[0]?).map (fun f => (f.type, f.offset)) = some (T0, 0)) (z0 : P.cellsOf T0 = 1) (d0 : Dc H enc P w (α := Int) (encI) (wfI) T0)
    (f1 : (fs[1]?).map (fun f => (f.type, f.offset)) = some (T1, 1)) (z1 : P.cellsOf T1 = 1) (d1 : Dc H enc P w (α := Int) (encI) (wfI) T1)
    (f2 : (fs[2]?).map (fun f => (f.type, f.offset)) = some (T2, 2)) (z2 : P.cellsOf T2 = 1) (d2 : Dc H enc P w (α := Int) (encI) (wfI) T2)
    (f3 : (fs[3]?).map (fun f => (f.type, f.offset)) = some (T3, 3)) (z3 : P.cellsOf T3 = 1) (d3 : Dc H enc P w (α := Int) (encI) (wfI) T3)
    (f4 : (fs[4]?).map (fun f => (f.type, f.offset)) = some (T4, 4)) (z4 : P.cellsOf T4 = 1) (d4 : Dc H enc P w (α := Int) (encI) (wfI) T4)
    (f5 : (fs[5]?).map (fun f => (f.type, f.offset)) = some (T5, 5)) (z5 : P.cellsOf T5 = 1) (d5 : Dc H enc P w (α := Int) (encI) (wfI) T5)
    (f6 : (fs[6]?).map (fun f => (f.type, f.offset)) = some (T6, 6)) (z6 : P.cellsOf T6 = 1) (d6 : Dc H enc P w (α := Str) (encS) (wfS) T6)
    (f7 : (fs[7]?).map (fun f => (f.type, f.offset)) = some (T7, 7)) (z7 : P.cellsOf T7 = 1) (d7 : Dc H enc P w (α := Str) (encS) (wfS) T7)
    (f8 : (fs[8]?).map (fun f => (f.type, f.offset)) = some (T8, 8)) (z8 : P.cellsOf T8 = 1) (d8 : Dc H enc P w (α := Str) (encS) (wfS) T8)
    (f9 : (fs[9]?).map (fun f => (f.type, f.offset)) = some (T9, 9)) (z9 : P.cellsOf T9 = 1) (d9 : Dc H enc P w (α := Str) (encS) (wfS) T9)
    (f10 : (fs[10]?).map (fun f => (f.type, f.offset)) = some (T10, 10)) (z10 : P.cellsOf T10 = 6) (d10 : Dc H enc P w (α := Arr Int 6) (encA encI) (wfA wfI) T10) :
    Dc H enc P w Event.enc (Event.wf) t := by
  intro fuel cs d ps h
  obtain ⟨xs, n, _, _, hl, hlen, hf⟩ := DataW.trod_struct hu h
  obtain ⟨x0, e0, w0⟩ := Dc.part hlen hf f0 z0 d0
  obtain ⟨x1, e1, w1⟩ := Dc.part hlen hf f1 z1 d1
  obtain ⟨x2, e2, w2⟩ := Dc.part hlen hf f2 z2 d2
  obtain ⟨x3, e3, w3⟩ := Dc.part hlen hf f3 z3 d3
  obtain ⟨x4, e4, w4⟩ := Dc.part hlen hf f4 z4 d4
  obtain ⟨x5, e5, w5⟩ := Dc.part hlen hf f5 z5 d5
  obtain ⟨x6, e6, w6⟩ := Dc.part hlen hf f6 z6 d6
  obtain ⟨x7, e7, w7⟩ := Dc.part hlen hf f7 z7 d7
  obtain ⟨x8, e8, w8⟩ := Dc.part hlen hf f8 z8 d8
  obtain ⟨x9, e9, w9⟩ := Dc.part hlen hf f9 z9 d9
  obtain ⟨x10, e10, w10⟩ := Dc.part hlen hf f10 z10 d10
  refine ⟨⟨x0, x1, x2, x3, x4, x5, x6, x7, x8, x9, x10⟩, ?_, w0, w1, w2, w3, w4, w5, w6, w7, w8, w9, w10⟩
  have hs : cs = (cs.drop 0).take 16 := by rw [List.drop_zero, ← hc, ← hl, List.take_length]
  rw [hs, show (cs.drop 0).take 16 = (cs.drop 0).take 10 ++ (cs.drop 10).take 6 from (by rw [show (10 : Nat) = 0 + 10 from rfl, seg 0 10 6]), show (cs.drop 0).take 10 = (cs.drop 0).take 9 ++ (cs.drop 9).take 1 from (by rw [show (9 : Nat) = 0 + 9 from rfl, seg 0 9 1]), show (cs.drop 0).take 9 = (cs.drop 0).take 8 ++ (cs.drop 8).take 1 from (by rw [show (8 : Nat) = 0 + 8 from rfl, seg 0 8 1]), show (cs.drop 0).take 8 = (cs.drop 0).take 7 ++ (cs.drop 7).take 1 from (by rw [show (7 : Nat) = 0 + 7 from rfl, seg 0 7 1]), show (cs.drop 0).take 7 = (cs.drop 0).take 6 ++ (cs.drop 6).take 1 from (by rw [show (6 : Nat) = 0 + 6 from rfl, seg 0 6 1]), show (cs.drop 0).take 6 = (cs.drop 0).take 5 ++ (cs.drop 5).take 1 from (by rw [show (5 : Nat) = 0 + 5 from rfl, seg 0 5 1]), show (cs.drop 0).take 5 = (cs.drop 0).take 4 ++ (cs.drop 4).take 1 from (by rw [show (4 : Nat) = 0 + 4 from rfl, seg 0 4 1]), show (cs.drop 0).take 4 = (cs.drop 0).take 3 ++ (cs.drop 3).take 1 from (by rw [show (3 : Nat) = 0 + 3 from rfl, seg 0 3 1]), show (cs.drop 0).take 3 = (cs.drop 0).take 2 ++ (cs.drop 2).take 1 from (by rw [show (2 : Nat) = 0 + 2 from rfl, seg 0 2 1]), show (cs.drop 0).take 2 = (cs.drop 0).take 1 ++ (cs.drop 1).take 1 from (by rw [show (1 : Nat) = 0 + 1 from rfl, seg 0 1 1]), e0, e1, e2, e3, e4, e5, e6, e7, e8, e9, e10]
  rfl
def ActV.wf (x : ActV) : Prop := (wfI) x.kind ∧ (wfI) x.seat ∧ (wfI) x.n ∧ (wfS) x.bytes
theorem ActV.dc {H : Type} {enc : TypeId × Value → H} {P : Program} {w : World} {t : TypeId} {fs : Array Field} {T0 T1 T2 T3 : Nat} (hu : P.underlying t = some (.struct fs)) (hc : P.cellsOf t = 4)
    (f0 : (fs[0]?).map (fun f => (f.type, f.offset)) = some (T0, 0)) (z0 : P.cellsOf T0 = 1) (d0 : Dc H enc P w (α := Int) (encI) (wfI) T0)
    (f1 : (fs[1]?).map (fun f => (f.type, f.offset)) = some (T1, 1)) (z1 : P.cellsOf T1 = 1) (d1 : Dc H enc P w (α := Int) (encI) (wfI) T1)
    (f2 : (fs[2]?).map (fun f => (f.type, f.offset)) = some (T2, 2)) (z2 : P.cellsOf T2 = 1) (d2 : Dc H enc P w (α := Int) (encI) (wfI) T2)
    (f3 : (fs[3]?).map (fun f => (f.type, f.offset)) = some (T3, 3)) (z3 : P.cellsOf T3 = 1) (d3 : Dc H enc P w (α := Str) (encS) (wfS) T3) :
    Dc H enc P w ActV.enc (ActV.wf) t := by
  intro fuel cs d ps h
  obtain ⟨xs, n, _, _, hl, hlen, hf⟩ := DataW.trod_struct hu h
  obtain ⟨x0, e0, w0⟩ := Dc.part hlen hf f0 z0 d0
  obtain ⟨x1, e1, w1⟩ := Dc.part hlen hf f1 z1 d1
  obtain ⟨x2, e2, w2⟩ := Dc.part hlen hf f2 z2 d2
  obtain ⟨x3, e3, w3⟩ := Dc.part hlen hf f3 z3 d3
  refine ⟨⟨x0, x1, x2, x3⟩, ?_, w0, w1, w2, w3⟩
  have hs : cs = (cs.drop 0).take 4 := by rw [List.drop_zero, ← hc, ← hl, List.take_length]
  rw [hs, show (cs.drop 0).take 4 = (cs.drop 0).take 3 ++ (cs.drop 3).take 1 from (by rw [show (3 : Nat) = 0 + 3 from rfl, seg 0 3 1]), show (cs.drop 0).take 3 = (cs.drop 0).take 2 ++ (cs.drop 2).take 1 from (by rw [show (2 : Nat) = 0 + 2 from rfl, seg 0 2 1]), show (cs.drop 0).take 2 = (cs.drop 0).take 1 ++ (cs.drop 1).take 1 from (by rw [show (1 : Nat) = 0 + 1 from rfl, seg 0 1 1]), e0, e1, e2, e3]
  rfl
def Reply.wf (x : Reply) : Prop := (wfI) x.code ∧ (wfS) x.out
theorem Reply.dc {H : Type} {enc : TypeId × Value → H} {P : Program} {w : World} {t : TypeId} {fs : Array Field} {T0 T1 : Nat} (hu : P.underlying t = some (.struct fs)) (hc : P.cellsOf t = 2)
    (f0 : (fs[0]?).map (fun f => (f.type, f.offset)) = some (T0, 0)) (z0 : P.cellsOf T0 = 1) (d0 : Dc H enc P w (α := Int) (encI) (wfI) T0)
    (f1 : (fs[1]?).map (fun f => (f.type, f.offset)) = some (T1, 1)) (z1 : P.cellsOf T1 = 1) (d1 : Dc H enc P w (α := Str) (encS) (wfS) T1) :
    Dc H enc P w Reply.enc (Reply.wf) t := by
  intro fuel cs d ps h
  obtain ⟨xs, n, _, _, hl, hlen, hf⟩ := DataW.trod_struct hu h
  obtain ⟨x0, e0, w0⟩ := Dc.part hlen hf f0 z0 d0
  obtain ⟨x1, e1, w1⟩ := Dc.part hlen hf f1 z1 d1
  refine ⟨⟨x0, x1⟩, ?_, w0, w1⟩
  have hs : cs = (cs.drop 0).take 2 := by rw [List.drop_zero, ← hc, ← hl, List.take_length]
  rw [hs, show (cs.drop 0).take 2 = (cs.drop 0).take 1 ++ (cs.drop 1).take 1 from (by rw [show (1 : Nat) = 0 + 1 from rfl, seg 0 1 1]), e0, e1]
  rfl
end Go.Ing
/- Engine, part 10: arrays by value; max, min; all below a number. -/
namespace Go.Ing
open Go
section
variable {P : Program} {n : Nat} {w0 : World} {M : List Nat} {F : List (Nat × Value)} {L : List Res}
end
/-- All from N - n up to N. -/
def allFrom (N : Int) (p : Int → Bool) : Nat → Bool
  | 0 => true
  | n + 1 => p (N - (n + 1)) && allFrom N p n
end Go.Ing
namespace Go.Ing
open Go
section
variable {P : Program} {n : Nat} {w0 : World} {M : List Nat} {Q : Exit → Go.Act → World → Prop} {F F' : List (Nat × Value)} {L L' : List Res} {ops : Array Oper} {rest : List Oper}
end
end Go.Ing
/- Engine, part 11: calls that write; the string builder's steps. -/
namespace Go.Ing
open Go
/-- The blocks of the pieces. -/
def feet (L : List Res) : List Nat := L.flatMap Res.foot
theorem St.frame {w0 w w' : World} {M : List Nat} {A B K : List Res} (h : St w0 M w (A ++ K)) (k : St w (feet A) w' B) : St w0 M w' (B ++ K) := by
  have hd := List.pairwise_append.1 h.disj
  have hK : ∀ r ∈ K, ∀ b ∈ r.foot, b < w.heap.size ∧ b ∉ feet A := fun r hr b hb => by
    refine ⟨(h.foot r (List.mem_append_right _ hr) b hb).1, fun hA => ?_⟩
    obtain ⟨s, hs, hb'⟩ := List.mem_flatMap.1 hA
    exact hd.2.2 s hs r hr b hb' hb
  refine ⟨k.os.trans h.os, k.tape.trans h.tape, k.output.trans h.output, Nat.le_trans h.size k.size, fun i hi hM => ?_, fun r hr => ?_, fun r hr b hb => ?_, ?_⟩
  · have hA : i ∉ feet A := fun hA => by
      obtain ⟨s, hs, hb'⟩ := List.mem_flatMap.1 hA
      exact hM ((h.foot s (List.mem_append_left _ hs) i hb').2 hi)
    rw [k.old i (Nat.lt_of_lt_of_le hi h.size) hA]
    exact h.old i hi hM
  · rcases List.mem_append.1 hr with hr | hr
    · exact k.ok r hr
    · exact r.loc w w' (fun b hb => k.old b (hK r hr b hb).1 (hK r hr b hb).2) (h.ok r (List.mem_append_right _ hr))
  · rcases List.mem_append.1 hr with hr | hr
    · have := k.foot r hr b hb
      refine ⟨this.1, fun hlt => ?_⟩
      obtain ⟨s, hs, hb'⟩ := List.mem_flatMap.1 (this.2 (Nat.lt_of_lt_of_le hlt h.size))
      exact (h.foot s (List.mem_append_left _ hs) b hb').2 hlt
    · have := h.foot r (List.mem_append_right _ hr) b hb
      exact ⟨Nat.lt_of_lt_of_le this.1 k.size, this.2⟩
  · refine List.pairwise_append.2 ⟨k.disj, hd.2.1, fun s hs r hr b hb hb' => ?_⟩
    have h1 := hK r hr b hb'
    exact h1.2 ((k.foot s hs b hb).2 h1.1)
/-- Pieces are taken out, one after another. -/
inductive Pulls : List Res → List Res → List Res → Prop where
  | nil {L : List Res} : Pulls L [] L
  | cons {L L' K rs : List Res} {r : Res} (h : Pull L r L') (hs : Pulls L' rs K) : Pulls L (r :: rs) K
section
variable {P : Program} {n : Nat} {w0 : World} {M : List Nat} {Q : Exit → Go.Act → World → Prop} {F F' : List (Nat × Value)} {L L' K A : List Res} {ops : Array Oper} {rest : List Oper}
/-! #### pointers -/
theorem PS_eqp_nil {T U V E : TypeId} {x : Operand} {p : Option Addr} (hu : P.underlying U = some (.pointer E)) (hx : ev F x = some (.pointer p)) : PS P n w0 M (.binOp .eql U x (.const (.pointer none)) V) T F L (.bool p.isNone) L := PS_of fun e w hF => by
  have hu' : (underlying U).run P w = .ok (.pointer E) w := by simp [underlying, hu]
  have h : ∀ d : Nat, (Op.equalIn (d + 1) U (.pointer p) (.pointer none)).run P w = .ok p.isNone w := fun d => by
    cases p <;> simp [Op.equalIn, hu']
  have h2 : (binOp .eql U (.pointer p) (.pointer none)).run P w = .ok (.bool p.isNone) w := by
    cases p <;> simp only [binOp] <;> simp [Op.equal, Op.maxDepth, h 9999]
  have h3 : ev F (.const (.pointer none)) = some (.pointer none) := rfl
  simp [execOp, hF.ev hx, hF.ev h3, eqGuard, h2]
/-! #### bytes -/
/-- A slice's first byte's place; what is nil gives nil. -/
def Hd.base (h : Hd) : Value := .pointer h.a
theorem St.tail {w : World} {r : Res} (h : St w0 M w (r :: L)) : St w0 M w L := h.sub (List.sublist_cons_self ..)
end
end Go.Ing
