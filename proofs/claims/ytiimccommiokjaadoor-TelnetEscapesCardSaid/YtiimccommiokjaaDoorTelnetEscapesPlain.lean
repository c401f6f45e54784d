/- What the functions that the law TelnetEscapes reaches compute, and the plain laws of it. No condition. -/
import Derived.Test.YtiimccommiokjaaDoorTelnetEscapesEc3
import Derived.Lib.Bytealg
import Derived.Laws.Externs
import Derived.Lib.LaidTab
import Derived.Shelf.Strconv.Itoa3
import Derived.Shelf.Strconv.ErrVarAll
import Derived.Stop.LaidErr
set_option linter.unusedSimpArgs false
set_option linter.unusedVariables false
/- Engine: how much a slice within a struct that came in can take. -/
namespace Go.Ing
open Go Go.RowKit Go.ChangeShapes Go.WideShapes Go.ChangeAt
section
variable {H : Type} {enc : TypeId × Value → H} {P : Program} {w : World}
theorem reach_field {t T E : TypeId} {fs : Array Field} {i o : Nat} {v : Value} {d : DataW H} {p : List MemPlace} {h : Hd} (hu : P.underlying t = some (.struct fs)) (hfi : (fs[i]?).map (fun f => (f.type, f.offset)) = some (T, o)) (hT : P.underlying T = some (.slice E)) (hz : P.cellsOf T = 1)
    (hd : DataW.Trod enc P w 0 (fun _ => true) true t v d p) (hh : (v.cells.toList.drop o).take 1 = [h.val]) (hw : ∀ n ∈ d.weights P t, n ≤ reachBytes) : h.cap * P.bytesOf E ≤ reachBytes := by
  obtain ⟨fuel, hf⟩ := hd
  obtain ⟨xs, n, _, hx, hl, hlen, hfl⟩ := DataW.trod_struct hu hf
  cases hfi' : fs[i]? with
  | none => rw [hfi'] at hfi; cases hfi
  | some f =>
    rw [hfi'] at hfi
    simp at hfi
    obtain ⟨rfl, rfl⟩ := hfi
    have h1 := hfl i f hfi'
    have hi : i < fs.size := by
      rcases Nat.lt_or_ge i fs.size with h' | h'
      · exact h'
      · rw [Array.getElem?_eq_none h'] at hfi'; cases hfi'
    have h2 : xs[i]? = some xs[i] := List.getElem?_eq_getElem (by omega)
    rw [h2, hz, hh] at h1
    have hxd : d = .agg (xs.map (·.1)) := congrArg Prod.fst hx
    have hmem : ∀ n ∈ (xs[i].1).weights P f.type, n ≤ reachBytes := fun n hn => by
      refine hw n ?_
      rw [hxd]
      simp only [DataW.weights, hu]
      refine DataW.weights_mem_each (j := i) (t := f.type) (d := xs[i].1) ?_ ?_ n hn
      · rw [List.getElem?_map]
        simp [hfi']
      · rw [List.getElem?_map, h2]; rfl
    rcases DataW.trod_slice hT h1 with ⟨h3, _⟩ | ⟨a, len, cap, elems, rest, m, _, h3, h4, _, hlc, _, h5, _, h6, _⟩
    · obtain ⟨ha, hl', hc⟩ := h
      simp [Hd.val] at h3
      obtain ⟨_, _, rfl⟩ := h3
      simp
    · obtain ⟨ha, hl', hc⟩ := h
      simp [Hd.val] at h3
      obtain ⟨_, _, rfl⟩ := h3
      have h7 := (h6 rfl).1
      have h8 : xs[i].1 = .slice (elems.map (·.1)) (rest.map (·.1)) := congrArg Prod.fst h4
      have := hmem ((elems.length + rest.length) * P.bytesOf E) (by rw [h8]; simp [DataW.weights, hT])
      rw [h5, h7] at this
      rwa [show len + (hc - len) = hc by omega] at this
theorem sized_arg {ts : List TypeId} {ds : List (DataW H)} (h : (DataW.weightsEach P ts ds).all (· ≤ reachBytes) = true) {j : Nat} {t : TypeId} {d : DataW H} (ht : ts[j]? = some t) (hd : ds[j]? = some d) : ∀ n ∈ d.weights P t, n ≤ reachBytes := fun n hn => by
  simpa using List.all_eq_true.1 h n (DataW.weights_mem_each ht hd n hn)
end
section
variable {P : Program} {n : Nat} {w0 : World} {M : List Nat} {Q : Exit → Go.Act → World → Prop} {F F' : List (Nat × Value)} {L L' : List Res} {ops : Array Oper} {rest : List Oper}
/-- What is appended to a slice for which there is no room yet. -/
theorem run_append0 {U U2 E sz by_ : Nat} {z x : Value} {h : Hd} {gl : Nat} {ys : List Value} {V : TypeId} {w : World} (hu : P.underlying U = some (.slice E)) (hsz : Sz P E sz) (hz : ZV P E z) (hzs : z.cells.size = sz) (hby : BY P E by_) (hb0 : 0 < by_)
    (hl0 : h.len = 0) (hc0 : h.cap = 0) (hh : (Res.own h E sz []).ok w) (hg : Src P w U2 sz x gl ys) (hbd : gl * by_ ≤ 281474976710656) :
    ∃ h' w', (Builtin.append_ #[U, U2] V #[h.val, x]).run P w = .ok h'.val w' ∧ (Res.own h' E sz ys).ok w' ∧ h'.len = gl ∧ w'.os = w.os ∧ w'.tape = w.tape ∧ w'.output = w.output ∧ w.heap.size ≤ w'.heap.size ∧
      (∀ k, k < w.heap.size → w'.heap[k]? = w.heap[k]?) ∧ (∀ b ∈ (Res.own h' E sz ys).foot, b < w'.heap.size ∧ (b ∈ (Res.own h E sz []).foot ∨ w.heap.size ≤ b)) := by
  obtain ⟨i, hi, hib⟩ := hby
  have hti : ∀ w, (typeInfo E).run P w = .ok i w := fun w => by simp [typeInfo, hi]
  have hu' : ∀ w, (underlying U).run P w = .ok (.slice E) w := fun w => by simp [underlying, hu]
  have hsw : ∀ (v : Value) (w : World), (Builtin.append_ #[U, U2] V #[v, x]).run P w = (Builtin.append_ #[U, U] V #[v, x]).run P w := fun v w => by
    rcases hg.ty with ⟨e, hd2⟩ | hd2
    · have hu2 : ∀ w, (underlying U2).run P w = .ok (.slice e) w := fun w => by simp [underlying, hd2]
      cases v <;> simp [Builtin.append_, hu' w, hu2 w, hsz w]
    · have hu2 : ∀ w, (underlying U2).run P w = .ok .string w := fun w => by simp [underlying, hd2]
      cases v <;> simp [Builtin.append_, hu' w, hu2 w, hsz w]
  have hlo := hg.lenOf
  obtain ⟨ha, hl, hc⟩ := h
  simp only at hl0 hc0
  subst hl0; subst hc0
  have hfh : ∀ w, (Builtin.firstCells sz 0 (Hd.val ⟨ha, 0, 0⟩)).run P w = .ok #[] w := fun w => by
    cases ha with
    | none => rfl
    | some a => simp [Hd.val, Builtin.firstCells, loadCells, loadCellsFrom]
  by_cases hg0 : gl = 0
  · subst hg0
    have hys : ys = [] := by have := hg.len; simpa using this.symm
    subst hys
    refine ⟨⟨ha, 0, 0⟩, w, ?_, hh, rfl, rfl, rfl, rfl, Nat.le_refl _, fun _ _ => rfl, fun b hb => ?_⟩
    · have hfc := hg.cells w (Keep.refl w)
      rw [hsw]
      cases ha with
      | none => simp only [Hd.val] at hfc ⊢; simp [Builtin.append_, hu' w, hsz w, hlo w, hfc]
      | some a => simp only [Hd.val] at hfc ⊢; simp [Builtin.append_, hu' w, hsz w, hlo w, hfc, storeCells]
    · rcases hh with ⟨e1, _⟩ | ⟨b', o, C, fz, e1, e2, _⟩
      · simp at e1; subst e1; simp [Res.own] at hb
      · simp only at e1; subst e1; simp [Res.own] at hb; subst hb
        exact ⟨e2, .inl (by simp [Res.own])⟩
  · have hnc : Builtin.nextslicecap (0 + gl) 0 = gl := by
      unfold Builtin.nextslicecap
      rw [if_pos (by omega)]; omega
    have hbig : ¬ (281474976710656 < Builtin.nextslicecap (0 + gl) 0 * by_) := by rw [hnc]; omega
    let q : Question := .appendCap (0 + gl) 0 E
    let w1 : World := w.drew
    let nc : Nat := q.cut (w.tape w.drawn q)
    have hncle : 0 + gl ≤ nc := Nat.le_add_right _ _
    have hk1 : Keep w w1 := ⟨rfl, rfl, rfl, Nat.le_refl _, fun _ _ => rfl⟩
    have hfc1 := hg.cells w1 hk1
    have hfh1 := hfh w1
    let row : List Value := ys ++ (Builtin.zeroCells z.cells (nc - (0 + gl))).toList
    have hrow : row.length = nc * sz := by
      simp only [row, List.length_append, Array.length_toList, zeroCells_size, hzs]
      rw [← hg.len, ← Nat.add_mul]
      congr 1; omega
    refine ⟨⟨some ⟨w.heap.size, 0, none⟩, gl, nc⟩, w1.alloc (.cells row.toArray E), ?_, ?_, rfl, rfl, rfl, rfl, by simp [w1], ?_, ?_⟩
    · simp only [Hd.val] at hfc1 hfh1 ⊢
      have hz1 := hz w.drew
      simp only [w1] at hfc1 hfh1
      have hne : ¬ gl ≤ 0 := by omega
      rw [hsw]
      simp only [Nat.zero_add] at hbig
      simp [Builtin.append_, hu' w, hsz w, hlo w, hne, hg0, hti, hbig, hib, Nat.ne_of_gt hb0, hfc1, hfh1, hz1, newRow, Question.forced]
      simp [w1, row, nc, q]
      congr 2
      apply Array.ext'
      simp
    · refine .inr ⟨w.heap.size, 0, row, (0, 0), rfl, by simp [w1], ?_, fun _ _ h => by simp at h, by rw [hrow]; simp, (by show gl ≤ nc; omega), hg.len, ?_⟩
      · show (w.heap.push _)[w.heap.size]? = _
        simp
      · simp only [List.drop_zero, row]
        rw [List.take_left]
    · intro k hk
      exact RowKit.Below.heap_alloc w1 _ k hk
    · intro b hb
      simp [Res.own] at hb
      subst hb
      exact ⟨by simp [w1], .inr (Nat.le_refl _)⟩
theorem GL_append0 {α : Type} {e : α → List Value} {d T U U2 E sz by_ gl : Nat} {x y : Operand} {pos : String} {aft : Array Edge} {h : Hd} {zs : List α} {z yv : Value} {Lf : Res → List Res} (hd : Nat.blt d n = true) (hu : P.underlying U = some (.slice E)) (hs : Sz P E sz) (hz : ZV P E z) (hzs : z.cells.size = sz) (hby : BY P E by_) (hb0 : 0 < by_)
    (hx : ev F x = some h.val) (hy : ev F y = some yv) (hk : ∀ w, St w0 M w L → Src P w U2 sz yv gl (zs.flatMap e)) (hl0 : h.len = 0) (hc0 : h.cap = 0) (hbd : gl * by_ ≤ 281474976710656) (hU : ∀ r, Upd L (Res.own h E sz (([] : List α).flatMap e)) r (Lf r))
    (k : ∀ h' : Hd, h'.len = gl → GL P n w0 M ops Q rest ((d, h'.val) :: F) (Lf (Res.own h' E sz (zs.flatMap e)))) : GL P n w0 M ops Q (⟨some d, .call ⟨.builtin .append, #[x, y], #[U, U2]⟩, T, pos, aft, none⟩ :: rest) F L := by
  refine GL_new (R := fun v L' => ∃ h' : Hd, v = h'.val ∧ L' = Lf (Res.own h' E sz (zs.flatMap e)) ∧ h'.len = gl) hd ?_ (fun v L' ⟨h', e1, e2, e3⟩ => by subst e1; subst e2; exact k h' e3)
  intro a w hF hS
  obtain ⟨h', w', e1, e2, e3, e4, e5, e6, e7, e8, e9⟩ := run_append0 (V := T) hu hs hz hzs hby hb0 hl0 hc0 (hS.ok _ (hU ⟨[], fun _ => True, fun _ _ _ _ => trivial⟩).mem) (hk w hS) hbd
  refine ⟨_, _, w', ⟨h', rfl, rfl, e3⟩, ?_, hS.turn (hU _) e4 e5 e6 e7 (fun k hk _ => e8 k hk) e2 e9⟩
  simp [execOp, resolve, invoke, builtin, hF.ev hx, hF.ev hy, e1]
/-! #### closures -/
theorem PS_makeFunc {f : FuncId} {xs : List Operand} {vs : List Value} {T : TypeId} (ha : Evs F xs vs) : PS P n w0 M (.makeFunc (.func f) #[] xs.toArray) T F L (.func (.func f) #[] vs.toArray) L := PS_of fun a w hF => by
  have := Evs.map hF ha
  simp [execOp, Instr.makeFunc, ← this]
theorem run_callV {f : FuncId} {t : Nat} {caps : List Value} {args : List Operand} {ts : Array TypeId} {T : TypeId} {vs : List Value} (hc : CF P f) {a : Go.Act} (hF : Fr n a F) (hf : lk t F = some (.func (.func f) #[] caps.toArray)) (ha : Evs F args vs) (w : World) (d : Option Tmp) (pos : String) (aft : Array Edge) (g : Option (Nat × Bool)) :
    (execOp a.eval ⟨d, .call ⟨.value (.tmp t), args.toArray, ts⟩, T, pos, aft, g⟩).run P w = .ok (.enter f (vs ++ caps).toArray) w := by
  have h2 := Evs.map hF ha
  subst h2
  have h1 := hc (args.map a.eval ++ caps).toArray w
  have h3 : a.eval (.tmp t) = .func (.func f) #[] caps.toArray := by have := hF.get _ _ hf; simp [Act.eval, this]
  simp [execOp, resolve, Deferred.ofValue, h3, invoke]
  simpa using h1
theorem GL_callLV {d : Nat} {f : FuncId} {t : Nat} {caps : List Value} {args : List Operand} {ts : Array TypeId} {T : TypeId} {pos : String} {aft : Array Edge} {vs : List Value} {Post : Value → List Res → Prop} {A K : List Res} (hd : Nat.blt d n = true) (hc : CF P f) (hf : lk t F = some (.func (.func f) #[] caps.toArray)) (ha : Evs F args vs) (hL : Pulls L A K)
    (h : Ctr P f (vs ++ caps).toArray A Post)
    (k : ∀ v B, Post v B → GL P n w0 M ops Q rest ((d, v) :: F) (B ++ K)) : GL P n w0 M ops Q (⟨some d, .call ⟨.value (.tmp t), args.toArray, ts⟩, T, pos, aft, none⟩ :: rest) F L := by
  intro a w hF hS
  refine wpList_plain rfl fun K' hK => ?_
  unfold Oper.wp
  rw [run_callV hc hF hf ha]
  show Calls _ _ _ _ _
  refine Calls.mono (h w (hS.perm hL.perm).focus) fun e w' he => ?_
  obtain ⟨v, rfl, B, hP, hB⟩ := he
  exact hK _ _ (k v B hP _ _ (hF.put (by simpa [Nat.blt_eq] using hd) v) ((hS.perm hL.perm).frame hB))
end
end Go.Ing
/- The plain functions of the telnet codec. -/
namespace Go.Ing
open Go
def u8 (n : Int) : UInt8 := UInt8.ofNat n.toNat
theorem u8_val {n : Int} (h0 : 0 ≤ n) (h1 : n ≤ 255) : ((u8 n).toNat : Int) = n := by
  simp [u8]; omega
namespace Telnet
def badOpt (t : Telnet) (i : Int) : Bool := decide (t.us.at i < 0) || decide (2 < t.us.at i) || decide (t.them.at i < 0) || decide (2 < t.them.at i)
def goodA (t : Telnet) : Bool :=
  decide (0 ≤ t.at_) && decide (t.at_ ≤ 4) && (decide (t.at_ = 2) == !decide (t.verb = 0)) && (decide (t.verb = 0) || (decide (251 ≤ t.verb) && decide (t.verb ≤ 254))) && decide ((t.sub.length : Int) ≤ 16) && (decide (3 ≤ t.at_) || decide (t.sub = [])) && decide (0 ≤ t.height) && decide (t.height ≤ 200)
def good (t : Telnet) : Bool := allFrom 3 (fun i => !t.badOpt i) 3 && (!(!decide (t.us.at 2 = 0) || !decide (t.them.at 0 = 0)) && t.goodA)
def place (opt : Int) : Int × Bool × Bool := if decide (opt = 1) = true then (0, true, false) else if decide (opt = 3) = true then (1, true, true) else if decide (opt = 31) = true then (2, false, true) else (-1, false, false)
def say (verb opt : Int) : Str := [255, u8 verb, u8 opt]
def turnS (was : Int) (on : Bool) (opt yes no : Int) : Str := if (on && decide (was = 0)) = true then say yes opt else if (!on && decide (was = 1)) = true then say no opt else []
def onI (on : Bool) : Int := if on = true then 1 else 0
def turnUs (t : Telnet) (k : Int) (on : Bool) : Telnet := { t with us := t.us.put k (onI on) }
def turnThem (t : Telnet) (k : Int) (on : Bool) : Telnet := { t with them := t.them.put k (onI on) }
def negotiate (t : Telnet) (verb opt : Int) : Telnet × Str :=
  let k := (place opt).1
  if decide (verb = 253) = true then (if (!(place opt).2.1) = true then (t, say 252 opt) else (t.turnUs k true, turnS (t.us.at k) true opt 251 252))
  else if decide (verb = 254) = true then (if (place opt).2.1 = true then (t.turnUs k false, turnS (t.us.at k) false opt 251 252) else (t, []))
  else if decide (verb = 251) = true then (if (!(place opt).2.2) = true then (t, say 254 opt) else (t.turnThem k true, turnS (t.them.at k) true opt 253 254))
  else if decide (verb = 252) = true then (if (place opt).2.2 = true then (t.turnThem k false, turnS (t.them.at k) false opt 253 254) else (t, []))
  else (t, [])
def collect (t : Telnet) (b : UInt8) : Telnet := if decide ((t.sub.length : Int) < 16) = true then { t with sub := t.sub ++ [b] } else t
def byteAt (s : Str) (i : Int) : Int := ((s.getD i.toNat 0).toNat : Int)
def measure (t : Telnet) : Telnet :=
  if (decide ((t.sub.length : Int) = 5) && decide (byteAt t.sub 0 = 31) && decide (t.them.at 2 = 1)) = true then { t with height := min (byteAt t.sub 3 * 256 + byteAt t.sub 4) 200 } else t
/-- One byte: the codec behind it, what is text, what is answered. -/
def step (t : Telnet) (b : UInt8) : Telnet × Str × Str :=
  let c : Int := (b.toNat : Int)
  if decide (t.at_ = 0) = true then (if decide (c = 255) = true then ({ t with at_ := 1 }, [], []) else (t, [b], []))
  else if decide (t.at_ = 1) = true then
    (if decide (c = 255) = true then ({ t with at_ := 0 }, [b], [])
     else if decide (c = 250) = true then ({ t with at_ := 3 }, [], [])
     else if decide (251 ≤ c) = true then ({ t with at_ := 2, verb := c }, [], [])
     else ({ t with at_ := 0 }, [], []))
  else if decide (t.at_ = 2) = true then ({ (t.negotiate t.verb c).1 with at_ := 0, verb := 0 }, [], (t.negotiate t.verb c).2)
  else if decide (t.at_ = 3) = true then (if decide (c = 255) = true then ({ t with at_ := 4 }, [], []) else (t.collect b, [], []))
  else if decide (t.at_ = 4) = true then
    (if decide (c = 255) = true then (collect { t with at_ := 3 } b, [], [])
     else if decide (c = 240) = true then ({ t.measure with at_ := 0, sub := [] }, [], [])
     else ({ t with at_ := 0, sub := [] }, [], []))
  else (t, [], [])
def feed : Telnet → Str → Telnet × Str × Str
  | t, [] => (t, [], [])
  | t, b :: s => ((feed (t.step b).1 s).1, (t.step b).2.1 ++ (feed (t.step b).1 s).2.1, (t.step b).2.2 ++ (feed (t.step b).1 s).2.2)
def Feed (t : Telnet) (s : Str) : Telnet × Str × Str × Int := if (!t.good) = true then (t, [], [], 2) else ((t.feed s).1, (t.feed s).2.1, (t.feed s).2.2, 0)
def Offer (t : Telnet) (opt : Int) : Telnet × Str × Int :=
  if (!t.good) = true then (t, [], 2) else if (!(place opt).2.1) = true then (t, [], 3) else if (!decide (t.us.at (place opt).1 = 0)) = true then (t, [], 0)
  else ({ t with us := t.us.put (place opt).1 2 }, say 251 opt, 0)
def Ask (t : Telnet) (opt : Int) : Telnet × Str × Int :=
  if (!t.good) = true then (t, [], 2) else if (!(place opt).2.2) = true then (t, [], 3) else if (!decide (t.them.at (place opt).1 = 0)) = true then (t, [], 0)
  else ({ t with them := t.them.put (place opt).1 2 }, say 253 opt, 0)
theorem place_us {opt : Int} (h : (place opt).2.1 = true) : (opt = 1 ∧ place opt = (0, true, false)) ∨ (opt = 3 ∧ place opt = (1, true, true)) := by
  unfold place at *
  repeat' split at h
  all_goals simp_all
theorem place_them {opt : Int} (h : (place opt).2.2 = true) : (opt = 3 ∧ place opt = (1, true, true)) ∨ (opt = 31 ∧ place opt = (2, false, true)) := by
  unfold place at *
  repeat' split at h
  all_goals simp_all
theorem turnS_len (w : Int) (on : Bool) (o y n : Int) : (turnS w on o y n).length ≤ 3 := by
  unfold turnS say; repeat' split
  all_goals simp
theorem negotiate_len (t : Telnet) (v o : Int) : (t.negotiate v o).2.length ≤ 3 := by
  unfold negotiate; dsimp only
  repeat' split
  all_goals try exact turnS_len _ _ _ _ _
  all_goals try simp [say]
  all_goals exact turnS_len _ _ _ _ _
theorem negotiate_sub (t : Telnet) (v o : Int) : (t.negotiate v o).1.sub = t.sub := by
  unfold negotiate; dsimp only
  repeat' split
  all_goals rfl
theorem collect_sub (t : Telnet) (b : UInt8) (h : t.sub.length ≤ 16) : (t.collect b).sub.length ≤ 16 := by
  unfold collect; split
  · rename_i h1; simp at h1 ⊢; omega
  · exact h
theorem step_sub (t : Telnet) (b : UInt8) (h : t.sub.length ≤ 16) : (t.step b).1.sub.length ≤ 16 := by
  unfold step; dsimp only
  repeat' split
  all_goals first | exact h | exact collect_sub _ _ h | (simp; done) | (rw [negotiate_sub]; exact h)
theorem step_len (t : Telnet) (b : UInt8) : (t.step b).2.1.length ≤ 1 ∧ (t.step b).2.2.length ≤ 3 := by
  unfold step; dsimp only
  repeat' split
  all_goals first | (simp; done) | (exact ⟨by simp, negotiate_len _ _ _⟩)
/-- What holds while bytes are fed: 'k' of them are behind. -/
structure FeedI (X : Telnet) (u : Str) (k : Int) (t : Telnet) (x y : Str) : Prop where
  k0 : 0 ≤ k
  k1 : k ≤ u.length
  sub : t.sub.length ≤ 16
  xl : (x.length : Int) ≤ k
  yl : (y.length : Int) ≤ 3 * k
  e1 : (X.feed u).1 = (t.feed (u.drop k.toNat)).1
  e2 : (X.feed u).2.1 = x ++ (t.feed (u.drop k.toNat)).2.1
  e3 : (X.feed u).2.2 = y ++ (t.feed (u.drop k.toNat)).2.2
theorem drop_getD {u : Str} {k : Int} (h0 : 0 ≤ k) (h1 : k < u.length) : u.drop k.toNat = u.getD k.toNat 0 :: u.drop (k + 1).toNat := by
  have hk : k.toNat < u.length := by omega
  rw [List.drop_eq_getElem_cons hk, show (k + 1).toNat = k.toNat + 1 by omega]
  simp [List.getD, hk]
theorem FeedI.start {X : Telnet} {u : Str} (h : X.sub.length ≤ 16) : FeedI X u 0 X [] [] := ⟨by omega, by omega, h, by simp, by simp, rfl, rfl, rfl⟩
theorem FeedI.next {X t t' : Telnet} {u x y x' y' : Str} {k : Int} (h : FeedI X u k t x y) (hk : k < u.length) (ht : t' = (t.step (u.getD k.toNat 0)).1) (hx : x' = x ++ (t.step (u.getD k.toNat 0)).2.1) (hy : y' = y ++ (t.step (u.getD k.toNat 0)).2.2) : FeedI X u (k + 1) t' x' y' := by
  have hd := drop_getD h.k0 hk
  have hl := step_len t (u.getD k.toNat 0)
  have h1 := h.xl
  have h2 := h.yl
  have h0 := h.k0
  subst ht; subst hx; subst hy
  refine ⟨by omega, by omega, step_sub _ _ h.sub, by simp only [List.length_append]; omega, by simp only [List.length_append]; omega, ?_, ?_, ?_⟩
  · rw [h.e1, hd]; rfl
  · rw [h.e2, hd, List.append_assoc]; rfl
  · rw [h.e3, hd, List.append_assoc]; rfl
theorem FeedI.done {X t : Telnet} {u x y : Str} {k : Int} (h : FeedI X u k t x y) (hk : ¬ k < u.length) : X.feed u = (t, x, y) := by
  have h1 := h.k1
  have hk' : k.toNat = u.length := by omega
  have e1 := h.e1
  have e2 := h.e2
  have e3 := h.e3
  rw [hk', List.drop_length] at e1 e2 e3
  simp only [feed, List.append_nil] at e1 e2 e3
  rw [← e1, ← e2, ← e3]
theorem good_sub {t : Telnet} (h : t.good = true) : t.sub.length ≤ 16 := by
  simp only [good, goodA, Bool.and_eq_true, decide_eq_true_eq] at h
  omega
def bytesOf (xs : List Int) : Str := xs.map u8
theorem getD_mem {xs : List Int} {k : Nat} (h : k < xs.length) : xs.getD k 0 ∈ xs := by
  simp [List.getD, h]
theorem bytesOf_drop {xs : List Int} {k : Int} (h0 : 0 ≤ k) (h1 : k < xs.length) : bytesOf (xs.drop k.toNat) = [u8 (xs.getD k.toNat 0)] ++ bytesOf (xs.drop (k + 1).toNat) := by
  have hk : k.toNat < xs.length := by omega
  rw [List.drop_eq_getElem_cons hk, show (k + 1).toNat = k.toNat + 1 by omega]
  show u8 _ :: _ = u8 _ :: _
  simp [List.getD, hk, bytesOf]
def badOptR (t : Telnet) (i : Int) : Bool := decide (t.us.at i < 0) || decide (2 < t.us.at i) || decide (t.them.at i < 0) || decide (2 < t.them.at i)
def refGoodA (t : Telnet) : Bool :=
  if (!decide (t.us.at 2 = 0) || !decide (t.them.at 0 = 0) || decide (t.height < 0) || decide (200 < t.height) || decide (16 < (t.sub.length : Int))) = true then false
  else if decide (t.at_ = 0) = true then decide (t.verb = 0) && decide (t.sub = [])
  else if decide (t.at_ = 1) = true then decide (t.verb = 0) && decide (t.sub = [])
  else if decide (t.at_ = 2) = true then decide (251 ≤ t.verb) && decide (t.verb ≤ 254) && decide (t.sub = [])
  else if decide (t.at_ = 3) = true then decide (t.verb = 0)
  else if decide (t.at_ = 4) = true then decide (t.verb = 0)
  else false
def refGood (t : Telnet) : Bool := allFrom 3 (fun i => !t.badOptR i) 3 && t.refGoodA
theorem refGood_eq (t : Telnet) : t.refGood = t.good := by
  unfold refGood good
  congr 1
  rw [Bool.eq_iff_iff]
  unfold refGoodA goodA
  repeat' split
  all_goals simp_all
  all_goals omega
end Telnet
end Go.Ing
/- The plain laws of the telnet codec. -/
namespace Go.Ing
open Go
theorem at_put {α : Type} [Inhabited α] {n : Nat} (v : Vector α n) (k i : Int) (x : α) (hk : 0 ≤ k) (hk' : k < n) (hi : 0 ≤ i) : (v.put k x).at i = if i = k then x else v.at i := by
  simp only [Vector.at, Vector.put, Vector.toList_setIfInBounds, List.getD_eq_getElem?_getD, List.getElem?_set, Vector.length_toList]
  by_cases h : k.toNat = i.toNat
  · rw [if_pos h, if_pos (by omega), if_pos (by omega)]; rfl
  · rw [if_neg h, if_neg (by omega)]
namespace Telnet
theorem feed_append (t : Telnet) (a b : Str) : t.feed (a ++ b) = (((t.feed a).1.feed b).1, (t.feed a).2.1 ++ ((t.feed a).1.feed b).2.1, (t.feed a).2.2 ++ ((t.feed a).1.feed b).2.2) := by
  induction a generalizing t with
  | nil => simp [feed]
  | cons c a ih => simp only [List.cons_append, feed, ih, List.append_assoc]
def okA (t : Telnet) : Prop := (0 ≤ t.us.at 0 ∧ t.us.at 0 ≤ 2 ∧ 0 ≤ t.us.at 1 ∧ t.us.at 1 ≤ 2 ∧ t.us.at 2 = 0) ∧ (t.them.at 0 = 0 ∧ 0 ≤ t.them.at 1 ∧ t.them.at 1 ≤ 2 ∧ 0 ≤ t.them.at 2 ∧ t.them.at 2 ≤ 2)
def okB (t : Telnet) : Prop := 0 ≤ t.at_ ∧ t.at_ ≤ 4 ∧ (t.at_ = 2 ↔ t.verb ≠ 0) ∧ (t.verb = 0 ∨ 251 ≤ t.verb ∧ t.verb ≤ 254) ∧ t.sub.length ≤ 16 ∧ (3 ≤ t.at_ ∨ t.sub = []) ∧ 0 ≤ t.height ∧ t.height ≤ 200
theorem good_iff (t : Telnet) : t.good = true ↔ t.okA ∧ t.okB := by
  have e : t.goodA = true ↔ t.okB := by
    simp only [goodA, okB, Bool.and_eq_true, decide_eq_true_eq, Bool.or_eq_true, beq_iff_eq]
    have : (decide (t.at_ = 2) = !decide (t.verb = 0)) ↔ (t.at_ = 2 ↔ t.verb ≠ 0) := by
      by_cases h1 : t.at_ = 2 <;> by_cases h2 : t.verb = 0 <;> simp [h1, h2]
    rw [this]
    constructor
    · rintro ⟨⟨⟨⟨⟨⟨⟨h1, h2⟩, h3⟩, h4⟩, h5⟩, h6⟩, h7⟩, h8⟩; exact ⟨h1, h2, h3, h4, by omega, h6, h7, h8⟩
    · rintro ⟨h1, h2, h3, h4, h5, h6, h7, h8⟩; exact ⟨⟨⟨⟨⟨⟨⟨h1, h2⟩, h3⟩, h4⟩, by omega⟩, h6⟩, h7⟩, h8⟩
  rw [← e]
  simp only [good, allFrom, badOpt, okA, Bool.and_eq_true]
  simp
  generalize t.goodA = g
  constructor
  · intro h; exact ⟨by omega, h.2.2⟩
  · intro h; exact ⟨by omega, by omega, h.2⟩
theorem negotiate_same (t : Telnet) (v o : Int) : (t.negotiate v o).1.at_ = t.at_ ∧ (t.negotiate v o).1.verb = t.verb ∧ (t.negotiate v o).1.sub = t.sub ∧ (t.negotiate v o).1.height = t.height := by
  unfold negotiate; dsimp only
  repeat' split
  all_goals exact ⟨rfl, rfl, rfl, rfl⟩
theorem onI_le (b : Bool) : 0 ≤ onI b ∧ onI b ≤ 2 := by cases b <;> decide
theorem turnUs_ok {t : Telnet} (h : t.okA) {o : Int} (b : Bool) (hp : (place o).2.1 = true) : (t.turnUs (place o).1 b).okA := by
  obtain ⟨⟨h1, h2, h3, h4, h5⟩, h6⟩ := h
  have hb := onI_le b
  refine ⟨?_, h6⟩
  show 0 ≤ (t.us.put _ _).at 0 ∧ (t.us.put _ _).at 0 ≤ 2 ∧ 0 ≤ (t.us.put _ _).at 1 ∧ (t.us.put _ _).at 1 ≤ 2 ∧ (t.us.put _ _).at 2 = 0
  rcases place_us hp with ⟨_, e⟩ | ⟨_, e⟩ <;> rw [e] <;> simp [at_put] <;> omega
theorem turnThem_ok {t : Telnet} (h : t.okA) {o : Int} (b : Bool) (hp : (place o).2.2 = true) : (t.turnThem (place o).1 b).okA := by
  obtain ⟨h6, ⟨h1, h2, h3, h4, h5⟩⟩ := h
  have hb := onI_le b
  refine ⟨h6, ?_⟩
  show (t.them.put _ _).at 0 = 0 ∧ 0 ≤ (t.them.put _ _).at 1 ∧ (t.them.put _ _).at 1 ≤ 2 ∧ 0 ≤ (t.them.put _ _).at 2 ∧ (t.them.put _ _).at 2 ≤ 2
  rcases place_them hp with ⟨_, e⟩ | ⟨_, e⟩ <;> rw [e] <;> simp [at_put] <;> omega
theorem negotiate_ok {t : Telnet} (h : t.okA) (v o : Int) : (t.negotiate v o).1.okA := by
  unfold negotiate; dsimp only
  repeat' split
  all_goals first | exact h | (rename_i hp; exact turnUs_ok h _ (by simpa using hp)) | (rename_i hp; exact turnThem_ok h _ (by simpa using hp))
theorem collect_ok {t : Telnet} (h : t.okA) (b : UInt8) : (t.collect b).okA := by
  unfold collect; split <;> exact h
theorem collect_same (t : Telnet) (b : UInt8) : (t.collect b).at_ = t.at_ ∧ (t.collect b).verb = t.verb ∧ (t.collect b).height = t.height := by
  unfold collect; split <;> exact ⟨rfl, rfl, rfl⟩
theorem measure_ok {t : Telnet} (h : t.okA) : t.measure.okA := by
  unfold measure; split <;> exact h
theorem byteAt_le (s : Str) (i : Int) : 0 ≤ byteAt s i ∧ byteAt s i ≤ 255 := by
  have := (s.getD i.toNat 0).toNat_lt
  unfold byteAt; omega
theorem measure_same (t : Telnet) (h : 0 ≤ t.height ∧ t.height ≤ 200) : t.measure.at_ = t.at_ ∧ t.measure.verb = t.verb ∧ 0 ≤ t.measure.height ∧ t.measure.height ≤ 200 := by
  unfold measure
  split
  · refine ⟨rfl, rfl, ?_, ?_⟩
    · have h1 := byteAt_le t.sub 3; have h2 := byteAt_le t.sub 4
      show 0 ≤ min _ _; omega
    · show min _ _ ≤ 200; omega
  · exact ⟨rfl, rfl, h⟩
theorem step_good {t : Telnet} (h : t.good = true) (b : UInt8) : (t.step b).1.good = true := by
  rw [good_iff] at h ⊢
  obtain ⟨hA, h1, h2, h3, h4, h5, h6, h7, h8⟩ := h
  have hb := b.toNat_lt
  unfold step; dsimp only
  repeat' split
  all_goals simp only [decide_eq_true_eq] at *
  · exact ⟨hA, by unfold okB; dsimp only; exact ⟨by omega, by omega, by omega, by omega, h5, h6.imp (by omega) id, h7, h8⟩⟩
  · exact ⟨hA, h1, h2, h3, h4, h5, h6, h7, h8⟩
  · exact ⟨hA, by unfold okB; dsimp only; exact ⟨by omega, by omega, by omega, by omega, h5, h6.imp (by omega) id, h7, h8⟩⟩
  · exact ⟨hA, by unfold okB; dsimp only; exact ⟨by omega, by omega, by omega, by omega, h5, .inl (by omega), h7, h8⟩⟩
  · exact ⟨hA, by unfold okB; dsimp only; exact ⟨by omega, by omega, by omega, by omega, h5, h6.imp (by omega) id, h7, h8⟩⟩
  · exact ⟨hA, by unfold okB; dsimp only; exact ⟨by omega, by omega, by omega, by omega, h5, h6.imp (by omega) id, h7, h8⟩⟩
  · obtain ⟨n1, n2, n3, n4⟩ := negotiate_same t t.verb (b.toNat : Int)
    refine ⟨negotiate_ok hA _ _, ?_⟩
    unfold okB; dsimp only
    rw [n3, n4]
    exact ⟨by omega, by omega, by omega, by omega, h5, h6.imp (by omega) id, h7, h8⟩
  · exact ⟨hA, by unfold okB; dsimp only; exact ⟨by omega, by omega, by omega, by omega, h5, .inl (by omega), h7, h8⟩⟩
  · obtain ⟨n1, n2, n3⟩ := collect_same t b
    refine ⟨collect_ok hA _, ?_⟩
    unfold okB
    rw [n1, n2, n3]
    exact ⟨by omega, by omega, by omega, by omega, collect_sub _ _ h5, .inl (by omega), h7, h8⟩
  · obtain ⟨n1, n2, n3⟩ := collect_same { t with at_ := 3 } b
    refine ⟨collect_ok (t := { t with at_ := 3 }) hA _, ?_⟩
    unfold okB
    rw [n1, n2, n3]
    exact ⟨by show (0 : Int) ≤ 3; decide, by show (3 : Int) ≤ 4; decide, by simp; omega, by simp; omega, collect_sub _ _ h5, .inl (by show (3 : Int) ≤ 3; decide), h7, h8⟩
  · obtain ⟨n1, n2, n3⟩ := measure_same t ⟨h7, h8⟩
    refine ⟨measure_ok hA, ?_⟩
    unfold okB; dsimp only
    exact ⟨by omega, by omega, by omega, by omega, by simp, .inr rfl, n3⟩
  · exact ⟨hA, by unfold okB; dsimp only; exact ⟨by omega, by omega, by omega, by omega, by simp, .inr rfl, h7, h8⟩⟩
  · exact ⟨hA, h1, h2, h3, h4, h5, h6, h7, h8⟩
theorem feed_good (u : Str) : ∀ {t : Telnet}, t.good = true → (t.feed u).1.good = true := by
  induction u with
  | nil => intro t h; exact h
  | cons b u ih => intro t h; exact ih (step_good h b)
theorem parts_ok (X : Telnet) (a b : Str) (h : (!decide ((X.Feed a).2.2.2 = 0) || !true) = false) :
    (decide (((X.Feed a).1.Feed b).2.2.2 = 0) && decide ((X.Feed (a ++ b)).2.2.2 = 0) && decide (((X.Feed a).1.Feed b).1 = (X.Feed (a ++ b)).1) && decide ((X.Feed a).2.1 ++ ((X.Feed a).1.Feed b).2.1 = (X.Feed (a ++ b)).2.1) && decide ((X.Feed a).2.2.1 ++ ((X.Feed a).1.Feed b).2.2.1 = (X.Feed (a ++ b)).2.2.1) && (X.Feed (a ++ b)).1.good) = true := by
  cases hg : X.good with
  | false => simp [Feed, hg] at h
  | true =>
    have h1 : ∀ u, X.Feed u = ((X.feed u).1, (X.feed u).2.1, (X.feed u).2.2, 0) := fun u => by simp [Feed, hg]
    have h2 : ∀ v, (X.feed a).1.Feed v = (((X.feed a).1.feed v).1, ((X.feed a).1.feed v).2.1, ((X.feed a).1.feed v).2.2, 0) := fun v => by simp [Feed, feed_good a hg]
    have h3 := feed_good (a ++ b) hg
    simp only [h1, h2]
    rw [h3]
    simp [feed_append]
theorem parts_bad (X : Telnet) (a b : Str) (h : (!decide ((X.Feed a).2.2.2 = 0) || !true) = true) :
    (decide ((X.Feed a).2.2.2 = 2) && decide ((X.Feed a).2.1 = []) && decide ((X.Feed a).2.2.1 = []) && true) = true := by
  cases hg : X.good with
  | false => simp [Feed, hg]
  | true => simp [Feed, hg] at h
theorem feed_len (u : Str) : ∀ t : Telnet, (t.feed u).2.1.length ≤ u.length ∧ (t.feed u).2.2.length ≤ 3 * u.length := by
  induction u with
  | nil => intro t; simp [feed]
  | cons b u ih =>
    intro t
    have h1 := step_len t b
    have h2 := ih (t.step b).1
    simp only [feed, List.length_append, List.length_cons]
    omega
theorem Feed_len (t : Telnet) (u : Str) : (t.Feed u).2.1.length ≤ u.length ∧ (t.Feed u).2.2.1.length ≤ 3 * u.length := by
  unfold Feed
  split
  · simp
  · exact feed_len u t
/-! #### the document's answer -/
def refOffer (t : Telnet) (opt : Int) : Telnet × Str × Int :=
  if (!t.refGood) = true then (t, [], 2) else if (!decide (opt = 1) && !decide (opt = 3)) = true then (t, [], 3) else if (!decide (t.us.at ((opt - 1).tdiv 2) = 0)) = true then (t, [], 0)
  else ({ t with us := t.us.put ((opt - 1).tdiv 2) 2 }, bytesOf [255, 251, opt], 0)
def askI (opt : Int) : Int := if decide (opt = 31) = true then 2 else 1
def refAsk (t : Telnet) (opt : Int) : Telnet × Str × Int :=
  if (!t.refGood) = true then (t, [], 2) else if (!decide (opt = 3) && !decide (opt = 31)) = true then (t, [], 3) else if (!decide (t.them.at (askI opt) = 0)) = true then (t, [], 0)
  else ({ t with them := t.them.put (askI opt) 2 }, bytesOf [255, 253, opt], 0)
theorem refOffer_eq (t : Telnet) (opt : Int) : t.refOffer opt = t.Offer opt := by
  unfold refOffer Offer
  rw [refGood_eq]
  by_cases h1 : opt = 1
  · subst h1; rfl
  · by_cases h3 : opt = 3
    · subst h3; rfl
    · have : (place opt).2.1 = false := by
        cases hp : (place opt).2.1 with
        | false => rfl
        | true => rcases place_us hp with ⟨h, _⟩ | ⟨h, _⟩ <;> omega
      simp [h1, h3, this]
theorem refAsk_eq (t : Telnet) (opt : Int) : t.refAsk opt = t.Ask opt := by
  unfold refAsk Ask
  rw [refGood_eq]
  by_cases h1 : opt = 3
  · subst h1; rfl
  · by_cases h3 : opt = 31
    · subst h3; rfl
    · have : (place opt).2.2 = false := by
        cases hp : (place opt).2.2 with
        | false => rfl
        | true => rcases place_them hp with ⟨h, _⟩ | ⟨h, _⟩ <;> omega
      simp [h1, h3, this]
theorem offers_ok (t : Telnet) (opt : Int) : (decide ((t.Offer opt).1 = (t.refOffer opt).1) && decide ((t.Offer opt).2.1 = (t.refOffer opt).2.1) && decide ((t.Offer opt).2.2 = (t.refOffer opt).2.2) && decide ((t.Ask opt).1 = (t.refAsk opt).1) && decide ((t.Ask opt).2.1 = (t.refAsk opt).2.1) && decide ((t.Ask opt).2.2 = (t.refAsk opt).2.2) && true) = true := by
  rw [refOffer_eq, refAsk_eq]; simp
/-! #### answers to answers come to an end -/
def ends : Nat → Telnet → Telnet → Str → Bool
  | 0, _, _, _ => false
  | n + 1, t, u, s =>
    if decide ((t.Feed s).2.2.1 = []) = true then decide ((t.Feed s).2.2.2 = 0) && true
    else if (!decide ((t.Feed s).2.2.2 = 0) || !decide ((u.Feed (t.Feed s).2.2.1).2.2.2 = 0)) = true then false
    else if decide ((u.Feed (t.Feed s).2.2.1).2.2.1 = []) = true then true
    else ends n (t.Feed s).1 (u.Feed (t.Feed s).2.2.1).1 (u.Feed (t.Feed s).2.2.1).2.2.1
def calm (t : Telnet) : Telnet := { t with at_ := 0, verb := 0, sub := [] }
theorem calm_good {t : Telnet} (h : t.good = true) : t.calm.good = true := by
  rw [good_iff] at h ⊢
  obtain ⟨hA, h1, h2, h3, h4, h5, h6, h7, h8⟩ := h
  exact ⟨hA, by unfold okB calm; exact ⟨Int.le_refl 0, (by show (0 : Int) ≤ 4; decide), (by show (0 : Int) = 2 ↔ (0 : Int) ≠ 0; decide), .inl rfl, by simp, .inr rfl, h7, h8⟩⟩
theorem step_ans {t : Telnet} (h : t.at_ ≠ 2) (b : UInt8) : (t.step b).2.2 = [] := by
  unfold step; dsimp only
  repeat' split
  all_goals simp_all
/-- What one codec makes of a verb: what it does and lets do of the option, and the verb of its answer. -/
def neg (pu pt : Bool) (v a b : Int) : Int × Int × Option Int :=
  if v = 253 then (if pu then (1, b, if a = 0 then some 251 else none) else (a, b, some 252))
  else if v = 254 then (if pu then (0, b, if a = 1 then some 252 else none) else (a, b, none))
  else if v = 251 then (if pt then (a, 1, if b = 0 then some 253 else none) else (a, b, some 254))
  else if v = 252 then (if pt then (a, 0, if b = 1 then some 254 else none) else (a, b, none))
  else (a, b, none)
def endsA (pu pt : Bool) : Nat → Int → Int → Int → Int → Int → Bool
  | 0, _, _, _, _, _ => false
  | n + 1, v, a, b, c, d =>
    match neg pu pt v a b with
    | (_, _, none) => true
    | (a', b', some w) => match neg pu pt w c d with
      | (_, _, none) => true
      | (c', d', some w') => endsA pu pt n w' a' b' c' d'
theorem endsA_fin : ∀ (pu pt : Bool) (v : Fin 4) (a b c d : Fin 3), endsA pu pt 3 (251 + (v.val : Int)) (a.val : Int) (b.val : Int) (c.val : Int) (d.val : Int) = true := by decide +kernel
theorem fin_of {n : Nat} {x : Int} (h0 : 0 ≤ x) (h1 : x < n) : ∃ f : Fin n, (f.val : Int) = x := ⟨⟨x.toNat, by omega⟩, by simp; omega⟩
theorem endsA_ok {pu pt : Bool} {v a b c d : Int} (hv : 251 ≤ v ∧ v ≤ 254) (ha : 0 ≤ a ∧ a ≤ 2) (hb : 0 ≤ b ∧ b ≤ 2) (hc : 0 ≤ c ∧ c ≤ 2) (hd : 0 ≤ d ∧ d ≤ 2) : endsA pu pt 3 v a b c d = true := by
  obtain ⟨v', e0⟩ := fin_of (n := 4) (x := v - 251) (by omega) (by omega)
  obtain ⟨a', e1⟩ := fin_of (n := 3) ha.1 (by omega)
  obtain ⟨b', e2⟩ := fin_of (n := 3) hb.1 (by omega)
  obtain ⟨c', e3⟩ := fin_of (n := 3) hc.1 (by omega)
  obtain ⟨d', e4⟩ := fin_of (n := 3) hd.1 (by omega)
  have := endsA_fin pu pt v' a' b' c' d'
  rw [e0, e1, e2, e3, e4, show 251 + (v - 251) = v by omega] at this
  exact this
theorem neg_v {pu pt : Bool} {v a b : Int} {w : Int} (h : (neg pu pt v a b).2.2 = some w) : 251 ≤ w ∧ w ≤ 254 := by
  unfold neg at h
  repeat' split at h
  all_goals first | (simp at h; omega) | (simp at h; done) | skip
  all_goals (simp at h; obtain ⟨_, rfl⟩ := h; omega)
/-- The codec stands between commands; what it does of the option. -/
structure Rest (o a b : Int) (t : Telnet) : Prop where
  at0 : t.at_ = 0
  v0 : t.verb = 0
  ok : t.good = true
  us : (place o).2.1 = true → t.us.at (place o).1 = a
  them : (place o).2.2 = true → t.them.at (place o).1 = b
theorem negotiate_at (t : Telnet) (x y v o : Int) : ({ t with at_ := x, verb := y } : Telnet).negotiate v o = ({ (t.negotiate v o).1 with at_ := x, verb := y }, (t.negotiate v o).2) := by
  unfold negotiate; dsimp only
  repeat' split
  all_goals rfl
def ansS (o : Int) : Option Int → Str
  | none => []
  | some w => say w o
theorem place_rng {o : Int} (h : (place o).2.1 = true ∨ (place o).2.2 = true) : 0 ≤ (place o).1 ∧ (place o).1 < 3 := by
  rcases h with h | h
  · rcases place_us h with ⟨_, e⟩ | ⟨_, e⟩ <;> rw [e] <;> decide
  · rcases place_them h with ⟨_, e⟩ | ⟨_, e⟩ <;> rw [e] <;> decide
theorem negotiate_neg {t : Telnet} {o a b : Int} (h : Rest o a b t) {v : Int} (hv : 251 ≤ v ∧ v ≤ 254) :
    (t.negotiate v o).2 = ansS o (neg (place o).2.1 (place o).2.2 v a b).2.2 ∧ ((place o).2.1 = true → (t.negotiate v o).1.us.at (place o).1 = (neg (place o).2.1 (place o).2.2 v a b).1) ∧ ((place o).2.2 = true → (t.negotiate v o).1.them.at (place o).1 = (neg (place o).2.1 (place o).2.2 v a b).2.1) := by
  have hu := h.us
  have ht := h.them
  have hr := @place_rng o
  have hv' : v = 251 ∨ v = 252 ∨ v = 253 ∨ v = 254 := by omega
  revert hu ht hr
  cases hp : (place o).2.1 <;> cases hq : (place o).2.2 <;> intro hu ht hr <;> rcases hv' with rfl | rfl | rfl | rfl <;>
    simp [hp, hq] at hu ht hr <;> simp [negotiate, neg, hp, hq, ansS, turnS, turnUs, turnThem, onI, hu, ht]
  all_goals first
    | done
    | (repeat' split) <;> simp_all [at_put, ansS]
theorem u8_nat (b : UInt8) : u8 (b.toNat : Int) = b := by simp [u8]
theorem negotiate_good {t : Telnet} (h : t.good = true) (v o : Int) (h0 : t.at_ = 0) (h1 : t.verb = 0) : ({ (t.negotiate v o).1 with at_ := 0, verb := 0 } : Telnet).good = true := by
  have e : ({ (t.negotiate v o).1 with at_ := 0, verb := 0 } : Telnet) = (t.negotiate v o).1 := by
    obtain ⟨n1, n2, _⟩ := negotiate_same t v o
    rw [h0] at n1; rw [h1] at n2
    revert n1 n2
    generalize (t.negotiate v o).1 = z
    intro n1 n2
    cases z; simp_all
  rw [e]
  rw [good_iff] at h ⊢
  obtain ⟨n1, n2, n3, n4⟩ := negotiate_same t v o
  exact ⟨negotiate_ok h.1 v o, by unfold okB; rw [n1, n2, n3, n4]; exact h.2⟩
theorem feed_cmd {t : Telnet} {v : Int} {o : UInt8} (hv : 251 ≤ v ∧ v ≤ 254) (h0 : t.at_ = 0) : t.feed (say v (o.toNat : Int)) = ({ (t.negotiate v (o.toNat : Int)).1 with at_ := 0, verb := 0 }, [], (t.negotiate v (o.toNat : Int)).2) := by
  have e1 : t.step 255 = ({ t with at_ := 1 }, [], []) := by simp [step, h0]
  have ev := u8_val (n := v) (by omega) (by omega)
  have e2 : ({ t with at_ := 1 } : Telnet).step (u8 v) = ({ t with at_ := 2, verb := v }, [], []) := by
    have h1 : ¬ v = 255 := by omega
    have h2 : ¬ v = 250 := by omega
    simp [step, ev, h1, h2, hv.1]
  have e3 : ({ t with at_ := 2, verb := v } : Telnet).step o = ({ (t.negotiate v (o.toNat : Int)).1 with at_ := 0, verb := 0 }, [], (t.negotiate v (o.toNat : Int)).2) := by
    have := negotiate_at t 2 v v (o.toNat : Int)
    simp [step, this]
  simp only [say, u8_nat, feed, e1, e2, e3, List.append_nil, List.nil_append]
theorem Rest.feed {t : Telnet} {o : UInt8} {a b v : Int} (h : Rest (o.toNat : Int) a b t) (hv : 251 ≤ v ∧ v ≤ 254) :
    ∃ t', t.Feed (say v (o.toNat : Int)) = (t', [], ansS (o.toNat : Int) (neg (place (o.toNat : Int)).2.1 (place (o.toNat : Int)).2.2 v a b).2.2, 0) ∧ Rest (o.toNat : Int) (neg (place (o.toNat : Int)).2.1 (place (o.toNat : Int)).2.2 v a b).1 (neg (place (o.toNat : Int)).2.1 (place (o.toNat : Int)).2.2 v a b).2.1 t' := by
  obtain ⟨n1, n2, n3⟩ := negotiate_neg h hv
  refine ⟨{ (t.negotiate v (o.toNat : Int)).1 with at_ := 0, verb := 0 }, ?_, ?_⟩
  · simp [Feed, h.ok, feed_cmd hv h.at0, n1]
  · exact ⟨rfl, rfl, negotiate_good h.ok _ _ h.at0 h.v0, n2, n3⟩
theorem say_ne (w o : Int) : say w o ≠ [] := by simp [say]
theorem ends_sim (o : UInt8) : ∀ (n : Nat) (t u : Telnet) (v a b c d : Int), 251 ≤ v ∧ v ≤ 254 → Rest (o.toNat : Int) a b t → Rest (o.toNat : Int) c d u → ends n t u (say v (o.toNat : Int)) = endsA (place (o.toNat : Int)).2.1 (place (o.toNat : Int)).2.2 n v a b c d := by
  intro n
  induction n with
  | zero => intros; rfl
  | succ n ih =>
    intro t u v a b c d hv ht hu
    obtain ⟨t', e1, r1⟩ := ht.feed hv
    unfold ends endsA
    rw [e1]
    have hw := @neg_v (place (o.toNat : Int)).2.1 (place (o.toNat : Int)).2.2 v a b
    revert r1 hw
    generalize neg (place (o.toNat : Int)).2.1 (place (o.toNat : Int)).2.2 v a b = x
    obtain ⟨a', b', w⟩ := x
    intro r1 hw
    cases w with
    | none => simp [ansS]
    | some w =>
      have hw' := hw rfl
      obtain ⟨u', e2, r2⟩ := hu.feed hw'
      simp only [ansS, say_ne, decide_false, Bool.false_eq_true, if_false, e2]
      have hw2 := @neg_v (place (o.toNat : Int)).2.1 (place (o.toNat : Int)).2.2 w c d
      revert r2 hw2
      generalize neg (place (o.toNat : Int)).2.1 (place (o.toNat : Int)).2.2 w c d = y
      obtain ⟨c', d', w2⟩ := y
      intro r2 hw2
      cases w2 with
      | none => simp [ansS]
      | some w2 => simpa [ansS, say_ne] using ih t' u' w2 a' b' c' d' (hw2 rfl) r1 r2
theorem ends_quiet {t u : Telnet} {v o : UInt8} (n : Nat) (hg : t.good = true) (h0 : t.at_ = 0) (hv : ¬ (251 ≤ (v.toNat : Int) ∧ (v.toNat : Int) ≤ 254)) : ends (n + 1) t u [255, v, o] = true := by
  have e1 : t.step 255 = ({ t with at_ := 1 }, [], []) := by simp [step, h0]
  have e2 : (({ t with at_ := 1 } : Telnet).step v).2.2 = [] ∧ (({ t with at_ := 1 } : Telnet).step v).1.at_ ≠ 2 := by
    have := v.toNat_lt
    unfold step; dsimp only
    repeat' split
    all_goals first | exact ⟨rfl, (by show (0 : Int) ≠ 2; decide)⟩ | exact ⟨rfl, (by show (3 : Int) ≠ 2; decide)⟩ | (exfalso; simp_all; done) | (exfalso; simp only [decide_eq_true_eq] at *; omega)
  have e3 := step_ans e2.2 o
  have : (t.feed [255, v, o]).2.2 = [] := by simp only [feed, e1, e2.1, e3, List.append_nil]
  unfold ends
  simp [Feed, hg, this]
theorem say_bytes {v : UInt8} (o : UInt8) : say (v.toNat : Int) (o.toNat : Int) = [255, v, o] := by simp [say, u8_nat]
theorem ends_ok {X Y : Telnet} (hX : X.good = true) (hY : Y.good = true) (v o : UInt8) : ends 3 X.calm Y.calm [255, v, o] = true := by
  by_cases hv : 251 ≤ (v.toNat : Int) ∧ (v.toNat : Int) ≤ 254
  · rw [← say_bytes]
    have rng : ∀ Z : Telnet, Z.good = true → ∃ a b, Rest (o.toNat : Int) a b Z.calm ∧ (0 ≤ a ∧ a ≤ 2) ∧ (0 ≤ b ∧ b ≤ 2) := fun Z hZ => by
      have hA := ((good_iff Z).1 hZ).1
      obtain ⟨⟨h1, h2, h3, h4, h5⟩, h6, h7, h8, h9, h10⟩ := hA
      refine ⟨if (place (o.toNat : Int)).2.1 = true then Z.us.at (place (o.toNat : Int)).1 else 0, if (place (o.toNat : Int)).2.2 = true then Z.them.at (place (o.toNat : Int)).1 else 0, ⟨rfl, rfl, calm_good hZ, fun h => by rw [if_pos h]; rfl, fun h => by rw [if_pos h]; rfl⟩, ?_, ?_⟩
      · split
        · rename_i h; rcases place_us h with ⟨_, e⟩ | ⟨_, e⟩ <;> rw [e] <;> exact ⟨by assumption, by assumption⟩
        · omega
      · split
        · rename_i h; rcases place_them h with ⟨_, e⟩ | ⟨_, e⟩ <;> rw [e] <;> exact ⟨by assumption, by assumption⟩
        · omega
    obtain ⟨a, b, r1, ha, hb⟩ := rng X hX
    obtain ⟨c, d, r2, hc, hd⟩ := rng Y hY
    rw [ends_sim o 3 _ _ _ a b c d hv r1 r2]
    exact endsA_ok hv ha hb hc hd
  · exact ends_quiet 2 (calm_good hX) rfl hv
theorem pow_bd {k : Int} {n : Nat} (h0 : 0 ≤ k) (h1 : k < 3) (h : n ≤ 3 * 9 ^ k.toNat) : n ≤ 243 := by
  have : k = 0 ∨ k = 1 ∨ k = 2 := by omega
  rcases this with rfl | rfl | rfl <;> simp at h <;> omega
theorem pow_next {k : Int} {a b c : Nat} (h0 : 0 ≤ k) (h : a ≤ 3 * 9 ^ k.toNat) (h1 : b ≤ 3 * a) (h2 : c ≤ 3 * b) : c ≤ 3 * 9 ^ (k + 1).toNat := by
  rw [show (k + 1).toNat = k.toNat + 1 by omega, Nat.pow_succ]
  omega
theorem u8_ex {n : Int} (h0 : 0 ≤ n) (h1 : n ≤ 255) : ∃ b : UInt8, n = (b.toNat : Int) := ⟨u8 n, (u8_val h0 h1).symm⟩
end Telnet
end Go.Ing
/- The plain functions of lines. -/
namespace Go.Ing
open Go
theorem PS_conv {P : Program} {n : Nat} {w0 : World} {M : List Nat} {F : List (Nat × Value)} {L : List Res} {op : Op} {T : TypeId} {v v' : Value} (h : PS P n w0 M op T F L v L) (e : v = v') : PS P n w0 M op T F L v' L := e ▸ h
namespace Line
def plainB (b : UInt8) : Bool := decide (32 ≤ (b.toNat : Int)) && decide ((b.toNat : Int) < 127)
def strOk (s : Str) : Bool := !decide (60 < (s.length : Int)) && s.all plainB
def badHead (l : LineV) : Bool := decide (60 < (l.now.length : Int)) || decide (6 < (l.queue.len : Int)) || (l.long && decide (60 < (l.now.length : Int))) || (l.ret && (!decide (l.now = []) || l.long))
def good (l : LineV) (qs : List Str) : Bool := !badHead l && (qs ++ [l.now]).all strOk
/-- A line's bytes as they come: what it is, how many found no room. -/
structure S where
  now : Str
  long : Bool
  ret : Bool
  queue : List Str
  lost : Int
  deriving DecidableEq
def step (x : S) (b : UInt8) : S :=
  let c : Int := (b.toNat : Int)
  if (x.ret && (decide (c = 10) || decide (c = 0))) = true then { x with ret := false }
  else if (decide (c = 13) || decide (c = 10)) = true then
    (if decide ((x.queue.length : Int) < 6) = true then { x with queue := x.queue ++ [x.now], now := [], long := false, ret := decide (c = 13) } else { x with lost := x.lost + 1, now := [], long := false, ret := decide (c = 13) })
  else if (decide (c = 8) || decide (c = 127)) = true then (if decide (0 < (x.now.length : Int)) = true then { x with now := x.now.take ((x.now.length : Int) - 1).toNat, ret := false } else { x with ret := false })
  else if (!plainB b) = true then { x with ret := false }
  else if decide (60 ≤ (x.now.length : Int)) = true then { x with long := true, ret := false }
  else { x with now := x.now ++ [b], ret := false }
def feed (x : S) (s : Str) : S := s.foldl step x
def start (l : LineV) (qs : List Str) : S := ⟨l.now, l.long, l.ret, qs, 0⟩
/-- What holds while bytes are read. -/
structure I (x0 : S) (u : Str) (k : Int) (x : S) : Prop where
  k0 : 0 ≤ k
  k1 : k ≤ u.length
  now : x.now.length ≤ 60
  queue : x.queue.length ≤ 6
  lost : 0 ≤ x.lost ∧ x.lost ≤ k
  e : feed x0 u = feed x (u.drop k.toNat)
theorem step_now {x : S} (b : UInt8) (h : x.now.length ≤ 60) : (step x b).now.length ≤ 60 := by
  unfold step; dsimp only
  repeat' split
  all_goals first | exact h | (simp; done) | (simp; omega) | (rename_i h1 _; simp at *; omega) | skip
  all_goals simp_all
  all_goals omega
theorem step_queue {x : S} (b : UInt8) (h : x.queue.length ≤ 6) : (step x b).queue.length ≤ 6 := by
  unfold step; dsimp only
  repeat' split
  all_goals first | exact h | (simp at *; omega)
theorem step_lost (x : S) (b : UInt8) : x.lost ≤ (step x b).lost ∧ (step x b).lost ≤ x.lost + 1 := by
  unfold step; dsimp only
  repeat' split
  all_goals (constructor <;> dsimp only <;> omega)
theorem I.start {x : S} {u : Str} (h1 : x.now.length ≤ 60) (h2 : x.queue.length ≤ 6) (h3 : x.lost = 0) : I x u 0 x := ⟨by omega, by omega, h1, h2, by omega, rfl⟩
theorem I.next {x0 x : S} {u : Str} {k : Int} (h : I x0 u k x) (hk : k < u.length) {now : Str} {long ret : Bool} {queue : List Str} {lost : Int} (hs : step x (u.getD k.toNat 0) = ⟨now, long, ret, queue, lost⟩) : I x0 u (k + 1) ⟨now, long, ret, queue, lost⟩ := by
  have h0 := h.k0
  have hk' : k.toNat < u.length := by omega
  have hd : u.drop k.toNat = u.getD k.toNat 0 :: u.drop (k + 1).toNat := by
    rw [List.drop_eq_getElem_cons hk', show (k + 1).toNat = k.toNat + 1 by omega]
    simp [List.getD, hk']
  have hl := step_lost x (u.getD k.toNat 0)
  have hl' := h.lost
  have hn := step_now (u.getD k.toNat 0) h.now
  have hq := step_queue (u.getD k.toNat 0) h.queue
  rw [hs] at hl hn hq
  refine ⟨by omega, by omega, hn, hq, by dsimp only at *; omega, ?_⟩
  rw [h.e, hd, ← hs]; rfl
theorem I.done {x0 x : S} {u : Str} {k : Int} (h : I x0 u k x) (hk : ¬ k < u.length) : feed x0 u = x := by
  have h1 := h.k1
  have hk' : k.toNat = u.length := by omega
  rw [h.e, hk', List.drop_length]; rfl
theorem good_head {l : LineV} {qs : List Str} (h : good l qs = true) : l.now.length ≤ 60 ∧ l.queue.len ≤ 6 := by
  simp only [good, badHead, Bool.and_eq_true, Bool.not_eq_true', Bool.or_eq_false_iff, decide_eq_false_iff_not] at h
  omega
theorem all_drop {α : Type} {p : α → Bool} {xs : List α} {k : Int} {d : α} (h0 : 0 ≤ k) (h1 : k < xs.length) : (xs.drop k.toNat).all p = (p (xs.getD k.toNat d) && (xs.drop (k + 1).toNat).all p) := by
  have hk' : k.toNat < xs.length := by omega
  rw [List.drop_eq_getElem_cons hk', show (k + 1).toNat = k.toNat + 1 by omega, List.all_cons]
  simp [List.getD, hk']
/-! #### what is said of lines -/
structure Ok (x : S) : Prop where
  now : strOk x.now = true
  queue : ∀ s ∈ x.queue, strOk s = true
  len : x.queue.length ≤ 6
  ret : x.ret = true → x.now = [] ∧ x.long = false
theorem strOk_iff (s : Str) : strOk s = true ↔ s.length ≤ 60 ∧ ∀ b ∈ s, plainB b = true := by
  simp only [strOk, Bool.and_eq_true, Bool.not_eq_true', decide_eq_false_iff_not, List.all_eq_true]
  constructor
  · rintro ⟨h1, h2⟩; exact ⟨by omega, h2⟩
  · rintro ⟨h1, h2⟩; exact ⟨by omega, h2⟩
theorem strOk_nil : strOk [] = true := rfl
theorem good_iff {l : LineV} {qs : List Str} (hl : l.queue.len = qs.length) : good l qs = true ↔ Ok (start l qs) := by
  simp only [good, badHead, Bool.and_eq_true, Bool.not_eq_true', Bool.or_eq_false_iff, decide_eq_false_iff_not, List.all_append, List.all_cons, List.all_nil, Bool.and_true, List.all_eq_true]
  constructor
  · rintro ⟨⟨⟨⟨h1, h2⟩, h3⟩, h4⟩, h5, h6⟩
    refine ⟨h6, h5, by show qs.length ≤ 6; omega, fun h => ?_⟩
    have h : l.ret = true := h
    rw [h] at h4
    simp at h4
    exact h4
  · rintro ⟨h1, h2, h3, h4⟩
    have h3 : qs.length ≤ 6 := h3
    have h5 := ((strOk_iff _).1 h1).1
    have h5 : l.now.length ≤ 60 := h5
    refine ⟨⟨⟨⟨by omega, by omega⟩, ?_⟩, ?_⟩, h2, h1⟩
    · cases l.long <;> simp; omega
    · have h4 : l.ret = true → l.now = [] ∧ l.long = false := h4
      cases hr : l.ret with
      | false => rfl
      | true => obtain ⟨a, b⟩ := h4 hr; simp [a, b]
theorem step_ok {x : S} (h : Ok x) (b : UInt8) : Ok (step x b) := by
  obtain ⟨h1, h2, h3, h4⟩ := h
  have h1' := (strOk_iff _).1 h1
  unfold step; dsimp only
  repeat' split
  all_goals try simp only [decide_eq_true_eq, Bool.not_eq_true', Bool.or_eq_true] at *
  · exact ⟨h1, h2, h3, fun h => by cases h⟩
  · rename_i hq
    refine ⟨strOk_nil, fun s hs => ?_, by show (x.queue ++ [x.now]).length ≤ 6; rw [List.length_append, List.length_singleton]; omega, fun _ => ⟨rfl, rfl⟩⟩
    rcases List.mem_append.1 hs with hs | hs
    · exact h2 s hs
    · simp at hs; subst hs; exact h1
  · exact ⟨strOk_nil, h2, h3, fun _ => ⟨rfl, rfl⟩⟩
  · refine ⟨(strOk_iff _).2 ⟨?_, fun c hc => h1'.2 c (List.mem_of_mem_take hc)⟩, h2, h3, fun h => by cases h⟩
    have := h1'.1
    show (x.now.take _).length ≤ 60
    rw [List.length_take]; omega
  · exact ⟨h1, h2, h3, fun h => by cases h⟩
  · exact ⟨h1, h2, h3, fun h => by cases h⟩
  · exact ⟨h1, h2, h3, fun h => by cases h⟩
  · rename_i hp hl
    refine ⟨(strOk_iff _).2 ⟨by show (x.now ++ [b]).length ≤ 60; rw [List.length_append, List.length_singleton]; omega, fun c hc => ?_⟩, h2, h3, fun h => by cases h⟩
    rcases List.mem_append.1 hc with hc | hc
    · exact h1'.2 c hc
    · simp at hc; subst hc; simpa using hp
theorem feed_ok (u : Str) : ∀ {x : S}, Ok x → Ok (feed x u) := by
  induction u with
  | nil => intro x h; exact h
  | cons b u ih => intro x h; exact ih (step_ok h b)
theorem feed_append (x : S) (a b : Str) : feed x (a ++ b) = feed (feed x a) b := List.foldl_append ..
/-- The lost are only counted. -/
def more (x : S) (d : Int) : S := { x with lost := x.lost + d }
theorem step_more (x : S) (d : Int) (b : UInt8) : step (more x d) b = more (step x b) d := by
  unfold step more; dsimp only
  repeat' split
  all_goals first | rfl | (simp; omega) | (exfalso; simp_all; done) | skip
theorem feed_more (u : Str) : ∀ (x : S) (d : Int), feed (more x d) u = more (feed x u) d := by
  induction u with
  | nil => intro x d; rfl
  | cons b u ih => intro x d; show feed (step (more x d) b) u = _; rw [step_more]; exact ih _ _
/-- A line's value with its queue's header. -/
def val (x : S) (h : Hd) : LineV := ⟨x.now, x.long, x.ret, h⟩
theorem start_val (x : S) (h : Hd) : start (val x h) x.queue = { x with lost := 0 } := rfl
theorem val_good {x : S} (h : Ok x) {q : Hd} (hq : q.len = x.queue.length) : good (val x q) x.queue = true := (good_iff (l := val x q) (qs := x.queue) hq).2 ⟨h.now, h.queue, h.len, h.ret⟩
theorem start_ok {l : LineV} {qs : List Str} (h : good l qs = true) (hl : l.queue.len = qs.length) : Ok (start l qs) := (good_iff hl).1 h
theorem feed_two (x : S) (h0 : x.lost = 0) (a b : Str) : feed x (a ++ b) = more (feed { feed x a with lost := 0 } b) (feed x a).lost := by
  rw [feed_append, ← feed_more]
  congr 1
  simp [more]
theorem pickE {α : Type} {xs ys : List α} {i : Nat} (hl : xs.length = ys.length) (ht : xs.take i = ys.take i) (hi : ¬ i < xs.length) : xs = ys := by
  rw [List.take_of_length_le (by omega), List.take_of_length_le (by omega)] at ht; exact ht
theorem take_next {α : Type} {xs ys : List α} {i : Int} {d : α} (h0 : 0 ≤ i) (hl : xs.length = ys.length) (hi : i < xs.length) (ht : xs.take i.toNat = ys.take i.toNat) (he : xs.getD i.toNat d = ys.getD i.toNat d) : xs.take (i + 1).toNat = ys.take (i + 1).toNat := by
  have h1 : i.toNat < xs.length := by omega
  have h2 : i.toNat < ys.length := by omega
  rw [show (i + 1).toNat = i.toNat + 1 by omega, List.take_succ_eq_append_getElem h1, List.take_succ_eq_append_getElem h2, ht]
  simp only [List.getD, List.getElem?_eq_getElem h1, List.getElem?_eq_getElem h2, Option.getD_some] at he
  rw [he]
theorem ne_of_getD {α : Type} {xs ys : List α} {i : Nat} {d : α} (h : xs.getD i d ≠ ys.getD i d) : xs ≠ ys := fun e => h (by rw [e])
theorem cons_of {qs : List Str} (h : qs.length ≠ 0) : ∃ q r, qs = q :: r := by
  cases qs with
  | nil => simp at h
  | cons q r => exact ⟨q, r, rfl⟩
def plainK (b : UInt8) : Bool := !(decide ((b.toNat : Int) < 32) || decide (126 < (b.toNat : Int)))
def cleanK (s : Str) : Bool := s.all plainK && decide ((s.length : Int) ≤ 60)
theorem plainK_eq (b : UInt8) : plainK b = plainB b := by
  rw [Bool.eq_iff_iff]; simp [plainK, plainB]; omega
theorem cleanK_iff (s : Str) : cleanK s = true ↔ strOk s = true := by
  rw [strOk_iff]
  simp only [cleanK, Bool.and_eq_true, List.all_eq_true, decide_eq_true_eq, plainK_eq]
  constructor
  · rintro ⟨h1, h2⟩; exact ⟨by omega, h1⟩
  · rintro ⟨h1, h2⟩; exact ⟨h2, by omega⟩
theorem feed_lost (u : Str) : ∀ x : S, x.lost ≤ (feed x u).lost ∧ (feed x u).lost ≤ x.lost + u.length := by
  induction u with
  | nil => intro x; simp [feed]
  | cons b u ih =>
    intro x
    have h1 := step_lost x b
    have h2 := ih (step x b)
    show x.lost ≤ (feed (step x b) u).lost ∧ (feed (step x b) u).lost ≤ _
    rw [List.length_cons]
    omega
theorem lost_add {l l2 : LineV} {qs qs2 : List Str} {a b : Str} (hn : a.length + b.length ≤ 9000000000000000000) : -9223372036854775808 ≤ (feed (start l qs) a).lost + (feed (start l2 qs2) b).lost ∧ (feed (start l qs) a).lost + (feed (start l2 qs2) b).lost ≤ 9223372036854775807 := by
  have h1 := feed_lost a (start l qs)
  have h2 := feed_lost b (start l2 qs2)
  have e1 : (start l qs).lost = 0 := rfl
  have e2 : (start l2 qs2).lost = 0 := rfl
  omega
theorem step_q (x : S) (b : UInt8) : (step x b).queue.length ≤ max x.queue.length 6 := by
  unfold step; dsimp only
  repeat' split
  all_goals first | exact Nat.le_max_left .. | (simp only [List.length_append, List.length_singleton]; simp at *; omega)
theorem feed_q (u : Str) : ∀ x : S, (feed x u).queue.length ≤ max x.queue.length 6 := by
  induction u with
  | nil => intro x; exact Nat.le_max_left ..
  | cons b u ih =>
    intro x
    have h1 := step_q x b
    have h2 := ih (step x b)
    show (feed (step x b) u).queue.length ≤ _
    omega
theorem q_le {x : S} {u : Str} (h : x.queue.length ≤ 9223372036854775807) : (feed x u).queue.length ≤ 9223372036854775807 := by
  have := feed_q u x; omega
theorem q_good {l : LineV} {qs : List Str} (hl : l.queue.len = qs.length) (h : good l qs = true) : (start l qs).queue.length ≤ 9223372036854775807 := by
  have := (good_head h).2
  show qs.length ≤ _; omega
theorem parts_ok {l : LineV} {qs : List Str} (hl : l.queue.len = qs.length) (h : good l qs = true) (a b : Str) {q r : Hd} (hr : r.len = (feed (start l qs) (a ++ b)).queue.length) :
    (decide ((feed (start (val (feed (start l qs) a) q) (feed (start l qs) a).queue) b).now = (feed (start l qs) (a ++ b)).now) && ((feed (start (val (feed (start l qs) a) q) (feed (start l qs) a).queue) b).long == (feed (start l qs) (a ++ b)).long) && ((feed (start (val (feed (start l qs) a) q) (feed (start l qs) a).queue) b).ret == (feed (start l qs) (a ++ b)).ret) && decide ((feed (start (val (feed (start l qs) a) q) (feed (start l qs) a).queue) b).queue = (feed (start l qs) (a ++ b)).queue)) = true ∧
    (feed (start l qs) a).lost + (feed (start (val (feed (start l qs) a) q) (feed (start l qs) a).queue) b).lost = (feed (start l qs) (a ++ b)).lost ∧ good (val (feed (start l qs) (a ++ b)) r) (feed (start l qs) (a ++ b)).queue = true := by
  have e := feed_two (start l qs) rfl a b
  refine ⟨?_, ?_, val_good (feed_ok _ (start_ok h hl)) hr⟩
  · rw [e, start_val]; simp [more]
  · rw [e, start_val]; simp only [more]; omega
theorem q_start {l : LineV} {q : List Str} {u : Str} (h : q.length ≤ 9223372036854775807) : (feed (start l q) u).queue.length ≤ 9223372036854775807 := q_le h
theorem q_len {l : LineV} {qs : List Str} (hl : l.queue.len = qs.length) (h : good l qs = true) : qs.length ≤ 9223372036854775807 := q_good hl h
theorem parts_all {l : LineV} {qs : List Str} (hl : l.queue.len = qs.length) (h : good l qs = true) (a b : Str) {q q' r : Hd} (hr : r.len = (feed (start l qs) (a ++ b)).queue.length) :
    (decide ((0 : Int) = 0) && decide ((0 : Int) = 0) && (decide ((val (feed (start (val (feed (start l qs) a) q) (feed (start l qs) a).queue) b) q').now = (val (feed (start l qs) (a ++ b)) r).now) && ((val (feed (start (val (feed (start l qs) a) q) (feed (start l qs) a).queue) b) q').long == (val (feed (start l qs) (a ++ b)) r).long) && ((val (feed (start (val (feed (start l qs) a) q) (feed (start l qs) a).queue) b) q').ret == (val (feed (start l qs) (a ++ b)) r).ret) && decide ((feed (start (val (feed (start l qs) a) q) (feed (start l qs) a).queue) b).queue = (feed (start l qs) (a ++ b)).queue)) &&
    decide ((feed (start l qs) a).lost + (feed (start (val (feed (start l qs) a) q) (feed (start l qs) a).queue) b).lost = (feed (start l qs) (a ++ b)).lost) && good (val (feed (start l qs) (a ++ b)) r) (feed (start l qs) (a ++ b)).queue) = true := by
  obtain ⟨e1, e2, e3⟩ := parts_ok hl h a b (q := q) hr
  simp only [Bool.and_eq_true] at e1 ⊢
  exact ⟨⟨⟨⟨rfl, rfl⟩, e1⟩, by simpa using e2⟩, e3⟩
/-! #### text that is typed -/
theorem plain_rng {b : UInt8} (h : plainB b = true) : 32 ≤ (b.toNat : Int) ∧ (b.toNat : Int) < 127 := by
  simpa [plainB] using h
theorem step_plain {x : S} {b : UInt8} (h : plainB b = true) (hn : x.now.length < 60) : step x b = { x with now := x.now ++ [b], ret := false } := by
  have hb := plain_rng h
  have e1 : decide ((b.toNat : Int) = 10) = false := decide_eq_false (by omega)
  have e2 : decide ((b.toNat : Int) = 0) = false := decide_eq_false (by omega)
  have e3 : decide ((b.toNat : Int) = 13) = false := decide_eq_false (by omega)
  have e4 : decide ((b.toNat : Int) = 8) = false := decide_eq_false (by omega)
  have e5 : decide ((b.toNat : Int) = 127) = false := decide_eq_false (by omega)
  have e6 : decide (60 ≤ (x.now.length : Int)) = false := decide_eq_false (by omega)
  simp only [step, e1, e2, e3, e4, e5, e6, h]
  simp
theorem feed_plain (s : Str) : ∀ x : S, (∀ b ∈ s, plainB b = true) → x.now.length + s.length ≤ 60 → s ≠ [] → feed x s = { x with now := x.now ++ s, ret := false } := by
  induction s with
  | nil => intro x _ _ h; exact absurd rfl h
  | cons b s ih =>
    intro x hp hl _
    rw [List.length_cons] at hl
    show feed (step x b) s = _
    rw [step_plain (hp b (by simp)) (by omega)]
    cases s with
    | nil => rfl
    | cons c s =>
      rw [ih _ (fun d hd => hp d (by simp [hd])) (by simp at hl ⊢; omega) (by simp)]
      simp
theorem feed_cons (x : S) (b : UInt8) (s : Str) : feed x (b :: s) = feed (step x b) s := rfl
theorem feed_erase (m : Nat) : ∀ x : S, x.ret = false → feed x (List.replicate m 8) = { x with now := x.now.take (x.now.length - m) } := by
  induction m with
  | zero => intro x _; simp [feed]
  | succ m ih =>
    intro x hr
    have e : step x 8 = { x with now := x.now.take (x.now.length - 1) } := by
      have h8 : ((8 : UInt8).toNat : Int) = 8 := rfl
      simp only [step, h8, hr]
      by_cases h : 0 < (x.now.length : Int)
      · have e2 : ((x.now.length : Int) - 1).toNat = x.now.length - 1 := by omega
        simp [h, e2]
        cases x; simp_all
      · have : x.now = [] := List.length_eq_zero_iff.1 (by omega)
        cases x; simp_all
    rw [List.replicate_succ, feed_cons, e, ih _ (by exact hr)]
    simp only [List.length_take, List.take_take]
    congr 2
    omega
def emptyL : LineV := ⟨[], false, false, ⟨none, 0, 0⟩⟩
def s0 : S := start emptyL []
theorem erases {s : Str} (h : strOk s = true) (m : Nat) : feed s0 (s ++ List.replicate m 8 ++ [10]) = ⟨[], false, false, [s.take (s.length - m)], 0⟩ := by
  obtain ⟨h1, h2⟩ := (strOk_iff s).1 h
  have e : feed s0 s = ⟨s, false, false, [], 0⟩ := by
    cases s with
    | nil => rfl
    | cons b s => rw [feed_plain _ _ h2 (by simpa [s0, start, emptyL] using h1) (by simp)]; rfl
  rw [feed_append, feed_append, e, feed_erase _ _ rfl]
  rfl
/-- Lines that stand as they are, each ended alike. -/
def Ends (W : Str) : Prop := W = [13, 10] ∨ W = [10] ∨ W = [13, 0] ∨ W = [13]
structure Wait (W : Str) (x : S) (q : List Str) : Prop where
  now : x.now = []
  long : x.long = false
  ret : x.ret = true → W = [13]
  queue : x.queue = q
  lost : x.lost = 0
theorem wait_end {W : Str} (hW : Ends W) {x : S} {q : List Str} (hq : q.length < 6) {s : Str} (hn : x.now = s) (hl : x.long = false) (hr : x.ret = true → W = [13] ∧ s = []) (hx : x.queue = q) (h0 : x.lost = 0) : Wait W (feed x W) (q ++ [s]) := by
  have hc : decide ((x.queue.length : Int) < 6) = true := decide_eq_true (by rw [hx]; omega)
  obtain ⟨n, l, r, qq, lo⟩ := x
  simp only at hn hl hr hx h0 hc
  subst hn; subst hl; subst hx; subst h0
  have h13 : ((13 : UInt8).toNat : Int) = 13 := rfl
  have h10 : ((10 : UInt8).toNat : Int) = 10 := rfl
  have h00 : ((0 : UInt8).toNat : Int) = 0 := rfl
  have e13 : step ⟨n, false, r, qq, 0⟩ 13 = ⟨[], false, true, qq ++ [n], 0⟩ := by
    simp only [step, h13, hc]; simp
  have e10 : r = false → step ⟨n, false, r, qq, 0⟩ 10 = ⟨[], false, false, qq ++ [n], 0⟩ := by
    intro hr; subst hr
    simp only [step, h10, hc]; simp
  rcases hW with rfl | rfl | rfl | rfl
  · have : feed ⟨n, false, r, qq, 0⟩ [13, 10] = ⟨[], false, false, qq ++ [n], 0⟩ := by
      show step (step _ 13) 10 = _
      rw [e13]; simp [step, h10]
    rw [this]; exact ⟨rfl, rfl, fun h => (by cases h), rfl, rfl⟩
  · have hr' : r = false := by
      cases r with
      | false => rfl
      | true => have := (hr rfl).1; simp at this
    have : feed ⟨n, false, r, qq, 0⟩ [10] = ⟨[], false, false, qq ++ [n], 0⟩ := e10 hr'
    rw [this]; exact ⟨rfl, rfl, fun h => (by cases h), rfl, rfl⟩
  · have : feed ⟨n, false, r, qq, 0⟩ [13, 0] = ⟨[], false, false, qq ++ [n], 0⟩ := by
      show step (step _ 13) 0 = _
      rw [e13]; simp [step, h00]
    rw [this]; exact ⟨rfl, rfl, fun h => (by cases h), rfl, rfl⟩
  · have : feed ⟨n, false, r, qq, 0⟩ [13] = ⟨[], false, true, qq ++ [n], 0⟩ := e13
    rw [this]; exact ⟨rfl, rfl, fun _ => rfl, rfl, rfl⟩
theorem wait_next {W : Str} (hW : Ends W) {x : S} {q : List Str} (h : Wait W x q) (hq : q.length < 6) {s : Str} (hs : strOk s = true) : Wait W (feed x (s ++ W)) (q ++ [s]) := by
  obtain ⟨h1, h2⟩ := (strOk_iff s).1 hs
  rw [feed_append]
  cases s with
  | nil => exact wait_end hW hq h.now h.long (fun hr => ⟨h.ret hr, rfl⟩) h.queue h.lost
  | cons b s =>
    rw [feed_plain _ _ h2 (by rw [h.now]; simpa using h1) (by simp)]
    exact wait_end hW hq (by simp [h.now]) h.long (fun hr => by cases hr) h.queue h.lost
def pick (k n : Int) : Int := k.tmod n + if k.tmod n < 0 then n else 0
theorem pick_rng {k n : Int} (h : 0 < n) : 0 ≤ pick k n ∧ pick k n < n := by
  have h1 := Int.tmod_lt_of_pos k h
  have h2 := Int.lt_tmod_of_pos k h
  unfold pick; split <;> omega
/-- The way a line is ended. -/
def way (e : Int) : Str := if e = 0 then [13, 10] else if e = 1 then [10] else if e = 2 then [13, 0] else [13]
theorem way_ends (e : Int) : Ends (way e) := by
  unfold way Ends; repeat' split
  all_goals simp
theorem way_len (e : Int) : (way e).length ≤ 2 := by
  unfold way; repeat' split
  all_goals simp
/-- Lines, as they are typed. -/
def typed (W : Str) (qs : List Str) : Str := qs.flatMap (· ++ W)
theorem typed_wait {W : Str} (hW : Ends W) (qs : List Str) : ∀ (x : S) (q : List Str), Wait W x q → q.length + qs.length ≤ 6 → (∀ s ∈ qs, strOk s = true) → Wait W (feed x (typed W qs)) (q ++ qs) := by
  induction qs with
  | nil => intro x q h _ _; simpa [typed, feed] using h
  | cons s qs ih =>
    intro x q h hl hs
    rw [List.length_cons] at hl
    have h1 := wait_next hW h (by omega) (hs s (by simp))
    have h2 := ih _ _ h1 (by simp; omega) (fun t ht => hs t (by simp [ht]))
    have e : typed W (s :: qs) = (s ++ W) ++ typed W qs := rfl
    rw [e, feed_append]
    simpa using h2
theorem whole {W : Str} (hW : Ends W) {qs : List Str} (hl : qs.length ≤ 6) (hs : ∀ s ∈ qs, strOk s = true) : Wait W (feed s0 (typed W qs)) qs := by
  have := typed_wait hW qs s0 [] ⟨rfl, rfl, fun h => (by cases h), rfl, rfl⟩ (by simpa using hl) hs
  simpa using this
theorem typed_snoc (W : Str) (qs : List Str) (s : Str) : typed W (qs ++ [s]) = typed W qs ++ (s ++ W) := by simp [typed]
theorem take_snoc {xs : List Str} {k : Int} (h0 : 0 ≤ k) (h1 : k < xs.length) : xs.take (k + 1).toNat = xs.take k.toNat ++ [xs.getD k.toNat []] := by
  have h : k.toNat < xs.length := by omega
  rw [show (k + 1).toNat = k.toNat + 1 by omega, List.take_succ_eq_append_getElem h]
  simp [List.getD, h]
theorem erases_all {s : Str} (h : strOk s = true) {n : Int} (h0 : 0 ≤ n) {y : Hd} (hy : y.len = (feed s0 (s ++ List.replicate n.toNat 8 ++ [10])).queue.length) :
    (decide ((0 : Int) = 0) && decide ((y.len : Int) = 1) && decide ((feed s0 (s ++ List.replicate n.toNat 8 ++ [10])).queue.getD 0 [] = s.take (max 0 ((s.length : Int) - n)).toNat) && true) = true := by
  rw [erases h] at hy ⊢
  have : (max 0 ((s.length : Int) - n)).toNat = s.length - n.toNat := by omega
  simp [hy, this]
theorem drop_cons {qs : List Str} {i : Int} (h0 : 0 ≤ i) (h1 : i < qs.length) : qs.drop i.toNat = qs.getD i.toNat [] :: qs.drop (i + 1).toNat := by
  have h : i.toNat < qs.length := by omega
  rw [List.drop_eq_getElem_cons h, show (i + 1).toNat = i.toNat + 1 by omega]
  simp [List.getD, h]
theorem whole_cond {W : Str} {x : S} {q : List Str} (h : Wait W x q) : (!decide ((0 : Int) = 0) || !decide (x.lost = 0) || !decide (x.queue = q) || !decide (x.now = []) || !true) = false := by
  simp [h.lost, h.queue, h.now]
theorem next_eq {ws rest r : List Str} {q : Str} {i : Int} (h0 : 0 ≤ i) (h1 : i < ws.length) (hr : rest = ws.drop i.toNat) (e : rest = q :: r) : q = ws.getD i.toNat [] ∧ r = ws.drop (i + 1).toNat := by
  rw [hr, drop_cons h0 h1] at e
  injection e with e1 e2
  exact ⟨e1.symm, e2.symm⟩
theorem typed_len {W : Str} (hW : W.length ≤ 2) (qs : List Str) (hs : ∀ s ∈ qs, strOk s = true) : (typed W qs).length ≤ qs.length * 62 := by
  induction qs with
  | nil => simp [typed]
  | cons s qs ih =>
    have h1 := ((strOk_iff s).1 (hs s (by simp))).1
    have h2 := ih fun t ht => hs t (by simp [ht])
    have e : typed W (s :: qs) = (s ++ W) ++ typed W qs := rfl
    rw [e, List.length_append, List.length_append, List.length_cons, Nat.add_mul]
    omega
theorem way_at {i : Int} (h0 : 0 ≤ i) (h1 : i < 4) : vstr ((((((Vector.replicate 4 default : Vector Str 4).put 0 [13, 10]).put 1 [10]).put 2 [13, 0]).put 3 [13]).at i) = vstr (way i) := by
  have : i = 0 ∨ i = 1 ∨ i = 2 ∨ i = 3 := by omega
  rcases this with rfl | rfl | rfl | rfl <;> rfl
theorem getD_le {xs : List Str} {N : Nat} (h : ∀ s ∈ xs, s.length ≤ N) (k : Nat) : (xs.getD k []).length ≤ N := by
  by_cases hk : k < xs.length
  · have e : xs.getD k [] = xs[k] := by simp [List.getD, hk]
    rw [e]; exact h _ (List.getElem_mem hk)
  · have e : xs.getD k [] = [] := by simp [List.getD, List.getElem?_eq_none (Nat.le_of_not_lt hk)]
    rw [e]; simp
/-! #### the document's -/
def refGood (l : LineV) (qs : List Str) : Bool := qs.all cleanK && (cleanK l.now && decide ((l.queue.len : Int) ≤ 6) && (!l.ret || (decide (l.now = []) && !l.long)))
theorem refGood_eq (l : LineV) (qs : List Str) : refGood l qs = good l qs := by
  have e : ∀ s, cleanK s = strOk s := fun s => Bool.eq_iff_iff.2 (cleanK_iff s)
  have e2 : cleanK = strOk := funext e
  rw [Bool.eq_iff_iff]
  simp only [refGood, good, badHead, e2, List.all_append, List.all_cons, List.all_nil, Bool.and_true, Bool.and_eq_true]
  constructor
  · rintro ⟨h1, ⟨h2, h3⟩, h4⟩
    have h5 := ((strOk_iff _).1 h2).1
    simp at h3
    refine ⟨?_, h1, h2⟩
    have a1 : decide (60 < (l.now.length : Int)) = false := decide_eq_false (by omega)
    have a2 : decide (6 < (l.queue.len : Int)) = false := decide_eq_false (by omega)
    rw [a1, a2]
    cases hr : l.ret with
    | false => simp
    | true =>
      rw [hr] at h4
      simp at h4
      rw [h4.1, h4.2]; simp
  · rintro ⟨h1, h2, h3⟩
    simp only [Bool.not_eq_true', Bool.or_eq_false_iff, decide_eq_false_iff_not] at h1
    obtain ⟨⟨⟨h4, h5⟩, h6⟩, h7⟩ := h1
    refine ⟨h2, ⟨h3, by simp; omega⟩, ?_⟩
    cases hr : l.ret <;> cases hl : l.long <;> simp_all
def refEnd (x : S) : S := ⟨[], false, x.ret, if decide ((x.queue.length : Int) = 6) = true then x.queue else x.queue ++ [x.now], if decide ((x.queue.length : Int) = 6) = true then x.lost + 1 else x.lost⟩
def refB (x : S) (b : UInt8) : S :=
  if decide ((b.toNat : Int) = 13) = true then { refEnd x with ret := true }
  else if decide ((b.toNat : Int) = 10) = true then refEnd x
  else if (decide ((b.toNat : Int) = 8) || decide ((b.toNat : Int) = 127)) = true then { x with now := x.now.take (max ((x.now.length : Int) - 1) 0).toNat }
  else if (decide (32 ≤ (b.toNat : Int)) && decide ((b.toNat : Int) ≤ 126) && decide ((x.now.length : Int) = 60)) = true then { x with long := true }
  else if (decide (32 ≤ (b.toNat : Int)) && decide ((b.toNat : Int) ≤ 126)) = true then { x with now := x.now ++ [b] }
  else x
def refStep (x : S) (b : UInt8) : S :=
  if x.ret = true then (if (decide ((b.toNat : Int) = 10) || decide ((b.toNat : Int) = 0)) = true then { x with ret := false } else refB { x with ret := false } b) else refB x b
theorem refB_eq {x : S} (h : Ok x) (b : UInt8) (hr : x.ret = false) : refB x b = step x b := by
  obtain ⟨n, l, r, q, lo⟩ := x
  simp only at hr
  subst hr
  have h1 : q.length ≤ 6 := h.len
  have h2 : n.length ≤ 60 := ((strOk_iff _).1 h.now).1
  have hmax : (max ((n.length : Int) - 1) 0).toNat = ((n.length : Int) - 1).toNat := by omega
  unfold refB step refEnd plainB
  dsimp only
  by_cases c13 : (b.toNat : Int) = 13
  · by_cases hq : (q.length : Int) = 6
    · have : ¬ (q.length : Int) < 6 := by omega
      simp [c13, hq]
    · have : (q.length : Int) < 6 := by omega
      simp [c13, hq, this]
  · by_cases c10 : (b.toNat : Int) = 10
    · by_cases hq : (q.length : Int) = 6
      · have : ¬ (q.length : Int) < 6 := by omega
        simp [c10, hq]
      · have : (q.length : Int) < 6 := by omega
        simp [c10, hq, this]
    · by_cases c8 : (b.toNat : Int) = 8 ∨ (b.toNat : Int) = 127
      · have e8 : (decide ((b.toNat : Int) = 8) || decide ((b.toNat : Int) = 127)) = true := by simpa using c8
        rw [hmax]
        by_cases hn : 0 < (n.length : Int)
        · simp only [c13, c10, e8, hn, decide_false, decide_true, Bool.false_and, Bool.or_self, if_true, Bool.false_eq_true, if_false]
        · have : n = [] := List.length_eq_zero_iff.1 (by omega)
          subst this
          simp only [c13, c10, e8, hn, decide_false, decide_true, Bool.false_and, Bool.or_self, if_true, Bool.false_eq_true, if_false, List.take_nil]
      · have e8 : (decide ((b.toNat : Int) = 8) || decide ((b.toNat : Int) = 127)) = false := by simpa using c8
        have ep : (decide (32 ≤ (b.toNat : Int)) && decide ((b.toNat : Int) < 127)) = (decide (32 ≤ (b.toNat : Int)) && decide ((b.toNat : Int) ≤ 126)) := by
          rw [Bool.eq_iff_iff]; simp; omega
        rw [ep]
        simp only [c13, c10, e8, decide_false, Bool.false_and, Bool.or_self, Bool.false_eq_true, if_false]
        cases hp : (decide (32 ≤ (b.toNat : Int)) && decide ((b.toNat : Int) ≤ 126)) with
        | false => simp
        | true =>
          by_cases h60 : (n.length : Int) = 60
          · simp [h60]
          · have : ¬ 60 ≤ (n.length : Int) := by omega
            simp [h60, this]
theorem step_ret (x : S) (b : UInt8) (h : ¬ ((b.toNat : Int) = 10 ∨ (b.toNat : Int) = 0)) : step x b = step { x with ret := false } b := by
  have e : (decide ((b.toNat : Int) = 10) || decide ((b.toNat : Int) = 0)) = false := by simpa using h
  unfold step; simp only [e, Bool.and_false]
theorem Ok.noret {x : S} (h : Ok x) : Ok { x with ret := false } := ⟨h.now, h.queue, h.len, fun e => by cases e⟩
theorem refStep_eq {x : S} (h : Ok x) (b : UInt8) : refStep x b = step x b := by
  unfold refStep
  cases hr : x.ret with
  | false => exact refB_eq h b hr
  | true =>
    rw [if_pos rfl]
    cases hc : (decide ((b.toNat : Int) = 10) || decide ((b.toNat : Int) = 0)) with
    | true => simp only [step, hr, hc]; rfl
    | false => rw [if_neg (by decide), refB_eq h.noret b rfl, step_ret x b (by simpa using hc)]
/-- What holds while the document's answer reads bytes. -/
structure RI (x0 : S) (u : Str) (k : Int) (x : S) : Prop where
  k0 : 0 ≤ k
  k1 : k ≤ u.length
  ok : Ok x
  lost : 0 ≤ x.lost ∧ x.lost ≤ k
  e : feed x0 u = feed x (u.drop k.toNat)
theorem RI.start {x : S} {u : Str} (h : Ok x) (h0 : x.lost = 0) : RI x u 0 x := ⟨by omega, by omega, h, by omega, rfl⟩
theorem RI.next {x0 x x' : S} {u : Str} {k : Int} (h : RI x0 u k x) (hk : k < u.length) (hs : refStep x (u.getD k.toNat 0) = x') : RI x0 u (k + 1) x' := by
  rw [refStep_eq h.ok] at hs
  have h0 := h.k0
  have hk' : k.toNat < u.length := by omega
  have hd : u.drop k.toNat = u.getD k.toNat 0 :: u.drop (k + 1).toNat := by
    rw [List.drop_eq_getElem_cons hk', show (k + 1).toNat = k.toNat + 1 by omega]
    simp [List.getD, hk']
  have hl := step_lost x (u.getD k.toNat 0)
  have hl' := h.lost
  have ho := step_ok h.ok (u.getD k.toNat 0)
  rw [hs] at hl ho
  exact ⟨by omega, by omega, ho, by omega, by rw [h.e, hd, ← hs]; rfl⟩
theorem RI.done {x0 x : S} {u : Str} {k : Int} (h : RI x0 u k x) (hk : ¬ k < u.length) : feed x0 u = x := by
  have h1 := h.k1
  have hk' : k.toNat = u.length := by omega
  rw [h.e, hk', List.drop_length]; rfl
theorem bytes1 (b : UInt8) : Telnet.bytesOf [(b.toNat : Int)] = [b] := by simp [Telnet.bytesOf, u8]
theorem tail_le {qs r : List Str} {q : Str} {N : Nat} (e : qs = q :: r) (h : qs.length ≤ N) : r.length ≤ N := by subst e; rw [List.length_cons] at h; omega
theorem good_q (l : LineV) (qs : List Str) {h : Hd} (e : h.len = qs.length) (e2 : l.queue.len = qs.length) : good ⟨l.now, l.long, l.ret, h⟩ qs = good l qs := by
  unfold good badHead; dsimp only; rw [e, e2]
end Line
end Go.Ing
/- Engine, part 14: the library's own entries; slices that came in or are the call's own. -/
namespace Go.Ing
open Go
section
variable {P : Program} {n : Nat} {w0 : World} {M : List Nat} {Q : Exit → Go.Act → World → Prop} {F F' : List (Nat × Value)} {L L' : List Res} {ops : Array Oper} {rest : List Oper}
theorem PS_cap_slice {U : TypeId} {ts : Array TypeId} {x : Operand} {T E : TypeId} {p : Option Addr} {l c : Nat} (ht : ts[0]? = some U) (hu : P.underlying U = some (.slice E)) (hx : ev F x = some (.slice p l c)) : PS P n w0 M (.call ⟨.builtin .cap, #[x], ts⟩) T F L (.int .i64 c) L := PS_of fun e w hF => by
  simp [execOp, resolve, invoke, builtin, Builtin.cap_, ht, hF.ev hx, underlying, hu, goInt]
theorem PS_copy0 {U E sz : TypeId} {ts : Array TypeId} {x y : Operand} {T : TypeId} {h : Hd} (ht : ts[0]? = some U) (hu : P.underlying U = some (.slice E)) (hs : Sz P E sz) (hx : ev F x = some h.val) (hy : ev F y = some (.slice none 0 0)) : PS P n w0 M (.call ⟨.builtin .copy, #[x, y], ts⟩) T F L (.int .i64 0) L := PS_of fun e w hF => by
  cases ha : h.a with
  | none => simp [execOp, resolve, invoke, builtin, Builtin.copy_, ht, hF.ev hx, hF.ev hy, underlying, hu, goInt, Hd.val, Builtin.lenOf, Builtin.firstCells, hs w, ha, pure, ReaderT.pure]
  | some a => simp [execOp, resolve, invoke, builtin, Builtin.copy_, ht, hF.ev hx, hF.ev hy, underlying, hu, goInt, Hd.val, Builtin.lenOf, Builtin.firstCells, hs w, ha, storeCells]
theorem PS_extern2 {f : FuncId} {fn : Func} {ex : Array Value → Sem Value} {ts : Array TypeId} {T : TypeId} {x y : Operand} {a b v : Value} (hf : P.funcs[f]? = some fn) (h1 : (fn.name == "runtime.NumGoroutine") = false) (h2 : fn.body.isNone = true) (h3 : Extern.findNext fn = none) (h4 : Extern.find fn = some ex) (hx : ev F x = some a) (hy : ev F y = some b)
    (hr : ∀ w, (ex #[a, b]).run P w = .ok v w) : PS P n w0 M (.call ⟨.value (.func f), #[x, y], ts⟩) T F L v L := PS_of fun e w hF => by
  have := run_callFunc_extern hf h1 h2 h3 h4 #[a, b] w
  rw [hr] at this
  have hx' := hF.ev hx
  have hy' := hF.ev hy
  have hg : e.eval (.func f) = .func (.func f) #[] #[] := rfl
  simp [execOp, resolve, Deferred.ofValue, invoke, hg, hx', hy', this]
theorem u8_back (c : UInt8) : ((c.toNat : Int)).toNat.toUInt8 = c := by simp
theorem PS_countString {f : FuncId} {fn : Func} {ts : Array TypeId} {T : TypeId} {x y : Operand} {s : Str} {c : UInt8} (hf : P.funcs[f]? = some fn) (h1 : (fn.name == "runtime.NumGoroutine") = false) (h2 : fn.body.isNone = true) (h3 : Extern.findNext fn = none) (h4 : Extern.find fn = some Extern.BytealgCount.count) (hx : ev F x = some (vstr s)) (hy : ev F y = some (.int .u8 (c.toNat : Int))) :
    PS P n w0 M (.call ⟨.value (.func f), #[x, y], ts⟩) T F L (.int .i64 ((s.count c : Nat) : Int)) L :=
  PS_extern2 hf h1 h2 h3 h4 hx hy fun w => by
    have := Lib.run_countString (P := P) ⟨s.toArray⟩ (c.toNat : Int) w
    rw [u8_back] at this
    exact this
theorem PS_indexByteString {f : FuncId} {fn : Func} {ts : Array TypeId} {T : TypeId} {x y : Operand} {s : Str} {c : UInt8} (hf : P.funcs[f]? = some fn) (h1 : (fn.name == "runtime.NumGoroutine") = false) (h2 : fn.body.isNone = true) (h3 : Extern.findNext fn = none) (h4 : Extern.find fn = some Extern.BytealgIndexByte.indexByte) (hx : ev F x = some (vstr s)) (hy : ev F y = some (.int .u8 (c.toNat : Int))) :
    PS P n w0 M (.call ⟨.value (.func f), #[x, y], ts⟩) T F L (.int .i64 (Lib.indexByte s c)) L :=
  PS_extern2 hf h1 h2 h3 h4 hx hy fun w => by
    have := Lib.run_indexByteString (P := P) ⟨s.toArray⟩ (c.toNat : Int) w
    rw [u8_back] at this
    exact this
theorem digits_str : ∀ (m t : Nat) (acc : Array Value), ∃ xs : Str, xs.length = m ∧ (Extern.BytealgMakeNoZero.digits m t acc).toList = acc.toList ++ xs.flatMap encY
  | 0, _, acc => ⟨[], rfl, by simp [Extern.BytealgMakeNoZero.digits]⟩
  | m + 1, t, acc => by
    obtain ⟨xs, h1, h2⟩ := digits_str m (t / 256) (acc.push (.int .u8 (Int.ofNat (t % 256))))
    refine ⟨(t % 256).toUInt8 :: xs, by simp [h1], ?_⟩
    rw [Extern.BytealgMakeNoZero.digits, h2]
    have : ((t % 256).toUInt8.toNat : Int) = Int.ofNat (t % 256) := by
      simp
    simp [encY, this]
theorem GL_mkNoZero {d : Nat} {f : FuncId} {fn : Func} {ps : Array TypeId} {t E : TypeId} {ts : Array TypeId} {T : TypeId} {pos : String} {aft : Array Edge} {x : Operand} {m : Int} (hd : Nat.blt d n = true) (hf : P.funcs[f]? = some fn) (h1 : (fn.name == "runtime.NumGoroutine") = false) (h2 : fn.body.isNone = true) (h3 : Extern.findNext fn = none)
    (h4 : Extern.find fn = some (Extern.BytealgMakeNoZero.makeNoZero ps #[t])) (hu : P.underlying t = some (.slice E)) (hs : Sz P E 1) (hx : ev F x = some (.int .i64 m)) (h0 : 0 ≤ m) (hm : m ≤ 281474976710656)
    (k : ∀ (b cap : Nat) (xs : Str), xs.length = m.toNat → m.toNat ≤ cap → GL P n w0 M ops Q rest ((d, Hd.val ⟨some ⟨b, 0, none⟩, m.toNat, cap⟩) :: F) (Res.own ⟨some ⟨b, 0, none⟩, m.toNat, cap⟩ E 1 (xs.flatMap encY) :: L)) : GL P n w0 M ops Q (⟨some d, .call ⟨.value (.func f), #[x], ts⟩, T, pos, aft, none⟩ :: rest) F L := by
  refine GL_new (R := fun v L' => ∃ (b cap : Nat) (xs : Str), v = Hd.val ⟨some ⟨b, 0, none⟩, m.toNat, cap⟩ ∧ L' = Res.own ⟨some ⟨b, 0, none⟩, m.toNat, cap⟩ E 1 (xs.flatMap encY) :: L ∧ xs.length = m.toNat ∧ m.toNat ≤ cap) hd ?_ (fun v L' ⟨b, cap, xs, e1, e2, e3, e4⟩ => by subst e1; subst e2; exact k b cap xs e3 e4)
  intro a w hF hS
  obtain ⟨N, rfl⟩ := Int.eq_ofNat_of_zero_le h0
  have hN : N ≤ 281474976710656 := by omega
  let cap := (Question.appendCap N 0 E).cut (w.tape w.drawn (Question.appendCap N 0 E))
  have hcap : N ≤ cap := Nat.le_add_right _ _
  let t' := (Question.extern "internal/bytealg.MakeNoZero.bytes" 0).cut (w.tape (w.drawn + 1) (.extern "internal/bytealg.MakeNoZero.bytes" 0))
  obtain ⟨ys, hy1, hy2⟩ := digits_str cap t' #[]
  have hrun : (Extern.BytealgMakeNoZero.makeNoZero ps #[t] #[.int .i64 N]).run P w = .ok (.slice (some ⟨w.heap.size, 0, none⟩) N cap) (w.drew.drew.alloc (.cells (ys.flatMap encY).toArray E)) := by
    have hdef : Extern.BytealgMakeNoZero.makeNoZero ps #[t] #[.int .i64 N] =
      (do
        let .slice elem ← underlying t | stuck "bytealg.MakeNoZero: slice type expected"
        if (N : Int) < 0 || (N : Int) > 2 ^ 48 then runtimePanic (.error "makeslice: len out of range")
        let cap ← choose (.appendCap (N : Int).toNat 0 elem)
        askRoom cap
        let bytes ← choose (.extern "internal/bytealg.MakeNoZero.bytes" 0)
        let a ← newRow elem (Extern.BytealgMakeNoZero.digits cap bytes #[])
        pure (.slice (some a) (N : Int).toNat cap)) := rfl
    have g1 : ¬ (N : Int) < 0 := by omega
    have g2 : ¬ (281474976710656 : Int) < (N : Int) := by omega
    have hdig : Extern.BytealgMakeNoZero.digits cap t' #[] = (ys.flatMap encY).toArray := by
      apply Array.ext'; rw [hy2]; simp
    rw [hdef]
    simp [run_underlying hu, g1, g2, Question.forced, newRow]
    exact ⟨rfl, congrArg (fun c => w.drew.drew.alloc (Obj.cells c E)) hdig⟩
  have hS1 : St w0 M w.drew.drew L := hS.drew _
  have hlen : (ys.flatMap encY).length = cap := by rw [flatMap_len flY.len, hy1, Nat.mul_one]
  have hw1 := hS1.alloc E (ys.flatMap encY)
  have hS' : St w0 M (w.drew.drew.alloc (.cells (ys.flatMap encY).toArray E)) (Res.own ⟨some ⟨w.heap.size, 0, none⟩, N, cap⟩ E 1 ((ys.take N).flatMap encY) :: L) := by
    refine hw1.turn (.head) rfl rfl rfl (Nat.le_refl _) (fun _ _ _ => rfl) ?_ (fun b hb => ?_)
    · refine .inr ⟨w.heap.size, 0, ys.flatMap encY, (0, 0), rfl, by simp, ?_, fun _ _ h => by simp at h, ?_, hcap, ?_, ?_⟩
      · have := hw1.ok _ (List.mem_cons_self ..)
        exact this
      · show 0 + cap * 1 ≤ _; rw [hlen]; omega
      · show N * 1 = _; rw [flatMap_len flY.len, List.length_take, hy1, Nat.min_eq_left hcap]
      · show ((ys.flatMap encY).drop 0).take _ = _
        rw [List.drop_zero]
        have e := flat_take flY ys N
        rw [flatMap_len flY.len, List.length_take, hy1, Nat.min_eq_left hcap]
        exact e
    · simp [Res.own] at hb
      subst hb
      exact ⟨by simp, .inl (by simp [Res.box])⟩
  refine ⟨_, _, _, ⟨w.heap.size, cap, ys.take N, rfl, rfl, by rw [List.length_take, hy1, Int.toNat_natCast]; exact Nat.min_eq_left hcap, by simpa using hcap⟩, ?_, hS'⟩
  have := run_callFunc_extern hf h1 h2 h3 h4 #[.int .i64 N] w
  rw [hrun] at this
  have hx' := hF.ev hx
  have hg : a.eval (.func f) = .func (.func f) #[] #[] := rfl
  simp [execOp, resolve, Deferred.ofValue, invoke, hg, hx', this, Hd.val]
/-- A slice that came in, or one that is the call's own. -/
def OrQ {α : Type} (T : Nat) (h : Hd) (xs : List α) (Ta : Nat) (a : Hd) (ys : List α) (Tg : Nat) (g : Hd) (zs : List α) : Prop := (T = Ta ∧ h = a ∧ xs = ys ∧ g = ⟨none, 0, 0⟩ ∧ zs = []) ∨ (T = Tg ∧ h = g ∧ zs = xs)
theorem KnOr {α : Type} {e : α → List Value} {T Ta Tg sz : Nat} {h a g : Hd} {xs ys zs : List α} (ho : OrQ T h xs Ta a ys Tg g zs) (ka : Kn w0 M L a Ta sz (ys.flatMap e)) (kg : Kn w0 M L g Tg sz (zs.flatMap e)) : Kn w0 M L h T sz (xs.flatMap e) := by
  rcases ho with ⟨rfl, rfl, rfl, _, _⟩ | ⟨rfl, rfl, rfl⟩
  · exact ka
  · exact kg
theorem KnCOr {α : Type} {T Ta Tg : Nat} {h a g : Hd} {xs ys zs : List α} (ho : OrQ T h xs Ta a ys Tg g zs) (ka : KnC w0 M L a) (kg : KnC w0 M L g) : KnC w0 M L h := by
  rcases ho with ⟨rfl, rfl, rfl, _, _⟩ | ⟨rfl, rfl, rfl⟩
  · exact ka
  · exact kg
/-- The call's own slice without its first elements. -/
theorem GL_cutFromF {α : Type} {e : α → List Value} {d T U E sz : Nat} {x y : Operand} {pos : String} {aft : Array Edge} {h : Hd} {xs : List α} {kd : IntKind} {i : Int} {Lf : Res → List Res} (fe : Flat e sz) (hd : Nat.blt d n = true) (hT : P.underlying T = some (.slice E)) (hs : Sz P E sz) (hx : ev F x = some h.val) (hy : ev F y = some (.int kd i)) (h0 : 0 ≤ i) (h1 : i ≤ (h.len : Int)) (hU : ∀ r, Upd L (Res.own h E sz (xs.flatMap e)) r (Lf r))
    (k : GL P n w0 M ops Q rest ((d, (h.cut i.toNat h.len sz).val) :: F) (Lf (Res.own (h.cut i.toNat h.len sz) E sz ((xs.drop i.toNat).flatMap e)))) : GL P n w0 M ops Q (⟨some d, .slice T x (some y) none none, U, pos, aft, none⟩ :: rest) F L := by
  refine GL_new (R := fun v L' => v = (h.cut i.toNat h.len sz).val ∧ L' = Lf (Res.own (h.cut i.toNat h.len sz) E sz ((xs.drop i.toNat).flatMap e))) hd ?_ (fun v L' ⟨e1, e2⟩ => by subst e1; subst e2; exact k)
  intro a w hF hS
  have hok := hS.ok _ (hU ⟨[], fun _ => True, fun _ _ _ _ => trivial⟩).mem
  have hr : Rd w h E sz (xs.flatMap e) := Kn.own (M := M) (hU ⟨[], fun _ => True, fun _ _ _ _ => trivial⟩).mem w hS
  have hcap : h.len ≤ h.cap := by
    rcases hok with ⟨rfl, _⟩ | ⟨b, o, C, fz, e1, e2, e3, e4, e5, e6, _⟩
    · exact Nat.le_refl _
    · exact e6
  have hil : i.toNat ≤ h.len := by omega
  have hlc : h.len * sz ≤ h.cap * sz := Nat.mul_le_mul_right sz hcap
  have hll : i.toNat * sz ≤ h.len * sz := Nat.mul_le_mul_right sz hil
  have hcs : ((xs.flatMap e).take (h.len * sz)).drop (i.toNat * sz) = (xs.drop i.toNat).flatMap e := by
    rw [hr.1, List.take_length]
    have := cut_flat fe xs (l := i.toNat) (r := xs.length)
    rwa [List.take_length, ← flatMap_len fe.len, List.take_length] at this
  have hlen : ((xs.drop i.toNat).flatMap e).length = h.len * sz - i.toNat * sz := by
    rw [← hcs, List.length_drop, List.length_take, ← hr.1, Nat.min_self]
  refine ⟨_, _, w, ⟨rfl, rfl⟩, ?_, ?_⟩
  · have hs' := hs w
    simp only [execOp, hF.ev hx, Option.map_some, Option.map_none, hF.ev hy, Hd.val, Instr.sliceAt, Instr.slice, underlying]
    simp [hT, Instr.sliceBounds, Instr.sliceBound, asIntOf, h1, h0, hs', Hd.cut]
  · refine hS.turn (hU _) rfl rfl rfl (Nat.le_refl _) (fun _ _ _ => rfl) ?_ ?_
    · rcases hok with ⟨rfl, hn⟩ | ⟨b, o, C, fz, e1, e2, e3, e4, e5, e6, e7, e8⟩
      · have : i.toNat = 0 := by simp at hil; omega
        refine .inl ⟨by simp [Hd.cut, this], ?_⟩
        rw [List.eq_nil_of_length_eq_zero (l := (xs.drop i.toNat).flatMap e) (by rw [hlen]; simp)]
      · by_cases hci : h.cap = i.toNat
        · have hli : h.len = i.toNat := by omega
          refine .inr ⟨b, o, C, fz, by simp only [Hd.cut]; rw [if_pos hci]; exact e1, e2, e3, e4, ?_, ?_, ?_, ?_⟩
          · simp only [Hd.cut]; rw [hci, Nat.sub_self, Nat.zero_mul]; omega
          · simp only [Hd.cut]; omega
          · simp only [Hd.cut]; rw [hlen, Nat.sub_mul]
          · rw [hlen, List.eq_nil_of_length_eq_zero (l := (xs.drop i.toNat).flatMap e) (by rw [hlen, hli]; omega), hli]; simp
        · refine .inr ⟨b, o + i.toNat * sz, C, fz, by simp only [Hd.cut]; rw [if_neg hci, e1]; simp [add_at], e2, e3, fun j hj h => e4 j (by omega) h, ?_, ?_, ?_, ?_⟩
          · simp only [Hd.cut]; rw [Nat.sub_mul]; omega
          · simp only [Hd.cut]; omega
          · simp only [Hd.cut]; rw [hlen, Nat.sub_mul]
          · have hX : xs.flatMap e = (C.drop o).take (h.len * sz) := by rw [hr.1]; exact e8.symm
            have hY : (xs.drop i.toNat).flatMap e = ((C.drop o).take (h.len * sz)).drop (i.toNat * sz) := by rw [← hcs, ← hX, hr.1, List.take_length]
            rw [hlen, hY, List.drop_take, List.drop_drop]
    · intro b hb
      have hb' : b ∈ (Res.own h E sz (xs.flatMap e)).foot := by
        revert hb
        simp only [Res.own, Hd.cut]
        cases ha : h.a with
        | none => by_cases hc : h.cap = i.toNat <;> simp [hc]
        | some a =>
          by_cases hc : h.cap = i.toNat
          · simp [hc]
          · simp only [hc, if_false, Option.map_some]
            unfold Addr.add
            split <;> simp
      exact ⟨(hS.foot _ (hU ⟨[], fun _ => True, fun _ _ _ _ => trivial⟩).mem b hb').1, .inl hb'⟩
end
end Go.Ing
/- The plain functions of pages. -/
namespace Go.Ing
open Go
namespace Page
/-! #### what is escaped -/
def escape (s : Str) : Str := s.flatMap fun b => if b = 255 then [255, 255] else [b]
theorem escape_append (a b : Str) : escape (a ++ b) = escape a ++ escape b := List.flatMap_append
theorem escape_len (s : Str) : (escape s).length ≤ 2 * s.length := by
  induction s with
  | nil => simp [escape]
  | cons b s ih =>
    have e : escape (b :: s) = (if b = 255 then [255, 255] else [b]) ++ escape s := rfl
    rw [e, List.length_append, List.length_cons]
    split <;> simp <;> omega
theorem escape_none (s : Str) (h : s.count 255 = 0) : escape s = s := by
  induction s with
  | nil => rfl
  | cons b s ih =>
    have hb : b ≠ 255 := fun e => by subst e; simp at h
    have hs : s.count 255 = 0 := by rw [List.count_cons_of_ne (by simpa using hb)] at h; exact h
    have e : escape (b :: s) = (if b = 255 then [255, 255] else [b]) ++ escape s := rfl
    rw [e, if_neg hb, ih hs]; rfl
theorem index_spec : ∀ (s : Str), 0 < s.count 255 → ∃ i : Nat, Lib.indexByte s 255 = i ∧ i < s.length ∧ escape (s.take i) = s.take i ∧ s.drop i = 255 :: s.drop (i + 1) ∧ (s.drop (i + 1)).count 255 + 1 = s.count 255
  | [], h => by simp at h
  | b :: s, h => by
    by_cases hb : b = 255
    · subst hb
      exact ⟨0, by simp [Lib.indexByte], by simp, by simp [escape], by simp, by simp⟩
    · have hs : s.count 255 = (b :: s).count 255 := (List.count_cons_of_ne (by simpa using hb)).symm
      obtain ⟨i, h1, h2, h3, h4, h5⟩ := index_spec s (by rw [hs]; exact h)
      refine ⟨i + 1, ?_, by simp; omega, ?_, by simpa using h4, by simp only [List.drop_succ_cons]; rw [h5, hs]⟩
      · have hne : (b == (255 : UInt8)) = false := by simpa using hb
        have hm : ((i : Int) == -1) = false := beq_eq_false_iff_ne.2 (by omega)
        simp [Lib.indexByte, hne, h1, hm]
      · rw [List.take_succ_cons]
        have e : escape (b :: s.take i) = (if b = 255 then [255, 255] else [b]) ++ escape (s.take i) := rfl
        rw [e, if_neg hb, h3]; rfl
theorem index_one (c : UInt8) : Lib.indexByte [c] c = 0 := by simp [Lib.indexByte]
/-- What holds while parts are replaced. -/
structure RepI (s : Str) (m : Nat) (k start : Int) (x : Str) : Prop where
  k0 : 0 ≤ k
  k1 : k ≤ m
  s0 : 0 ≤ start
  s1 : start ≤ s.length
  e : x ++ escape (s.drop start.toNat) = escape s
  c : ((s.drop start.toNat).count 255 : Int) = m - k
  xl : (x.length : Int) ≤ 2 * start
theorem RepI.start {s : Str} {m : Nat} (h : s.count 255 = m) : RepI s m 0 0 [] := ⟨by omega, by omega, by omega, by omega, rfl, by simp [h], by simp⟩
theorem RepI.idx {s : Str} {m : Nat} {k start : Int} {x : Str} (h : RepI s m k start x) (hk : k < m) : ∃ i : Nat, Lib.indexByte (s.drop start.toNat) 255 = i ∧ start + i < s.length ∧ RepI s m (k + 1) (start + i + 1) (x ++ ((s.take (start + i).toNat).drop start.toNat) ++ [255, 255]) := by
  obtain ⟨k0, k1, s0, s1, e, c, xl⟩ := h
  obtain ⟨i, h1, h2, h3, h4, h5⟩ := index_spec (s.drop start.toNat) (by omega)
  rw [List.length_drop] at h2
  rw [List.drop_drop, List.drop_drop] at h4
  rw [List.drop_drop] at h5
  have e1 : (start + i).toNat = start.toNat + i := by omega
  have e2 : (start + i + 1).toNat = start.toNat + (i + 1) := by omega
  have et : (s.take (start + i).toNat).drop start.toNat = (s.drop start.toNat).take i := by rw [e1, List.drop_take]; congr 1; omega
  refine ⟨i, h1, by omega, by omega, by omega, by omega, by omega, ?_, ?_, ?_⟩
  · rw [et, e2, ← e]
    have : escape (s.drop start.toNat) = (s.drop start.toNat).take i ++ ([255, 255] ++ escape (s.drop (start.toNat + (i + 1)))) := by
      conv => lhs; rw [← List.take_append_drop i (s.drop start.toNat), escape_append, h3, List.drop_drop, h4]
      rfl
    rw [this]
    simp only [List.append_assoc]
  · rw [e2]; omega
  · rw [et]; simp only [List.length_append, List.length_take, List.length_drop, List.length_cons, List.length_nil]; omega
theorem RepI.done {s : Str} {m : Nat} {k start : Int} {x : Str} (h : RepI s m k start x) (hk : ¬ k < m) : x ++ s.drop start.toNat = escape s := by
  have := h.e
  rwa [escape_none _ (by have := h.c; omega)] at this
/-! #### pages -/
structure Pg where
  shown : Int
  asking : Bool
  ring : Str
  cut : Bool
  deriving DecidableEq, Inhabited
def of (p : PageV) : Pg := ⟨p.shown, p.asking, p.ring, p.cut⟩
def good (p : PageV) : Bool := decide ((p.wait.len : Int) ≤ 60) && decide ((p.ring.length : Int) ≤ 700) && decide (0 ≤ p.shown) && decide (p.shown ≤ 200)
def put (x : Pg) (s : Str) : Pg := if x.cut = true then x else if decide (700 - (x.ring.length : Int) < s.length) = true then { x with cut := true } else { x with ring := x.ring ++ s }
def send (p : PageV) (s : Str) : Pg × Int := if (!good p) = true then (of p, 2) else if p.cut = true then (of p, 6) else (put (of p) s, 0)
def sendR (p : PageV) (s : Str) : Pg × Int := if (!good p) = true then (of p, 2) else if p.cut = true then (of p, 6) else if (decide (700 < (s.length : Int)) || decide (700 < (p.ring.length : Int) + s.length)) = true then ({ of p with cut := true }, 0) else ({ of p with ring := p.ring ++ s }, 0)
theorem sendR_eq (p : PageV) (s : Str) : sendR p s = send p s := by
  unfold sendR send put of
  cases good p with
  | false => rfl
  | true =>
    cases hc : p.cut with
    | true => simp
    | false =>
      have : (decide (700 < (s.length : Int)) || decide (700 < (p.ring.length : Int) + s.length)) = decide (700 - (p.ring.length : Int) < s.length) := by
        rw [Bool.eq_iff_iff]; simp; omega
      simp only [this]
      cases decide (700 - (p.ring.length : Int) < s.length) <;> simp
theorem send_put {p : PageV} (h : good p = true) (s : Str) : (send p s).1 = put (of p) s := by
  unfold send
  rw [h]
  cases hc : p.cut <;> simp [put, of, hc]
theorem put_ring {x : Pg} {s : Str} (h : x.ring.length ≤ 700) : (put x s).ring.length ≤ 700 := by
  unfold put
  split
  · exact h
  · split
    · exact h
    · rename_i h1
      simp only [List.length_append]
      simp at h1; omega
theorem put_shown (x : Pg) (s : Str) : (put x s).shown = x.shown := by
  unfold put; split
  · rfl
  · split <;> rfl
def moreS : Str := [45, 45, 32, 109, 111, 114, 101, 32, 45, 45, 13, 10]
def flow (ht : Int) : List Str → Pg → Pg × List Str
  | [], x => (x, [])
  | s :: r, x => if (x.asking || x.cut) = true then (x, s :: r) else if (decide (0 < ht) && decide (ht ≤ x.shown)) = true then (put { x with asking := true } moreS, s :: r) else flow ht r (put { x with shown := min (x.shown + 1) 200 } (escape s ++ [13, 10]))
theorem good_of {p : PageV} (h1 : p.wait.len ≤ 60) (h2 : p.ring.length ≤ 700) (h3 : 0 ≤ p.shown) (h4 : p.shown ≤ 200) : good p = true := by
  simp only [good, Bool.and_eq_true, decide_eq_true_eq]; omega
theorem good_iff (p : PageV) : good p = true ↔ p.wait.len ≤ 60 ∧ p.ring.length ≤ 700 ∧ 0 ≤ p.shown ∧ p.shown ≤ 200 := by
  simp only [good, Bool.and_eq_true, decide_eq_true_eq]; omega
/-- What holds while lines are shown. -/
structure FI (ht : Int) (qs : List Str) (x0 : Pg) (rest : List Str) (h : Hd) (x : Pg) : Prop where
  n : rest.length ≤ 60
  hl : h.len = rest.length
  ring : x.ring.length ≤ 700
  s0 : 0 ≤ x.shown
  s1 : x.shown ≤ 200
  len : ∀ s ∈ rest, s.length ≤ 70368744000000
  e : flow ht qs x0 = flow ht rest x
theorem FI.start {ht : Int} {qs : List Str} {p : PageV} (hg : good p = true) (hl : p.wait.len = qs.length) (hs : ∀ s ∈ qs, s.length ≤ 70368744000000) : FI ht qs (of p) qs p.wait (of p) := by
  obtain ⟨h1, h2, h3, h4⟩ := (good_iff p).1 hg
  exact ⟨by omega, hl, h2, h3, h4, hs, rfl⟩
theorem FI.good {ht : Int} {qs rest : List Str} {x0 x : Pg} {h : Hd} (hI : FI ht qs x0 rest h x) {n : Hd} (hn : n.len ≤ 60) {a : Bool} {c : Bool} : Page.good ⟨n, x.shown, a, x.ring, c⟩ = true := good_of hn hI.ring hI.s0 hI.s1
/-- The next line is shown. -/
theorem FI.next {ht : Int} {qs r : List Str} {s : Str} {x0 : Pg} {h h' : Hd} {sh : Int} {az ct : Bool} {ring : Str} (hI : FI ht qs x0 (s :: r) h ⟨sh, az, ring, ct⟩) (ha : az = false) (hc : ct = false) (hm : (decide (0 < ht) && decide (ht ≤ sh)) = false) (hl : h'.len = r.length) {y : Pg}
    (hy : y = (send ⟨h', min (sh + 1) 200, az, ring, ct⟩ (escape s ++ [13, 10])).1) : FI ht qs x0 r h' y := by
  obtain ⟨h1, h2, h3, h4, h5, h6, h7⟩ := hI
  subst ha; subst hc
  simp only at h3 h4 h5
  have h1' := h1
  rw [List.length_cons] at h1'
  have hg : Page.good ⟨h', min (sh + 1) 200, false, ring, false⟩ = true := good_of (by rw [hl]; omega) h3 (by simp only; omega) (by simp only; omega)
  rw [send_put hg] at hy
  subst hy
  refine ⟨by omega, hl, put_ring h3, ?_, ?_, fun t ht => h6 t (by simp [ht]), ?_⟩
  · rw [put_shown]; show 0 ≤ min (sh + 1) 200; omega
  · rw [put_shown]; show min (sh + 1) 200 ≤ 200; omega
  · rw [h7, flow]
    simp only [Bool.or_self, Bool.false_eq_true, if_false, hm]
    rfl
theorem FI.asks {ht : Int} {qs r : List Str} {s : Str} {x0 : Pg} {h : Hd} {sh : Int} {az ct : Bool} {ring : Str} (hI : FI ht qs x0 (s :: r) h ⟨sh, az, ring, ct⟩) (ha : az = false) (hc : ct = false) (hm : (decide (0 < ht) && decide (ht ≤ sh)) = true) :
    flow ht qs x0 = ((send ⟨h, sh, true, ring, ct⟩ moreS).1, s :: r) := by
  obtain ⟨h1, h2, h3, h4, h5, h6, h7⟩ := hI
  have hg : Page.good ⟨h, sh, true, ring, ct⟩ = true := good_of (by rw [h2]; exact h1) h3 h4 h5
  rw [send_put hg, h7, flow, ha, hc]
  simp only [Bool.or_self, Bool.false_eq_true, if_false, hm, if_true]
  rfl
theorem FI.ends {ht : Int} {qs rest : List Str} {x0 x : Pg} {h : Hd} (hI : FI ht qs x0 rest h x) (hc : rest = [] ∨ x.asking = true ∨ x.cut = true) : flow ht qs x0 = (x, rest) := by
  rw [hI.e]
  cases rest with
  | nil => rfl
  | cons s r =>
    have : (x.asking || x.cut) = true := by
      rcases hc with h | h | h
      · cases h
      · simp [h]
      · simp [h]
    rw [flow, if_pos this]
theorem FI.endsB {ht : Int} {qs rest : List Str} {x0 : Pg} {h : Hd} {sh : Int} {az ct : Bool} {ring : Str} (hI : FI ht qs x0 rest h ⟨sh, az, ring, ct⟩) (hc : (decide (0 < (h.len : Int)) && !az && !ct) = false) : flow ht qs x0 = (⟨sh, az, ring, ct⟩, rest) := by
  refine hI.ends ?_
  have hl := hI.hl
  cases rest with
  | nil => exact .inl rfl
  | cons s r =>
    rw [List.length_cons] at hl
    have : decide (0 < (h.len : Int)) = true := decide_eq_true (by omega)
    rw [this] at hc
    cases az with
    | true => exact .inr (.inl rfl)
    | false =>
      cases ct with
      | true => exact .inr (.inr rfl)
      | false => cases hc
theorem FI.endsR {ht : Int} {qs rest : List Str} {x0 : Pg} {h : Hd} {sh : Int} {az ct : Bool} {ring : Str} (hI : FI ht qs x0 rest h ⟨sh, az, ring, ct⟩) (hc : (decide ((h.len : Int) = 0) || az || ct) = true) : flow ht qs x0 = (⟨sh, az, ring, ct⟩, rest) := by
  refine hI.endsB ?_
  by_cases hz : (h.len : Int) = 0
  · have : decide (0 < (h.len : Int)) = false := decide_eq_false (by omega)
    rw [this]; rfl
  · have : decide ((h.len : Int) = 0) = false := decide_eq_false hz
    rw [this] at hc
    cases az <;> cases ct <;> simp_all
theorem cond_eq {ht sh : Int} (h : 0 ≤ ht) : (!decide (ht = 0) && decide (ht ≤ sh)) = (decide (0 < ht) && decide (ht ≤ sh)) := by
  rw [Bool.eq_iff_iff]; simp; omega
theorem drop_cons {s : Str} {k : Int} (h0 : 0 ≤ k) (h1 : k < s.length) : s.drop k.toNat = s.getD k.toNat 0 :: s.drop (k + 1).toNat := by
  have hk' : k.toNat < s.length := by omega
  rw [List.drop_eq_getElem_cons hk', show (k + 1).toNat = k.toNat + 1 by omega]
  simp [List.getD, hk']
theorem esc_next_t {s x : Str} {k : Int} (h0 : 0 ≤ k) (h1 : k < s.length) (hc : decide (((s.getD k.toNat 0).toNat : Int) = 255) = true) (h : x ++ escape (s.drop k.toNat) = escape s) : x ++ [s.getD k.toNat 0] ++ [s.getD k.toNat 0] ++ escape (s.drop (k + 1).toNat) = escape s := by
  rw [← h, drop_cons h0 h1]
  have hb : s.getD k.toNat 0 = 255 := UInt8.toNat_inj.1 (by have h2 := of_decide_eq_true hc; show _ = 255; omega)
  have e : ∀ (b : UInt8) (t : Str), escape (b :: t) = (if b = 255 then [255, 255] else [b]) ++ escape t := fun _ _ => rfl
  rw [e, if_pos hb, hb]; simp
theorem esc_next_f {s x : Str} {k : Int} (h0 : 0 ≤ k) (h1 : k < s.length) (hc : decide (((s.getD k.toNat 0).toNat : Int) = 255) = false) (h : x ++ escape (s.drop k.toNat) = escape s) : x ++ [s.getD k.toNat 0] ++ escape (s.drop (k + 1).toNat) = escape s := by
  rw [← h, drop_cons h0 h1]
  have hb : ¬ s.getD k.toNat 0 = 255 := fun e => by rw [e] at hc; exact absurd hc (by decide)
  have e : ∀ (b : UInt8) (t : Str), escape (b :: t) = (if b = 255 then [255, 255] else [b]) ++ escape t := fun _ _ => rfl
  rw [e, if_neg hb]; simp
theorem esc_done {s x : Str} {k : Int} (h : x ++ escape (s.drop k.toNat) = escape s) (hk : ¬ k < s.length) : x = escape s := by
  rw [List.drop_eq_nil_of_le (by omega)] at h
  simpa [escape] using h
theorem FI.hd {ht : Int} {qs rest : List Str} {x0 x : Pg} {h h' : Hd} (hI : FI ht qs x0 rest h x) (hl : h'.len = rest.length) : FI ht qs x0 rest h' x := ⟨hI.n, hl, hI.ring, hI.s0, hI.s1, hI.len, hI.e⟩
theorem flow_le (ht : Int) (qs : List Str) : ∀ x : Pg, (flow ht qs x).2.length ≤ qs.length := by
  induction qs with
  | nil => intro x; exact Nat.le_refl _
  | cons s r ih =>
    intro x
    rw [flow]
    split
    · exact Nat.le_refl _
    · split
      · exact Nat.le_refl _
      · have := ih (put { x with shown := min (x.shown + 1) 200 } (escape s ++ [13, 10]))
        rw [List.length_cons]; omega
theorem flow_len {ht : Int} {qs : List Str} {x : Pg} (h : qs.length ≤ 9223372036854775807) : (flow ht qs x).2.length ≤ 9223372036854775807 := by
  have := flow_le ht qs x; omega
theorem good_q (p : PageV) {n : Nat} {h : Hd} (e : h.len = n) (e2 : p.wait.len = n) : good ⟨h, p.shown, p.asking, p.ring, p.cut⟩ = good p := by
  unfold good; dsimp only; rw [e, e2]
theorem bad_q (p : PageV) {n : Nat} {h : Hd} {ht : Int} (e : h.len = n) (e2 : p.wait.len = n) : (!good ⟨h, p.shown, p.asking, p.ring, p.cut⟩ || decide (ht < 0) || decide (200 < ht)) = (!good p || decide (ht < 0) || decide (200 < ht)) := by rw [good_q p e e2]
theorem send_q (p : PageV) {n : Nat} {h : Hd} (e : h.len = n) (e2 : p.wait.len = n) (s : Str) : send ⟨h, p.shown, p.asking, p.ring, p.cut⟩ s = send p s := by
  unfold send; rw [good_q p e e2]; rfl
@[reducible] def K (n : Int) (r : Str) : Nat := (max 0 (min n (r.length : Int))).toNat
theorem takes_all (r : Str) {a b : Int} (ha : 0 ≤ a) (hb : 0 ≤ b) : (decide (r.take (K a r) ++ (r.drop (K a r)).take (K b (r.drop (K a r))) = r.take (K (a + b) r)) && decide ((r.drop (K a r)).drop (K b (r.drop (K a r))) = r.drop (K (a + b) r)) && decide (((r.take (K a r)).length : Int) ≤ a) && decide (r.take (K (a + b) r) ++ r.drop (K (a + b) r) = r) && true) = true := by
  have hk : K (a + b) r = K a r + K b (r.drop (K a r)) := by simp only [K, List.length_drop]; omega
  have h1 : r.take (K a r) ++ (r.drop (K a r)).take (K b (r.drop (K a r))) = r.take (K (a + b) r) := by rw [hk, List.take_add]
  have h2 : (r.drop (K a r)).drop (K b (r.drop (K a r))) = r.drop (K (a + b) r) := by rw [hk, List.drop_drop]
  have h3 : (((r.take (K a r)).length : Int) ≤ a) := by rw [List.length_take]; simp only [K]; omega
  rw [h1, h2, decide_eq_true h3, List.take_append_drop]; simp
end Page
end Go.Ing
/- What is escaped is text again. -/
namespace Go.Ing
open Go
namespace Telnet
theorem feed_app (a : Str) : ∀ (X : Telnet) (b : Str), X.feed (a ++ b) = ((((X.feed a).1).feed b).1, (X.feed a).2.1 ++ (((X.feed a).1).feed b).2.1, (X.feed a).2.2 ++ (((X.feed a).1).feed b).2.2) := by
  induction a with
  | nil => intro X b; simp [feed]
  | cons c a ih => intro X b; simp only [List.cons_append, feed, ih, List.append_assoc]
theorem feed_escape (X : Telnet) (h : X.at_ = 0) (u : Str) : X.feed (Page.escape u) = (X, u, []) := by
  induction u with
  | nil => rfl
  | cons b u ih =>
    have e : Page.escape (b :: u) = (if b = 255 then [255, 255] else [b]) ++ Page.escape u := rfl
    rw [e, feed_app]
    by_cases hb : b = 255
    · subst hb
      have e1 : X.step 255 = ({ X with at_ := 1 }, [], []) := by
        unfold step; simp [h]
      have e2 : ({ X with at_ := 1 } : Telnet).step 255 = (X, [255], []) := by
        unfold step
        cases X
        simp only at h
        subst h
        simp
      have e3 : X.feed [255, 255] = (X, [255], []) := by simp only [feed, e1, e2]; rfl
      rw [if_pos rfl, e3]
      simp only [ih]
      rfl
    · have hc : ¬ (b.toNat : Int) = 255 := fun e => hb (UInt8.toNat_inj.1 (by show _ = 255; omega))
      have e1 : X.step b = (X, [b], []) := by
        unfold step; simp [h, hc]
      have e3 : X.feed [b] = (X, [b], []) := by simp only [feed, e1]; rfl
      rw [if_neg hb, e3]
      simp only [ih]
      rfl
theorem Feed_escape {X : Telnet} (hc : (!X.good || !decide (X.at_ = 0)) = false) (u : Str) : X.Feed (Page.escape u) = (X, u, [], 0) := by
  simp only [Bool.or_eq_false_iff, Bool.not_eq_false', decide_eq_true_eq] at hc
  unfold Feed
  rw [hc.1, feed_escape X hc.2]; rfl
end Telnet
end Go.Ing
/- Engine: the program's own variables, as they are laid when a call begins; the decimal numeral. -/
namespace Go.Ing
open Go
/-- Variable g holds just these cells. -/
def GV (g : Nat) (vs : List Value) (w : World) : Prop := ∃ t fz, w.heap[g]? = some (.cells vs.toArray t fz)
theorem GV.of_old {g : Nat} {vs : List Value} {w w' : World} (h : GV g vs w) (ho : ∀ k, k < w.heap.size → w'.heap[k]? = w.heap[k]?) : GV g vs w' := by
  obtain ⟨t, fz, e⟩ := h
  have hg : g < w.heap.size := by
    rcases Nat.lt_or_ge g w.heap.size with h' | h'
    · exact h'
    · rw [Array.getElem?_eq_none h'] at e; cases e
  exact ⟨t, fz, (ho g hg).trans e⟩
theorem GV.st {g : Nat} {vs : List Value} {w0 w : World} {L : List Res} (h : GV g vs w0) (hS : St w0 [] w L) : GV g vs w := h.of_old fun k hk => hS.old k hk (by simp)
theorem GV.keep {g : Nat} {vs : List Value} {w0 w : World} (h : GV g vs w0) (hK : Keep w0 w) : GV g vs w := h.of_old hK.old
section
variable {P : Program} {n : Nat} {w0 : World} {F : List (Nat × Value)} {L : List Res}
theorem PS_ldGV {T U g o : Nat} {x : Operand} {v : Value} {vs : List Value} (hg : GV g vs w0) (hx : ev F x = some (.pointer (some ⟨g, o, none⟩))) (hT : TyS P T) (hv : vs[o]? = some v) : PS P n w0 [] (.load T x) U F L v L := by
  intro a w hF hS
  obtain ⟨t, fz, e⟩ := hg.st hS
  have hc : w.cell? ⟨g, o, none⟩ = some v := (cell_at e).trans hv
  exact ⟨w, by simp [execOp, hF.ev hx, Instr.loadAt, Instr.sureAddr, loadVar, hT w, hc], rfl, rfl⟩
end
/-- From the row's list. -/
theorem var_gv {P : Program} {w : World} {name : String} {g : Nat} {cs : Array Value} {vs : List Value} (hg : P.globalNamed name = some g) (h : w.var? P name = some cs) (e : cs.toList = vs) : GV g vs w := by
  unfold World.var? at h
  rw [hg] at h
  simp only [Option.bind_some] at h
  split at h
  · rename_i c t fz hh
    injection h with h
    subst h
    exact ⟨t, fz, by rw [hh, ← e]⟩
  · cases h
theorem gv_var {P : Program} {w : World} {name : String} {g : Nat} {vs : List Value} (hg : P.globalNamed name = some g) (h : GV g vs w) : w.var? P name = some vs.toArray := by
  obtain ⟨t, fz, e⟩ := h
  unfold World.var?
  rw [hg]
  simp only [Option.bind_some]
  rw [e]
theorem laid_at {P : Program} {w : World} {name : String} {d : DataW Unit} : ∀ (laid : List (String × DataW Unit)) (ps : List MemPlace), DataW.LaidVars P w laid ps → (name, d) ∈ laid →
    ∃ g t cs fuel p, P.globalNamed name = some g ∧ (P.globals[g]?).map (·.type) = some t ∧ w.var? P name = some cs ∧ DataW.trod (fun _ => ()) P w 0 (fun _ => true) false fuel t cs.toList = some (d, p)
  | [], _, _, hm => by cases hm
  | (n, e) :: r, ps, h, hm => by
    obtain ⟨g, t, cs, fuel, p, q, h1, h2, h3, h4, h5, _⟩ := h
    rcases List.mem_cons.1 hm with hm | hm
    · injection hm with e1 e2
      subst e1; subst e2
      exact ⟨g, t, cs, fuel, p, h1, h2, h3, h4⟩
    · exact laid_at r q h5 hm
/-- The table of texts as a row lists it. -/
def strData {H : Type} (ss : List Str) : DataW H := .agg (ss.map fun s => .lit (.string s))
theorem cells_of_strs {H : Type} {enc : TypeId × Value → H} {P : Program} {w : World} {base : Nat} {sp : Nat → Bool} {held : Bool} {fuel : Nat} {t e : TypeId} {n : Nat} {cs : List Value} {zs : List Str} {p : List MemPlace}
    (ht : P.underlying t = some (.array n e)) (he : P.underlying e = some .string) (hce : P.cellsOf e = 1) (hct : P.cellsOf t = n)
    (h : DataW.trod enc P w base sp held fuel t cs = some (strData zs, p)) : cs = zs.map vstr := by
  obtain ⟨xs, m, _, hx, hl, hlen, hf⟩ := DataW.trod_array ht h
  have hxs : xs.map (·.1) = zs.map fun z => (DataW.lit (.string z) : DataW H) := by
    have := congrArg Prod.fst hx
    simpa [strData] using this.symm
  have hzl : zs.length = n := by
    have := congrArg List.length hxs
    simp at this
    omega
  apply List.ext_getElem?
  intro i
  by_cases hi : i < n
  · have h1 := hf i hi
    rw [hce] at h1
    have h2 : xs[i]? = some xs[i] := List.getElem?_eq_getElem (by omega)
    rw [h2] at h1
    obtain ⟨s, hc, e1, _⟩ := DataW.trod_string he h1
    have h3 : cs[i]? = some (.string s) := by
      have := congrArg (·[0]?) hc
      simpa [List.getElem?_take, List.getElem?_drop] using this
    have h4 : (xs.map (·.1))[i]? = some (DataW.lit (.string s.data.toList) : DataW H) := by
      rw [List.getElem?_map, h2, e1]; rfl
    rw [hxs] at h4
    simp only [List.getElem?_map, Option.map_eq_some_iff, DataW.lit.injEq, Lit.string.injEq] at h4
    obtain ⟨z', hz', rfl⟩ := h4
    rw [h3, List.getElem?_map, hz']
    rfl
  · rw [List.getElem?_eq_none (by omega), List.getElem?_eq_none (by simp; omega)]
theorem gv_strs {P : Program} {w : World} {laid : List (String × DataW Unit)} {name : String} {g : Nat} {t e : TypeId} {n : Nat} {ss : List Str} (hL : laidMet P laid w) (hm : (name, strData ss) ∈ laid) (hg : P.globalNamed name = some g) (hty : (P.globals[g]?).map (·.type) = some t) (ht : P.underlying t = some (.array n e)) (he : P.underlying e = some .string) (hce : P.cellsOf e = 1) (hct : P.cellsOf t = n) : GV g (ss.map vstr) w := by
  obtain ⟨ps, hv, _⟩ := hL
  obtain ⟨g', t', cs, fuel, p, hg', ht', hvar, hd⟩ := laid_at _ _ hv hm
  obtain rfl := Option.some.inj (hg.symm.trans hg')
  obtain rfl := Option.some.inj (hty.symm.trans ht')
  exact var_gv hg hvar (cells_of_strs ht he hce hct hd)
theorem gv_ints {P : Program} {w : World} {laid : List (String × DataW Unit)} {name : String} {g : Nat} {t e : TypeId} {n : Nat} {k : IntKind} {zs : List Int} (hL : laidMet P laid w) (hm : (name, Lib.tabData k zs) ∈ laid) (hg : P.globalNamed name = some g) (hty : (P.globals[g]?).map (·.type) = some t) (ht : P.underlying t = some (.array n e)) (he : P.underlying e = some (.int k)) (hce : P.cellsOf e = 1) (hct : P.cellsOf t = n) : GV g (zs.map fun z => Value.int k z) w := by
  obtain ⟨ps, hv, _⟩ := hL
  obtain ⟨g', t', cs, fuel, p, hg', ht', hvar, hd⟩ := laid_at _ _ hv hm
  obtain rfl := Option.some.inj (hg.symm.trans hg')
  obtain rfl := Option.some.inj (hty.symm.trans ht')
  exact var_gv hg hvar (Lib.cells_of_tab ht he hce hct hd)
def pow10V : List Value := Lib.pow10Tab.map fun z => Value.int .u64 z
/-- The contract of a function that answers, and grows the heap alone. -/
theorem Ret.of_grow {P : Program} {f : FuncId} {args : Array Value} {w : World} {v : Value} (h : Calls P f args w fun e w' => e = .returned v ∧ ∃ k os, w' = Sort.grow (w.drewN k) os) : Ret P f args w fun v' w' => v' = v ∧ Keep w w' := by
  refine Calls.mono h fun e w' ⟨e1, k, os, e2⟩ => ⟨v, e1, rfl, ?_⟩
  subst e2
  refine ⟨rfl, rfl, rfl, ?_, fun i hi => ?_⟩
  · show w.heap.size ≤ (w.heap ++ os).size
    rw [Array.size_append]; omega
  · show (w.heap ++ os)[i]? = w.heap[i]?
    rw [Array.getElem?_append_left hi]
section
variable {P : Program} {n : Nat} {w0 : World} {M : List Nat} {Q : Exit → Go.Act → World → Prop} {F : List (Nat × Value)} {L : List Res}
theorem sub_have {d : Nat} {z : Value} (hz : lk d F = some z) : Sub F ((d, z) :: F) := by
  intro k v hk
  simp only [lk] at hk
  cases e : Nat.beq k d with
  | true =>
    have e' : k = d := Nat.eq_of_beq_eq_true e
    subst e'
    rw [e] at hk
    rw [hz]; exact hk
  | false => rw [e] at hk; exact hk
theorem sub_mid {d t : Nat} {z u : Value} (ht : lk t F = none) : Sub ((d, z) :: (t, u) :: F) ((d, z) :: F) := by
  intro k v hk
  simp only [lk] at hk ⊢
  cases e : Nat.beq k d with
  | true => rw [e] at hk; exact hk
  | false =>
    rw [e] at hk
    cases e2 : Nat.beq k t with
    | true =>
      have e' : k = t := Nat.eq_of_beq_eq_true e2
      subst e'
      have hk' : lk k F = some v := hk
      rw [ht] at hk'; cases hk'
    | false => exact hk
/-- 'if c { d = v }': the slot holds the one or the other. -/
theorem G_set1 {α : Type} (f : α → Value) {d id : Nat} {c v : Operand} {T : TypeId} {pos : String} {aft : Array Edge} {b : Bool} {s1 s0 s : α} (hc : ev F c = some (.bool b)) (hd : Nat.blt d n = true) (hv : ev F v = some (f s1)) (hz : lk d F = some (f s0)) (hs : (if b = true then s1 else s0) = s)
    (k : GQ n w0 M Q .normal ((d, f s) :: F) L) : G P n w0 M (.cond c (.region id [⟨some d, .assign v, T, pos, aft, none⟩].toArray false) .skip) Q F L := by
  refine G_cond hc (fun h => ?_) (fun h => ?_)
  · rw [h, if_pos rfl] at hs
    subst hs
    refine G_region (GL_step hd (PS_assign hv) (GL_nil k))
  · rw [h, if_neg (by decide)] at hs
    subst hs
    exact G_skip fun a w hF hS => k a w (hF.sub (sub_have hz)) hS
theorem G_set2 {α : Type} (f : α → Value) {d t id : Nat} {c v : Operand} {T T' : TypeId} {pos pos' : String} {aft aft' : Array Edge} {b : Bool} {s1 s0 s : α} (hc : ev F c = some (.bool b)) (hd : Nat.blt d n = true) (htn : Nat.blt t n = true) (ht : lk t F = none) (hv : ev F v = some (f s1)) (hz : lk d F = some (f s0)) (hs : (if b = true then s1 else s0) = s)
    (k : GQ n w0 M Q .normal ((d, f s) :: F) L) : G P n w0 M (.cond c (.region id [⟨some t, .move v, T, pos, aft, none⟩, ⟨some d, .assign (.tmp t), T', pos', aft', none⟩].toArray false) .skip) Q F L := by
  refine G_cond hc (fun h => ?_) (fun h => ?_)
  · rw [h, if_pos rfl] at hs
    subst hs
    refine G_region (GL_step htn (PS_move hv) (GL_step hd (PS_assign (by simp [ev, lk])) (GL_nil fun a w hF hS => k a w (hF.sub (sub_mid ht)) hS)))
  · rw [h, if_neg (by decide)] at hs
    subst hs
    exact G_skip fun a w hF hS => k a w (hF.sub (sub_have hz)) hS
end
section
open Go.RowKit Go.ChangeShapes Go.WideShapes Go.ChangeAt
variable {H : Type} {enc : TypeId × Value → H} {P : Program} {w : World}
/-- A text within a struct that came in, as a part of its reading. -/
theorem str_field {t T : TypeId} {fs : Array Field} {i o : Nat} {v : Value} {d : DataW H} {p : List MemPlace} {s : Str} (hu : P.underlying t = some (.struct fs)) (hfi : (fs[i]?).map (fun f => (f.type, f.offset)) = some (T, o)) (hT : P.underlying T = some .string) (hz : P.cellsOf T = 1)
    (hd : DataW.Trod enc P w 0 (fun _ => true) true t v d p) (hh : (v.cells.toList.drop o).take 1 = [vstr s]) : ∃ parts, d = .agg parts ∧ DataW.lit (.string s) ∈ parts := by
  obtain ⟨fuel, hf⟩ := hd
  obtain ⟨xs, n, _, hx, hl, hlen, hfl⟩ := DataW.trod_struct hu hf
  cases hfi' : fs[i]? with
  | none => rw [hfi'] at hfi; cases hfi
  | some f =>
    rw [hfi'] at hfi
    simp at hfi
    obtain ⟨rfl, rfl⟩ := hfi
    have h1 := hfl i f hfi'
    have hi : i < fs.size := by
      rcases Nat.lt_or_ge i fs.size with h' | h'
      · exact h'
      · rw [Array.getElem?_eq_none h'] at hfi'; cases hfi'
    have h2 : xs[i]? = some xs[i] := List.getElem?_eq_getElem (by omega)
    rw [h2, hz, hh] at h1
    obtain ⟨s', e1, e2, _⟩ := DataW.trod_string hT h1
    have hs' : s'.data.toList = s := by
      have e3 : vstr s = .string s' := by simpa using e1
      simp [vstr] at e3
      rw [← e3]
    refine ⟨xs.map (·.1), congrArg Prod.fst hx, List.mem_map.2 ⟨xs[i], List.getElem_mem _, ?_⟩⟩
    rw [e2, hs']
end
end Go.Ing
/- Engine: slices that are made, and written element by element. -/
namespace Go.Ing
open Go
theorem splice_one {C cs : List Value} {o i : Nat} {v : Value} (hc : (C.drop o).take cs.length = cs) (hl : o + cs.length ≤ C.length) (hi : i < cs.length) : ((splice C (o + i) [v]).drop o).take (cs.set i v).length = cs.set i v := by
  apply List.ext_getElem?
  intro j
  rw [List.getElem?_take, List.getElem?_drop, splice_get (by simp; omega), List.length_set]
  by_cases h1 : j < cs.length
  · rw [if_pos h1, List.getElem?_set]
    by_cases h2 : i = j
    · subst h2
      rw [if_neg (by omega), if_pos (by simp), if_pos rfl, if_pos hi]
      simp
    · rw [if_neg h2]
      have h3 : cs[j]? = C[o + j]? := by
        conv => lhs; rw [← hc]
        rw [List.getElem?_take, if_pos h1, List.getElem?_drop]
      rw [h3]
      split
      · rfl
      · split
        · rename_i h4 h5; exfalso; simp at h5; omega
        · rfl
  · rw [if_neg h1, List.getElem?_eq_none (by simp; omega)]
section
variable {P : Program} {n : Nat} {w0 : World} {M : List Nat} {Q : Exit → Go.Act → World → Prop} {F F' : List (Nat × Value)} {L L' : List Res} {ops : Array Oper} {rest : List Oper}
theorem PU_stS {T U E i : Nat} {h : Hd} {cs : List Value} {x y : Operand} {v : Value} (hx : ev F x = some (h.ptr i 1 0)) (hy : ev F y = some v) (hv : v.cells = [v].toArray) (h1 : v.oneCell' = true) (hT : Sz P T 1) (hi : i < cs.length) (hL : Upd L (Res.own h E 1 cs) (Res.own h E 1 (cs.set i v)) L') : PU P n w0 M (.store T x y) U F L L' := by
  intro a w hF hS
  rcases hS.ok _ hL.mem with ⟨_, rfl⟩ | ⟨b, o, C, fz, e1, e2, e3, e4, e5, e6, e7, e8⟩
  · simp at hi
  · have hlen : o + cs.length ≤ C.length := by have := Nat.mul_le_mul_right 1 e6; omega
    obtain ⟨w', s1, s2, s3, s4, s5, s6, s7⟩ := storeCells_fz (P := P) (o := o + i) [v] w C 0 e3 (fun u hu => by simp at hu; subst hu; exact h1) (by simp; omega) e4
    refine ⟨w', ?_, hS.turn hL s5 s6 s7 (by omega) (fun k _ hk => s3 k (by simpa [Res.own, e1] using hk)) ?_ ?_⟩
    · rw [Hd.ptr_of e1] at hx
      simp only [Nat.mul_one, Nat.add_zero] at hx
      simp only [execOp, hF.ev hx, hF.ev hy, Instr.storeAt, Instr.sureAddr, storeVar, hv]
      simp [hT w, s1]
    · refine .inr ⟨b, o, splice C (o + i) [v], fz, e1, by omega, by simpa using s2, ?_, ?_, e6, ?_, ?_⟩
      · rw [splice_length (by simp; omega)]; exact e4
      · rw [splice_length (by simp; omega)]; exact e5
      · rw [List.length_set]; exact e7
      · exact splice_one e8 hlen hi
    · intro k hk
      simp [Res.own, e1] at hk
      subst hk
      exact ⟨by omega, .inl (by simp [Res.own, e1])⟩
theorem map_of_flat {α : Type} {e : α → List Value} {f : α → Value} (he : ∀ x, e x = [f x]) : ∀ xs : List α, xs.flatMap e = xs.map f
  | [] => rfl
  | x :: r => by rw [List.flatMap_cons, he, map_of_flat he r]; rfl
theorem flat_set {α : Type} {e : α → List Value} {f : α → Value} (he : ∀ x, e x = [f x]) (xs : List α) (i : Nat) (x : α) : (xs.flatMap e).set i (f x) = (xs.set i x).flatMap e := by
  rw [map_of_flat he, map_of_flat he, List.map_set]
theorem PU_stStr {T U E i : Nat} {h : Hd} {xs : List Str} {s : Str} {x y : Operand} (hx : ev F x = some (h.ptr i 1 0)) (hy : ev F y = some (vstr s)) (hT : Sz P T 1) (hi : i < xs.length) (hL : Upd L (Res.own h E 1 (xs.flatMap encS)) (Res.own h E 1 ((xs.set i s).flatMap encS)) L') : PU P n w0 M (.store T x y) U F L L' :=
  PU_stS (cs := xs.flatMap encS) hx hy rfl rfl hT (by rw [map_of_flat (e := encS) (f := vstr) (fun _ => rfl), List.length_map]; exact hi) (by rw [flat_set (e := encS) (f := vstr) (fun _ => rfl)]; exact hL)
theorem PU_stY {T U E i : Nat} {h : Hd} {xs : Str} {z : Int} {x y : Operand} (hx : ev F x = some (h.ptr i 1 0)) (hy : ev F y = some (.int .u8 z)) (hz : 0 ≤ z ∧ z ≤ 255) (hT : Sz P T 1) (hi : i < xs.length) (hL : Upd L (Res.own h E 1 (xs.flatMap encY)) (Res.own h E 1 ((xs.set i (u8 z)).flatMap encY)) L') : PU P n w0 M (.store T x y) U F L L' :=
  PU_stS (cs := xs.flatMap encY) hx hy rfl rfl hT (by rw [encY_map, List.length_map]; exact hi) (by
    have := flat_set (e := encY) (f := fun c => .int .u8 (c.toNat : Int)) (fun _ => rfl) xs i (u8 z)
    rw [u8_val hz.1 hz.2] at this
    rw [this]; exact hL)
theorem GL_mkStrs {d : Nat} {t E : TypeId} {T : TypeId} {pos : String} {aft : Array Edge} {x y : Operand} {m : Int} (hd : Nat.blt d n = true) (hu : P.underlying t = some (.slice E)) (hs : Sz P E 1) (hz : ZV P E (.string ⟨#[]⟩)) (hb : BY P E 16) (hx : ev F x = some (.int .i64 m)) (hy : ev F y = some (.int .i64 m)) (h0 : 0 ≤ m) (hm : m ≤ 17592186044416)
    (k : ∀ b : Nat, GL P n w0 M ops Q rest ((d, Hd.val ⟨some ⟨b, 0, none⟩, m.toNat, m.toNat⟩) :: F) (Res.own ⟨some ⟨b, 0, none⟩, m.toNat, m.toNat⟩ E 1 ((List.replicate m.toNat ([] : Str)).flatMap encS) :: L)) : GL P n w0 M ops Q (⟨some d, .makeSlice t x y, T, pos, aft, none⟩ :: rest) F L := by
  refine GL_new (R := fun v L' => ∃ b : Nat, v = Hd.val ⟨some ⟨b, 0, none⟩, m.toNat, m.toNat⟩ ∧ L' = Res.own ⟨some ⟨b, 0, none⟩, m.toNat, m.toNat⟩ E 1 ((List.replicate m.toNat ([] : Str)).flatMap encS) :: L) hd ?_ (fun v L' ⟨b, e1, e2⟩ => by subst e1; subst e2; exact k b)
  intro a w hF hS
  obtain ⟨N, rfl⟩ := Int.eq_ofNat_of_zero_le h0
  have hN : N ≤ 17592186044416 := by omega
  obtain ⟨i, hi, hib⟩ := hb
  have hti : ∀ w, (typeInfo E).run P w = .ok i w := fun w => by simp [typeInfo, hi]
  let C : List Value := (List.replicate N ([] : Str)).flatMap encS
  have hC : C = List.replicate N (vstr []) := by
    show (List.replicate N ([] : Str)).flatMap encS = _
    rw [map_of_flat (e := encS) (f := vstr) (fun _ => rfl), List.map_replicate]
  have hCl : C.length = N := by rw [hC]; simp
  have hw1 := hS.alloc E C
  have hS' : St w0 M (w.alloc (.cells C.toArray E)) (Res.own ⟨some ⟨w.heap.size, 0, none⟩, N, N⟩ E 1 C :: L) := by
    refine hw1.turn (.head) rfl rfl rfl (Nat.le_refl _) (fun _ _ _ => rfl) ?_ (fun b hb => ?_)
    · refine .inr ⟨w.heap.size, 0, C, (0, 0), rfl, by simp, ?_, fun _ _ h => by simp at h, ?_, Nat.le_refl _, ?_, ?_⟩
      · have := hw1.ok _ (List.mem_cons_self ..)
        exact this
      · show 0 + N * 1 ≤ _; omega
      · show N * 1 = _; omega
      · show (C.drop 0).take _ = _
        rw [List.drop_zero, List.take_length]
    · simp [Res.own] at hb
      subst hb
      exact ⟨by simp, .inl (by simp [Res.box])⟩
  refine ⟨_, _, _, ⟨w.heap.size, rfl, rfl⟩, ?_, by simpa using hS'⟩
  have hcells : ((Array.range N).map fun j => (#[Value.string ⟨#[]⟩] : Array Value)[j % 1]!) = C.toArray := by
    apply Array.ext'
    rw [hC]
    simp [vstr, Nat.mod_one]
    exact List.eq_replicate_iff.2 ⟨by simp, by simp⟩
  have hwr : IntKind.i64.wrap (N : Int) = N := IntWalk.i64_in _ (by omega)
  have g1 : ¬ (281474976710656 : Int) < 16 * (N : Int) := by omega
  have hx' := hF.ev hx
  have hy' := hF.ev hy
  have hwr0 : IntKind.i64.wrap 0 = 0 := by decide
  by_cases hN0 : N = 0
  · subst hN0
    simp [execOp, hx', hy', Instr.makeSlice, run_underlying hu, hti, hib, hwr0, asInt, asIntOf, hs w, newRow, Hd.val]
    refine congrArg (fun c => w.alloc (Obj.cells c E)) (Array.ext' ?_)
    rw [List.length_eq_zero_iff.1 hCl, Array.toList_map, Array.toList_range]
    rfl
  · have g0 : ¬ (N : Int) < 0 := by omega
    simp [execOp, hx', hy', Instr.makeSlice, run_underlying hu, hti, hib, hwr, g0, g1, asInt, asIntOf, hs w, hN0, hz w, newRow, Hd.val]
    exact congrArg (fun c => w.alloc (Obj.cells c E)) hcells
theorem PS_ldGVA {T U g sz : Nat} {x : Operand} {vs cs : List Value} (hg : GV g vs w0) (e : cs = vs) (hx : ev F x = some (.pointer (some ⟨g, 0, none⟩))) (hT : TyA P T sz) (hl : cs.length = sz) : PS P n w0 [] (.load T x) U F L (.agg cs.toArray) L := by
  intro a w hF hS
  subst e
  obtain ⟨t, fz, hb⟩ := hg.st hS
  refine ⟨w, ?_, rfl, rfl⟩
  simp only [execOp, hF.ev hx, Instr.loadAt, Instr.sureAddr, loadVar]
  simp [hT.1 w, hT.2 w, loadCells_at hb (Nat.le_of_eq (by omega : 0 + sz = cs.length))]
  rw [← hl, List.take_length]
end
end Go.Ing
/- Engine: errors; the numeral that is read. -/
namespace Go.Ing
open Go
/-- Variable g holds some error. -/
def GVE (g : Nat) (w : World) : Prop := ∃ tp p, GV g [.iface tp p] w
theorem GVE.st {g : Nat} {w0 w : World} {L : List Res} (h : GVE g w0) (hS : St w0 [] w L) : GVE g w := by
  obtain ⟨tp, p, h⟩ := h; exact ⟨tp, p, h.st hS⟩
theorem Keep.of_below {w w' : World} (h : RowKit.Below w.heap.size w w') : Keep w w' := ⟨h.os, h.tape, h.output, h.size, h.block⟩
section
variable {P : Program} {n : Nat} {w0 : World} {M : List Nat} {F : List (Nat × Value)} {L : List Res}
theorem PS_neqi_nil {U V T : TypeId} {ms : Array (String × TypeId)} {x : Operand} (hu : P.underlying U = some (.interface ms)) (hx : ev F x = some .nilIface) : PS P n w0 M (.binOp .neq U x (.const .nilIface) V) T F L (.bool false) L := PS_of fun e w hF => by
  have hu' : (underlying U).run P w = .ok (.interface ms) w := by simp [underlying, hu]
  have h : ∀ d : Nat, (Op.equalIn (d + 1) U .nilIface .nilIface).run P w = .ok true w := fun d => by simp [Op.equalIn, hu']
  have h2 : (Op.equal U .nilIface .nilIface).run P w = .ok true w := h _
  have hg : e.eval (.const .nilIface) = .nilIface := rfl
  simp [execOp, hF.ev hx, hg, eqGuard, binOp, h2]
theorem PS_neqi {U V T t : TypeId} {ms : Array (String × TypeId)} {v : Value} {x : Operand} (hu : P.underlying U = some (.interface ms)) (hx : ev F x = some (.iface t v)) : PS P n w0 M (.binOp .neq U x (.const .nilIface) V) T F L (.bool true) L := PS_of fun e w hF => by
  have hu' : (underlying U).run P w = .ok (.interface ms) w := by simp [underlying, hu]
  have h : ∀ d : Nat, (Op.equalIn (d + 1) U (.iface t v) .nilIface).run P w = .ok false w := fun d => by simp [Op.equalIn, hu']
  have h2 : (Op.equal U (.iface t v) .nilIface).run P w = .ok false w := h _
  have hg : e.eval (.const .nilIface) = .nilIface := rfl
  simp [execOp, hF.ev hx, hg, eqGuard, binOp, h2]
end
theorem atoi_ctr {P : Program} {ρ : Shelf.Ren} (L : Proofs.LaysC.n172 P ρ) (s : Str) (hs : s.length ≤ 140737488351232) {gs gr : Nat} (hgs : P.globalNamed "strconv.ErrSyntax" = some gs) (hgr : P.globalNamed "strconv.ErrRange" = some gr) :
    CtrR P (ρ.f 172) #[vstr s] [] (fun w => GVE gs w ∧ GVE gr w) (fun v B => (∃ k : Int, Lib.atoiAll s = .ok k ∧ v = .tuple #[.int .i64 k, .nilIface] ∧ B = []) ∨ (∃ (k : Int) (t : TypeId) (x : Value), (∀ j, Lib.atoiAll s ≠ .ok j) ∧ v = .tuple #[.int .i64 k, .iface t x] ∧ B = [])) := by
  intro w hS ⟨⟨tp, p, h1⟩, ⟨tq, q, h2⟩⟩
  have v1 := gv_var hgs h1
  have v2 := gv_var hgr h2
  have hsz : (⟨s.toArray⟩ : ByteArray).size = s.length := by simp [ByteArray.size]
  have hl : (⟨s.toArray⟩ : ByteArray).data.toList = s := by simp
  cases h : Lib.atoiAll s
  · rename_i k
    refine Calls.mono (Proofs.Any.strconv_Atoi_ok L ⟨s.toArray⟩ (by omega) k (by rw [hl]; exact h) w) fun e w' ⟨e1, e2⟩ => ⟨_, e1, [], .inl ⟨k, rfl, rfl, rfl⟩, ?_⟩
    rcases e2 with rfl | ⟨t, rfl⟩
    · exact hS
    · exact hS.keep (Keep.of_below (Lib.bytesWorld_below _ _ _))
  · refine Calls.mono (Proofs.Any.strconv_Atoi_syntax_var L ⟨s.toArray⟩ (by omega) (by rw [hl]; exact h) tp p w v1) fun e w' ⟨N, e1, _, _, e2⟩ => ⟨_, e1, [], .inr ⟨_, _, _, (fun (j : Int) hj => by cases hj), rfl, rfl⟩, hS.keep (Keep.of_below e2)⟩
  · refine Calls.mono (Proofs.Any.strconv_Atoi_range_var L ⟨s.toArray⟩ (by omega) (by rw [hl]; exact h) tq q w v2) fun e w' ⟨N, e1, _, _, e2⟩ => ⟨_, e1, [], .inr ⟨_, _, _, (fun (j : Int) hj => by cases hj), rfl, rfl⟩, hS.keep (Keep.of_below e2)⟩
theorem trod_iface {H : Type} {enc : TypeId × Value → H} {P : Program} {w : World} {base : Nat} {sp : Nat → Bool} {held : Bool} {fuel t : Nat} {cs : List Value} {ms : Array (String × TypeId)} {nm : String} {d : DataW H} {p : List MemPlace} (hu : P.underlying t = some (.interface ms)) (h : DataW.trod enc P w base sp held fuel t cs = some (.iface nm d, p)) : ∃ u v, cs = [.iface u v] := by
  cases fuel with
  | zero => simp [DataW.trod] at h
  | succ n =>
    unfold DataW.trod at h
    rw [hu] at h
    split at h <;> simp_all
theorem gve {P : Program} {w : World} {laid : List (String × DataW Unit)} {name : String} {d d' : DataW Unit} {nm : String} {g : Nat} {t : TypeId} {ms : Array (String × TypeId)} (hL : laidMet P laid w) (hm : (name, d) ∈ laid) (hd : d = .iface nm d') (hg : P.globalNamed name = some g) (hty : (P.globals[g]?).map (·.type) = some t) (ht : P.underlying t = some (.interface ms)) : GVE g w := by
  subst hd
  obtain ⟨ps, hv, _⟩ := hL
  obtain ⟨g', t', cs, fuel, p, hg', ht', hvar, h⟩ := laid_at _ _ hv hm
  obtain rfl := Option.some.inj (hg.symm.trans hg')
  obtain rfl := Option.some.inj (hty.symm.trans ht')
  obtain ⟨u, v, e⟩ := trod_iface ht h
  exact ⟨u, v, var_gv hg hvar e⟩
end Go.Ing
/- The program's data, in Lean, and their parts. -/
namespace Go.Ing
open Go
structure TurnV where
  w : Land
  b : Int
  out : Hd
instance : Inhabited TurnV := ⟨⟨default, 0, ⟨none, 0, 0⟩⟩⟩
def TurnV.enc (x : TurnV) : List Value := Land.enc x.w ++ encI x.b ++ encH x.out
theorem TurnV.fl : Flat TurnV.enc 167 := ⟨fun x => by simp [TurnV.enc, Land.fl.len, flH.len, flI.len], fun x v hv => by
  simp only [TurnV.enc, List.mem_append] at hv
  rcases hv with (h | h) | h
  · exact Land.fl.one _ v h
  · exact flI.one _ v h
  · exact flH.one _ v h⟩
theorem TurnV.l0 : Lens TurnV.enc (Land.enc) 0 165 (fun x => x.w) (fun x y => { x with w := y }) :=
  Lens.mid Land.fl (fun _ => []) (fun x => encI x.b ++ encH x.out) (fun _ => rfl) (fun x => by simp [TurnV.enc]) (fun x y => by simp [TurnV.enc])
theorem TurnV.l1 : Lens TurnV.enc (encI) 165 1 (fun x => x.b) (fun x y => { x with b := y }) :=
  Lens.mid flI (fun x => Land.enc x.w) (fun x => encH x.out) (fun x => by simp [Land.fl.len]) (fun x => by simp [TurnV.enc]) (fun x y => by simp [TurnV.enc])
theorem TurnV.l2 : Lens TurnV.enc (encH) 166 1 (fun x => x.out) (fun x y => { x with out := y }) :=
  Lens.mid flH (fun x => Land.enc x.w ++ encI x.b) (fun _ => []) (fun x => by simp [Land.fl.len, flI.len]) (fun x => by simp [TurnV.enc]) (fun x y => by simp [TurnV.enc])
end Go.Ing
/- Engine: the program's own variables, beside what is handed on. -/
namespace Go.Ing
open Go
section
variable {w0 w : World} {M : List Nat} {L A K : List Res} {g : Nat} {vs : List Value}
theorem GV.lt (h : GV g vs w) : g < w.heap.size := by
  obtain ⟨t, fz, e⟩ := h
  rcases Nat.lt_or_ge g w.heap.size with h' | h'
  · exact h'
  · rw [Array.getElem?_eq_none h'] at e; cases e
theorem GV.stM (h : GV g vs w0) (hM : g ∉ M) (hS : St w0 M w L) : GV g vs w := by
  have hg := h.lt
  obtain ⟨t, fz, e⟩ := h
  exact ⟨t, fz, (hS.old g hg hM).trans e⟩
theorem not_feet (hg : g < w0.heap.size) (hM : g ∉ M) (hS : St w0 M w L) (hp : Pulls L A K) : g ∉ feet A := by
  intro hf
  obtain ⟨r, hr, hb⟩ := List.mem_flatMap.1 hf
  have hm : r ∈ L := hp.perm.symm.subset (List.mem_append_left _ hr)
  exact hM ((hS.foot r hm g hb).2 hg)
theorem GV.pull (h : GV g vs w0) (hM : g ∉ M) (hS : St w0 M w L) (hp : Pulls L A K) : GV g vs w ∧ g ∉ feet A := ⟨h.stM hM hS, not_feet h.lt hM hS hp⟩
theorem GVE.stM (h : GVE g w0) (hM : g ∉ M) (hS : St w0 M w L) : GVE g w := by
  obtain ⟨tp, p, h⟩ := h; exact ⟨tp, p, h.stM hM hS⟩
theorem GVE.pull (h : GVE g w0) (hM : g ∉ M) (hS : St w0 M w L) (hp : Pulls L A K) : GVE g w ∧ g ∉ feet A := by
  obtain ⟨tp, p, h⟩ := h; exact ⟨⟨tp, p, h.stM hM hS⟩, not_feet h.lt hM hS hp⟩
end
section
variable {P : Program} {n : Nat} {w0 : World} {M : List Nat} {Q : Exit → Go.Act → World → Prop} {F F' : List (Nat × Value)} {L L' : List Res} {ops : Array Oper} {rest : List Oper}
/-- A part of the call's own slice. -/
theorem GL_cutMidF {α : Type} {e : α → List Value} {d T U E sz : Nat} {x y z : Operand} {pos : String} {aft : Array Edge} {h : Hd} {xs : List α} {kd kz : IntKind} {i j : Int} {Lf : Res → List Res} (fe : Flat e sz) (hd : Nat.blt d n = true) (hT : P.underlying T = some (.slice E)) (hs : Sz P E sz) (hx : ev F x = some h.val) (hy : ev F y = some (.int kd i)) (hz : ev F z = some (.int kz j)) (h0 : 0 ≤ i) (h1 : i ≤ j) (h2 : j ≤ (h.len : Int)) (hU : ∀ r, Upd L (Res.own h E sz (xs.flatMap e)) r (Lf r))
    (k : GL P n w0 M ops Q rest ((d, (h.cut i.toNat j.toNat sz).val) :: F) (Lf (Res.own (h.cut i.toNat j.toNat sz) E sz (((xs.take j.toNat).drop i.toNat).flatMap e)))) : GL P n w0 M ops Q (⟨some d, .slice T x (some y) (some z) none, U, pos, aft, none⟩ :: rest) F L := by
  refine GL_new (R := fun v L' => v = (h.cut i.toNat j.toNat sz).val ∧ L' = Lf (Res.own (h.cut i.toNat j.toNat sz) E sz (((xs.take j.toNat).drop i.toNat).flatMap e))) hd ?_ (fun v L' ⟨e1, e2⟩ => by subst e1; subst e2; exact k)
  intro a w hF hS
  have hok := hS.ok _ (hU ⟨[], fun _ => True, fun _ _ _ _ => trivial⟩).mem
  have hr : Rd w h E sz (xs.flatMap e) := Kn.own (M := M) (hU ⟨[], fun _ => True, fun _ _ _ _ => trivial⟩).mem w hS
  have hcap : h.len ≤ h.cap := by
    rcases hok with ⟨rfl, _⟩ | ⟨b, o, C, fz, e1, e2, e3, e4, e5, e6, _⟩
    · exact Nat.le_refl _
    · exact e6
  have hil : i.toNat ≤ j.toNat := by omega
  have hjl : j.toNat ≤ h.len := by omega
  have hlc : h.len * sz ≤ h.cap * sz := Nat.mul_le_mul_right sz hcap
  have hjc : j.toNat * sz ≤ h.len * sz := Nat.mul_le_mul_right sz hjl
  have hll : i.toNat * sz ≤ j.toNat * sz := Nat.mul_le_mul_right sz hil
  have hcs : ((xs.flatMap e).take (j.toNat * sz)).drop (i.toNat * sz) = ((xs.take j.toNat).drop i.toNat).flatMap e := cut_flat fe xs
  have hlen : (((xs.take j.toNat).drop i.toNat).flatMap e).length = j.toNat * sz - i.toNat * sz := by
    rw [← hcs, List.length_drop, List.length_take, ← hr.1, Nat.min_eq_left hjc]
  refine ⟨_, _, w, ⟨rfl, rfl⟩, ?_, ?_⟩
  · have hs' := hs w
    have hjcap : j ≤ (h.cap : Int) := by omega
    simp only [execOp, hF.ev hx, Option.map_some, Option.map_none, hF.ev hy, hF.ev hz, Hd.val, Instr.sliceAt, Instr.slice, underlying]
    simp [hT, Instr.sliceBounds, Instr.sliceBound, asIntOf, h1, h0, hs', Hd.cut, hjcap, show 0 ≤ j by omega, show i ≤ max j 0 by omega]
  · refine hS.turn (hU _) rfl rfl rfl (Nat.le_refl _) (fun _ _ _ => rfl) ?_ ?_
    · rcases hok with ⟨rfl, hn⟩ | ⟨b, o, C, fz, e1, e2, e3, e4, e5, e6, e7, e8⟩
      · have hj0 : j.toNat = 0 := by simp at hjl; omega
        have hi0 : i.toNat = 0 := by omega
        refine .inl ⟨by simp [Hd.cut, hj0, hi0], ?_⟩
        rw [List.eq_nil_of_length_eq_zero (l := ((xs.take j.toNat).drop i.toNat).flatMap e) (by rw [hlen, hj0]; simp)]
      · by_cases hci : h.cap = i.toNat
        · have hji : j.toNat = i.toNat := by omega
          refine .inr ⟨b, o, C, fz, by simp only [Hd.cut]; rw [if_pos hci]; exact e1, e2, e3, e4, ?_, ?_, ?_, ?_⟩
          · simp only [Hd.cut]; rw [hci, Nat.sub_self, Nat.zero_mul]; omega
          · simp only [Hd.cut]; omega
          · simp only [Hd.cut]; rw [hlen, Nat.sub_mul]
          · have hl0 : (((xs.take j.toNat).drop i.toNat).flatMap e).length = 0 := by rw [hlen, hji]; omega
            rw [List.eq_nil_of_length_eq_zero hl0]; simp
        · refine .inr ⟨b, o + i.toNat * sz, C, fz, by simp only [Hd.cut]; rw [if_neg hci, e1]; simp [add_at], e2, e3, fun j hj h => e4 j (by omega) h, ?_, ?_, ?_, ?_⟩
          · simp only [Hd.cut]; rw [Nat.sub_mul]; omega
          · simp only [Hd.cut]; omega
          · simp only [Hd.cut]; rw [hlen, Nat.sub_mul]
          · have hX : xs.flatMap e = (C.drop o).take (h.len * sz) := by rw [hr.1]; exact e8.symm
            have hY : ((xs.take j.toNat).drop i.toNat).flatMap e = ((C.drop o).take (j.toNat * sz)).drop (i.toNat * sz) := by rw [← hcs, hX, List.take_take, Nat.min_eq_left hjc]
            rw [hlen, hY, List.drop_take, List.drop_drop]
    · intro b hb
      have hb' : b ∈ (Res.own h E sz (xs.flatMap e)).foot := by
        revert hb
        simp only [Res.own, Hd.cut]
        cases ha : h.a with
        | none => by_cases hc : h.cap = i.toNat <;> simp [hc]
        | some a =>
          by_cases hc : h.cap = i.toNat
          · simp [hc]
          · simp only [hc, if_false, Option.map_some]
            unfold Addr.add
            split <;> simp
      exact ⟨(hS.foot _ (hU ⟨[], fun _ => True, fun _ _ _ _ => trivial⟩).mem b hb').1, .inl hb'⟩
theorem Upd.same' {L L' : List Res} {r r' : Res} (h : Upd L r r' L') (e : r = r') : L' = L := by
  induction h with
  | head => subst e; rfl
  | tail _ ih => rw [ih e]
/-- What a box holds, said in other words. -/
theorem GL_swap {b T : Nat} {c c' : List Value} {Lf : Res → List Res} (hU : ∀ r, Upd L (Res.box b T c) r (Lf r)) (e : c = c') (k : GL P n w0 M ops Q rest F (Lf (Res.box b T c'))) : GL P n w0 M ops Q rest F L := by
  subst e
  rwa [(hU (Res.box b T c)).same' rfl] at k
theorem G_swap {cd : Code} {b T : Nat} {c c' : List Value} {Lf : Res → List Res} (hU : ∀ r, Upd L (Res.box b T c) r (Lf r)) (e : c = c') (k : G P n w0 M cd Q F (Lf (Res.box b T c'))) : G P n w0 M cd Q F L := by
  subst e
  rwa [(hU (Res.box b T c)).same' rfl] at k
theorem GQ_swap {x : Exit} {b T : Nat} {c c' : List Value} {Lf : Res → List Res} (hU : ∀ r, Upd L (Res.box b T c) r (Lf r)) (e : c = c') (k : GQ n w0 M Q x F (Lf (Res.box b T c'))) : GQ n w0 M Q x F L := by
  subst e
  rwa [(hU (Res.box b T c)).same' rfl] at k
theorem G_fact {Pr : Prop} {cd : Code} (hp : ∀ w, St w0 M w L → Pr) (k : Pr → G P n w0 M cd Q F L) : G P n w0 M cd Q F L := fun a w hF hS => k (hp w hS) a w hF hS
theorem PS_ldGVM {T U g o : Nat} {x : Operand} {v : Value} {vs : List Value} (hg : GV g vs w0) (hM : g ∉ M) (hx : ev F x = some (.pointer (some ⟨g, o, none⟩))) (hT : TyS P T) (hv : vs[o]? = some v) : PS P n w0 M (.load T x) U F L v L := by
  intro a w hF hS
  obtain ⟨t, fz, e⟩ := hg.stM hM hS
  have hc : w.cell? ⟨g, o, none⟩ = some v := (cell_at e).trans hv
  exact ⟨w, by simp [execOp, hF.ev hx, Instr.loadAt, Instr.sureAddr, loadVar, hT w, hc], rfl, rfl⟩
/-- A part of one cell of an element of a slice. -/
theorem PS_ldF {α β : Type} [Inhabited α] {ea : α → List Value} {eb : β → List Value} {sz p q : Nat} {g : α → β} {s : α → β → α} {T U E i : Nat} {h : Hd} {x : Operand} {xs : List α} {v : Value}
    (hx : ev F x = some (h.ptr i sz p)) (hT : TyS P T) (fe : Flat ea sz) (hl : Lens ea eb p q g s) (hk : Kn w0 M L h E sz (xs.flatMap ea)) (hi : i < xs.length) (hv : eb (g (xs.getD i default)) = [v]) : PS P n w0 M (.load T x) U F L v L := by
  have e : xs.getD i default = xs[i] := by simp [List.getD, hi]
  rw [e] at hv
  exact PS_ldS hx hT fe hl hk hi hv
end
section
variable {p : Prop} [Decidable p] {a b : Bool} {m n : Int}
theorem kDa : (decide p = true) = p := decide_eq_true_eq
theorem kDb : (decide p = false) = ¬ p := propext decide_eq_false_iff_not
theorem kNa : ((!a) = true) = (a = false) := Bool.not_eq_true' a
theorem kNb : ((!a) = false) = (a = true) := Bool.not_eq_false' a
theorem kOa : ((a || b) = true) = (a = true ∨ b = true) := Bool.or_eq_true a b
theorem kAa : ((a && b) = true) = (a = true ∧ b = true) := Bool.and_eq_true a b
theorem kOb : ((a || b) = false) = (a = false ∧ b = false) := propext Bool.or_eq_false_iff
theorem kAb : ((a && b) = false) = (a = false ∨ b = false) := propext Bool.and_eq_false_iff
theorem kLa : (¬ m < n) = (n ≤ m) := propext Int.not_lt
theorem kLb : (¬ m ≤ n) = (n < m) := propext Int.not_le
end
end Go.Ing
/- Engine: the same rules, said shorter. -/
namespace Go.Ing
open Go
section
variable {F : List (Nat × Value)} {v0 v1 v2 v3 v4 v5 v6 v7 v8 v9 v10 v11 : Value}
theorem Sub.t1 (k0 : Nat) (h0 : lk k0 F = some v0 := by rfl) : Sub F [(k0, v0)] := .cons h0 (.nil _)
theorem Sub.t2 (k0 k1 : Nat) (h0 : lk k0 F = some v0 := by rfl) (h1 : lk k1 F = some v1 := by rfl) : Sub F [(k0, v0), (k1, v1)] := .cons h0 (.cons h1 (.nil _))
theorem Sub.t3 (k0 k1 k2 : Nat) (h0 : lk k0 F = some v0 := by rfl) (h1 : lk k1 F = some v1 := by rfl) (h2 : lk k2 F = some v2 := by rfl) : Sub F [(k0, v0), (k1, v1), (k2, v2)] := .cons h0 (.cons h1 (.cons h2 (.nil _)))
theorem Sub.t4 (k0 k1 k2 k3 : Nat) (h0 : lk k0 F = some v0 := by rfl) (h1 : lk k1 F = some v1 := by rfl) (h2 : lk k2 F = some v2 := by rfl) (h3 : lk k3 F = some v3 := by rfl) : Sub F [(k0, v0), (k1, v1), (k2, v2), (k3, v3)] := .cons h0 (.cons h1 (.cons h2 (.cons h3 (.nil _))))
theorem Sub.t5 (k0 k1 k2 k3 k4 : Nat) (h0 : lk k0 F = some v0 := by rfl) (h1 : lk k1 F = some v1 := by rfl) (h2 : lk k2 F = some v2 := by rfl) (h3 : lk k3 F = some v3 := by rfl) (h4 : lk k4 F = some v4 := by rfl) : Sub F [(k0, v0), (k1, v1), (k2, v2), (k3, v3), (k4, v4)] := .cons h0 (.cons h1 (.cons h2 (.cons h3 (.cons h4 (.nil _)))))
theorem Sub.t6 (k0 k1 k2 k3 k4 k5 : Nat) (h0 : lk k0 F = some v0 := by rfl) (h1 : lk k1 F = some v1 := by rfl) (h2 : lk k2 F = some v2 := by rfl) (h3 : lk k3 F = some v3 := by rfl) (h4 : lk k4 F = some v4 := by rfl) (h5 : lk k5 F = some v5 := by rfl) : Sub F [(k0, v0), (k1, v1), (k2, v2), (k3, v3), (k4, v4), (k5, v5)] := .cons h0 (.cons h1 (.cons h2 (.cons h3 (.cons h4 (.cons h5 (.nil _))))))
theorem Sub.t7 (k0 k1 k2 k3 k4 k5 k6 : Nat) (h0 : lk k0 F = some v0 := by rfl) (h1 : lk k1 F = some v1 := by rfl) (h2 : lk k2 F = some v2 := by rfl) (h3 : lk k3 F = some v3 := by rfl) (h4 : lk k4 F = some v4 := by rfl) (h5 : lk k5 F = some v5 := by rfl) (h6 : lk k6 F = some v6 := by rfl) : Sub F [(k0, v0), (k1, v1), (k2, v2), (k3, v3), (k4, v4), (k5, v5), (k6, v6)] := .cons h0 (.cons h1 (.cons h2 (.cons h3 (.cons h4 (.cons h5 (.cons h6 (.nil _)))))))
theorem Sub.t8 (k0 k1 k2 k3 k4 k5 k6 k7 : Nat) (h0 : lk k0 F = some v0 := by rfl) (h1 : lk k1 F = some v1 := by rfl) (h2 : lk k2 F = some v2 := by rfl) (h3 : lk k3 F = some v3 := by rfl) (h4 : lk k4 F = some v4 := by rfl) (h5 : lk k5 F = some v5 := by rfl) (h6 : lk k6 F = some v6 := by rfl) (h7 : lk k7 F = some v7 := by rfl) : Sub F [(k0, v0), (k1, v1), (k2, v2), (k3, v3), (k4, v4), (k5, v5), (k6, v6), (k7, v7)] := .cons h0 (.cons h1 (.cons h2 (.cons h3 (.cons h4 (.cons h5 (.cons h6 (.cons h7 (.nil _))))))))
theorem Sub.t9 (k0 k1 k2 k3 k4 k5 k6 k7 k8 : Nat) (h0 : lk k0 F = some v0 := by rfl) (h1 : lk k1 F = some v1 := by rfl) (h2 : lk k2 F = some v2 := by rfl) (h3 : lk k3 F = some v3 := by rfl) (h4 : lk k4 F = some v4 := by rfl) (h5 : lk k5 F = some v5 := by rfl) (h6 : lk k6 F = some v6 := by rfl) (h7 : lk k7 F = some v7 := by rfl) (h8 : lk k8 F = some v8 := by rfl) : Sub F [(k0, v0), (k1, v1), (k2, v2), (k3, v3), (k4, v4), (k5, v5), (k6, v6), (k7, v7), (k8, v8)] := .cons h0 (.cons h1 (.cons h2 (.cons h3 (.cons h4 (.cons h5 (.cons h6 (.cons h7 (.cons h8 (.nil _)))))))))
theorem Sub.t10 (k0 k1 k2 k3 k4 k5 k6 k7 k8 k9 : Nat) (h0 : lk k0 F = some v0 := by rfl) (h1 : lk k1 F = some v1 := by rfl) (h2 : lk k2 F = some v2 := by rfl) (h3 : lk k3 F = some v3 := by rfl) (h4 : lk k4 F = some v4 := by rfl) (h5 : lk k5 F = some v5 := by rfl) (h6 : lk k6 F = some v6 := by rfl) (h7 : lk k7 F = some v7 := by rfl) (h8 : lk k8 F = some v8 := by rfl) (h9 : lk k9 F = some v9 := by rfl) : Sub F [(k0, v0), (k1, v1), (k2, v2), (k3, v3), (k4, v4), (k5, v5), (k6, v6), (k7, v7), (k8, v8), (k9, v9)] := .cons h0 (.cons h1 (.cons h2 (.cons h3 (.cons h4 (.cons h5 (.cons h6 (.cons h7 (.cons h8 (.cons h9 (.nil _))))))))))
theorem Sub.t11 (k0 k1 k2 k3 k4 k5 k6 k7 k8 k9 k10 : Nat) (h0 : lk k0 F = some v0 := by rfl) (h1 : lk k1 F = some v1 := by rfl) (h2 : lk k2 F = some v2 := by rfl) (h3 : lk k3 F = some v3 := by rfl) (h4 : lk k4 F = some v4 := by rfl) (h5 : lk k5 F = some v5 := by rfl) (h6 : lk k6 F = some v6 := by rfl) (h7 : lk k7 F = some v7 := by rfl) (h8 : lk k8 F = some v8 := by rfl) (h9 : lk k9 F = some v9 := by rfl) (h10 : lk k10 F = some v10 := by rfl) : Sub F [(k0, v0), (k1, v1), (k2, v2), (k3, v3), (k4, v4), (k5, v5), (k6, v6), (k7, v7), (k8, v8), (k9, v9), (k10, v10)] := .cons h0 (.cons h1 (.cons h2 (.cons h3 (.cons h4 (.cons h5 (.cons h6 (.cons h7 (.cons h8 (.cons h9 (.cons h10 (.nil _)))))))))))
theorem Sub.t12 (k0 k1 k2 k3 k4 k5 k6 k7 k8 k9 k10 k11 : Nat) (h0 : lk k0 F = some v0 := by rfl) (h1 : lk k1 F = some v1 := by rfl) (h2 : lk k2 F = some v2 := by rfl) (h3 : lk k3 F = some v3 := by rfl) (h4 : lk k4 F = some v4 := by rfl) (h5 : lk k5 F = some v5 := by rfl) (h6 : lk k6 F = some v6 := by rfl) (h7 : lk k7 F = some v7 := by rfl) (h8 : lk k8 F = some v8 := by rfl) (h9 : lk k9 F = some v9 := by rfl) (h10 : lk k10 F = some v10 := by rfl) (h11 : lk k11 F = some v11 := by rfl) : Sub F [(k0, v0), (k1, v1), (k2, v2), (k3, v3), (k4, v4), (k5, v5), (k6, v6), (k7, v7), (k8, v8), (k9, v9), (k10, v10), (k11, v11)] := .cons h0 (.cons h1 (.cons h2 (.cons h3 (.cons h4 (.cons h5 (.cons h6 (.cons h7 (.cons h8 (.cons h9 (.cons h10 (.cons h11 (.nil _))))))))))))
end
section
variable {P : Program} {n : Nat} {w0 : World} {M : List Nat} {Q : Exit → Go.Act → World → Prop} {F F' : List (Nat × Value)} {L L' A K : List Res} {ops : Array Oper} {rest l : List Oper} {d id : Nat} {op : Op} {T : TypeId} {pos : String} {aft : Array Edge} {v v' : Value} {x y : Code}
theorem Gs (h : GL P n w0 M l.toArray (Exit.then (y.wp P Q) Q) l F L) : G P n w0 M (.seq (.region id l.toArray false) y) Q F L := G_seq (G_region h)
theorem Gss {z : Code} (h : GL P n w0 M l.toArray (Exit.then (y.wp P (Exit.then (z.wp P Q) Q)) (Exit.then (z.wp P Q) Q)) l F L) : G P n w0 M (.seq (.seq (.region id l.toArray false) y) z) Q F L := G_seq (G_seq (G_region h))
theorem Gn (hs : Sub F F') (h : G P n w0 M y Q F' L) : GL P n w0 M ops (Exit.then (y.wp P Q) Q) [] F L := GL_nil (GQ_sub hs (GQ_then h))
theorem Gt (h : PS P n w0 M op T F L v L') (k : GL P n w0 M ops Q rest ((d, v) :: F) L') (hd : Nat.blt d n = true := by rfl) : GL P n w0 M ops Q (⟨some d, op, T, pos, aft, none⟩ :: rest) F L := GL_step hd h k
theorem Gm {x : Operand} (h : ev F x = some v) (k : GL P n w0 M ops Q rest ((d, v) :: F) L) (hd : Nat.blt d n = true := by rfl) : GL P n w0 M ops Q (⟨some d, .move x, T, pos, aft, none⟩ :: rest) F L := GL_step hd (PS_move h) k
theorem Ga {x : Operand} (h : ev F x = some v) (k : GL P n w0 M ops Q rest ((d, v) :: F) L) (hd : Nat.blt d n = true := by rfl) : GL P n w0 M ops Q (⟨some d, .assign x, T, pos, aft, none⟩ :: rest) F L := GL_step hd (PS_assign h) k
theorem Ggt {j : Nat} {z : Bool} (t : Nat) (hj : (ops[j]?).bind (·.dst) = some t) (hb : lk t F = some (.bool z)) (h : z = true → PS P n w0 M op T F L v L) (k : GL P n w0 M ops Q rest ((d, cv z v) :: F) L) (hd : Nat.blt d n = true := by rfl) : GL P n w0 M ops Q (⟨some d, op, T, pos, aft, some (j, true)⟩ :: rest) F L := GL_gt hj hb hd h k
theorem Ggf {j : Nat} {z : Bool} (t : Nat) (hj : (ops[j]?).bind (·.dst) = some t) (hb : lk t F = some (.bool z)) (h : z = false → PS P n w0 M op T F L v L) (k : GL P n w0 M ops Q rest ((d, cv (!z) v) :: F) L) (hd : Nat.blt d n = true := by rfl) : GL P n w0 M ops Q (⟨some d, op, T, pos, aft, some (j, false)⟩ :: rest) F L := GL_gf hj hb hd h k
theorem Gc {c : Operand} {b : Bool} (ht : b = true → G P n w0 M x Q F L) (hf : b = false → G P n w0 M y Q F L) (hc : ev F c = some (.bool b) := by rfl) : G P n w0 M (.cond c x y) Q F L := G_cond hc ht hf
end
section
variable {P : Program} {n : Nat} {w0 : World} {M : List Nat} {Q : Exit → Go.Act → World → Prop} {l : List Oper} {Rs : List Nat} {F : List (Nat × Value)}
variable {k i j d : Nat} {V A : List Nat} {D : List (Nat × (Nat × Value))} {L : List Res} {op : Op} {T : TypeId} {pos : String} {aft : Array Edge} {v v' : Value}
theorem Pf (i : Nat) (ho : l[i]? = some ⟨some d, op, T, pos, aft, none⟩) (h : PS P n w0 M op T (depF D aft.toList ++ F) L v L) (k' : Plan P n w0 M Q l Rs F k (i :: V) (i :: A) ((i, (d, v)) :: D) L) (hc : flOk l V i aft.toList = true := by kernel_rfl) (hlk : lkOk F d v := by first | exact .inl rfl | exact .inr rfl) : Plan P n w0 M Q l Rs F (k + 1) V A D L :=
  Plan_float i ho rfl hc (OK_s (EX_s h)) k' hlk
theorem Pgf {j : Nat} {y : Bool} (i t : Nat) (ho : l[i]? = some ⟨some d, op, T, pos, aft, some (j, false)⟩) (hj : (l.toArray[j]?).bind (·.dst) = some t) (hb : lk t (depF D aft.toList ++ F) = some (.bool y)) (h : y = false → PS P n w0 M op T (depF D aft.toList ++ F) L v L) (k' : Plan P n w0 M Q l Rs F k (i :: V) (i :: A) ((i, (d, cv (!y) v)) :: D) L) (hc : flOk l V i aft.toList = true := by kernel_rfl) (hlk : lkOk F d (cv (!y) v) := by first | exact .inl rfl | exact .inr rfl) : Plan P n w0 M Q l Rs F (k + 1) V A D L :=
  Plan_float i ho rfl hc (OK_gf (t := t) hj hb (fun q => EX_s (h q))) k' hlk
theorem Pgt {j : Nat} {y : Bool} (i t : Nat) (ho : l[i]? = some ⟨some d, op, T, pos, aft, some (j, true)⟩) (hj : (l.toArray[j]?).bind (·.dst) = some t) (hb : lk t (depF D aft.toList ++ F) = some (.bool y)) (h : y = true → PS P n w0 M op T (depF D aft.toList ++ F) L v L) (k' : Plan P n w0 M Q l Rs F k (i :: V) (i :: A) ((i, (d, cv y v)) :: D) L) (hc : flOk l V i aft.toList = true := by kernel_rfl) (hlk : lkOk F d (cv y v) := by first | exact .inl rfl | exact .inr rfl) : Plan P n w0 M Q l Rs F (k + 1) V A D L :=
  Plan_float i ho rfl hc (OK_gt (t := t) hj hb (fun q => EX_s (h q))) k' hlk
theorem Pk (h : Pend P n w0 M Q l Rs F i D L A) (hr : reaches Rs i j = true := by kernel_rfl) : Pend P n w0 M Q l Rs F i D L (j :: A) := Pend_skip hr h
theorem Po (ho : l[j]? = some ⟨some d, op, T, pos, aft, none⟩) (h : PS P n w0 M op T (depF D aft.toList ++ F) L v' L) (hl : lkD j D = some (d, v)) (e : v' = v) (k' : Pend P n w0 M Q l Rs F i D L A) : Pend P n w0 M Q l Rs F i D L (j :: A) := Pend_okv ho (OK_s (EX_s h)) hl e k'
end
theorem kk : ((∀ (p : Prop) [Decidable p], (decide p = true) = p) ∧ (∀ (p : Prop) [Decidable p], (decide p = false) = ¬ p)) ∧ ((∀ a : Bool, ((!a) = true) = (a = false)) ∧ (∀ a : Bool, ((!a) = false) = (a = true))) ∧ ((∀ a b : Bool, ((a || b) = true) = (a = true ∨ b = true)) ∧ (∀ a b : Bool, ((a && b) = true) = (a = true ∧ b = true))) ∧ ((∀ a b : Bool, ((a || b) = false) = (a = false ∧ b = false)) ∧ (∀ a b : Bool, ((a && b) = false) = (a = false ∨ b = false))) ∧ ((∀ m n : Int, (¬ m < n) = (n ≤ m)) ∧ (∀ m n : Int, (¬ m ≤ n) = (n < m))) :=
  ⟨⟨fun _ _ => kDa, fun _ _ => kDb⟩, ⟨fun _ => kNa, fun _ => kNb⟩, ⟨fun _ _ => kOa, fun _ _ => kAa⟩, ⟨fun _ _ => kOb, fun _ _ => kAb⟩, fun _ _ => kLa, fun _ _ => kLb⟩
section
variable {P : Program} {n : Nat} {w0 : World} {M : List Nat} {F : List (Nat × Value)} {L : List Res}
theorem cF {x : Operand} {c : Bool} {v : Value} (h : ev F x = some (cv (!c) v)) (q : c = false) : ev F x = some v := cvE h (by rw [q]; rfl)
theorem PSf {T U f off b o : Nat} {x : Operand} (hf : FA P T f off) (hx : ev F x = some (.pointer (some ⟨b, o, none⟩))) : PS P n w0 M (.fieldAddr T x f) U F L (.pointer (some ⟨b, o + off, none⟩)) L := PS_fieldAddr hf hx
theorem PSn {T : TypeId} {x : Operand} {p : Addr} (hx : ev F x = some (.pointer (some p))) : PS P n w0 M (.nilCheck x) T F L (.pointer (some p)) L := PS_nilCheck hx
end
theorem Lens.ar {α : Type} {n : Nat} [Inhabited α] {e : α → List Value} {sz : Nat} (fe : Flat e sz) {i : Int} (h : 0 ≤ i ∧ i < (n : Int)) : Lens (encA (n := n) e) e (i.toNat * sz) sz (fun v => v.at i) (fun v y => v.put i y) := Lens.arr fe h.1 h.2
/-- What a bool's being so says, in words. -/
class Nz (a : Prop) (b : outParam Prop) : Prop where
  h : a → b
theorem kz {a b : Prop} [i : Nz a b] (h : a) : b := i.h h
section
variable {p : Prop} [Decidable p] {a b : Bool} {x y : Prop} {m n : Int}
instance (priority := low) : Nz p p := ⟨id⟩
instance : Nz (decide p = true) p := ⟨of_decide_eq_true⟩
instance (priority := low) : Nz (decide p = false) (¬ p) := ⟨of_decide_eq_false⟩
instance : Nz (decide (m < n) = false) (n ≤ m) := ⟨fun h => Int.not_lt.1 (of_decide_eq_false h)⟩
instance : Nz (decide (m ≤ n) = false) (n < m) := ⟨fun h => Int.not_le.1 (of_decide_eq_false h)⟩
instance [i : Nz (a = false) x] : Nz ((!a) = true) x := ⟨fun h => i.h (by simpa using h)⟩
instance [i : Nz (a = true) x] : Nz ((!a) = false) x := ⟨fun h => i.h (by simpa using h)⟩
instance [i : Nz (a = true) x] [j : Nz (b = true) y] : Nz ((a && b) = true) (x ∧ y) := ⟨fun h => ⟨i.h (kAa ▸ h).1, j.h (kAa ▸ h).2⟩⟩
instance [i : Nz (a = false) x] [j : Nz (b = false) y] : Nz ((a || b) = false) (x ∧ y) := ⟨fun h => ⟨i.h (kOb ▸ h).1, j.h (kOb ▸ h).2⟩⟩
instance [i : Nz (a = true) x] [j : Nz (b = true) y] : Nz ((a || b) = true) (x ∨ y) := ⟨fun h => (kOa ▸ h : a = true ∨ b = true).imp i.h j.h⟩
instance [i : Nz (a = false) x] [j : Nz (b = false) y] : Nz ((a && b) = false) (x ∨ y) := ⟨fun h => (kAb ▸ h : a = false ∨ b = false).imp i.h j.h⟩
end
section
variable {F : List (Nat × Value)} {P : Program} {L L' K rs : List Res} {r r' s : Res} {x : Operand} {v : Value} {xs : List Operand} {vs : List Value}
theorem Upd.h : Upd (r :: L) r r' (r' :: L) := .head
theorem Upd.t (h : Upd L r r' L') : Upd (s :: L) r r' (s :: L') := .tail h
theorem Pull.h : Pull (r :: L) r L := .head
theorem Pull.t (h : Pull L r L') : Pull (s :: L) r (s :: L') := .tail h
theorem Pulls.n : Pulls L [] L := .nil
theorem Pulls.c (h : Pull L r L') (hs : Pulls L' rs K) : Pulls L (r :: rs) K := .cons h hs
theorem Evs.n : Evs F [] [] := .nil
theorem Evs.c (h : ev F x = some v) (hs : Evs F xs vs) : Evs F (x :: xs) (v :: vs) := .cons h hs
theorem Rs.n : Rs P F L [] [] := .nil
end
section
variable {α : Type} {a b c d e f g h i j : α} {l : List α}
theorem _root_.List.Mem.m0 : List.Mem a (a :: l) := .head _
theorem _root_.List.Mem.m1 : List.Mem a (b :: a :: l) := .tail _ .m0
theorem _root_.List.Mem.m2 : List.Mem a (b :: c :: a :: l) := .tail _ .m1
theorem _root_.List.Mem.m3 : List.Mem a (b :: c :: d :: a :: l) := .tail _ .m2
theorem _root_.List.Mem.m4 : List.Mem a (b :: c :: d :: e :: a :: l) := .tail _ .m3
theorem _root_.List.Mem.m5 : List.Mem a (b :: c :: d :: e :: f :: a :: l) := .tail _ .m4
theorem _root_.List.Mem.m6 : List.Mem a (b :: c :: d :: e :: f :: g :: a :: l) := .tail _ .m5
theorem _root_.List.Mem.m7 : List.Mem a (b :: c :: d :: e :: f :: g :: h :: a :: l) := .tail _ .m6
theorem _root_.List.Mem.m8 : List.Mem a (b :: c :: d :: e :: f :: g :: h :: i :: a :: l) := .tail _ .m7
end
end Go.Ing
/- Engine: what is added where there is room. -/
namespace Go.Ing
open Go
theorem run_append_fit {P : Program} {U U2 E sz by_ : Nat} {z x : Value} {h : Hd} {gl : Nat} {cs ys : List Value} {V : TypeId} {w : World} (hu : P.underlying U = some (.slice E)) (hsz : Sz P E sz) (hz : ZV P E z) (hzs : z.cells.size = sz) (hby : BY P E by_) (hb0 : 0 < by_) (_hp : 0 < sz)
    (hh : (Res.own h E sz cs).ok w) (hg : Src P w U2 sz x gl ys) (hone : ∀ v ∈ ys, v.oneCell' = true) (hcap : h.len + gl ≤ h.cap) :
    ∃ h' w', (Builtin.append_ #[U, U2] V #[h.val, x]).run P w = .ok h'.val w' ∧ (Res.own h' E sz (cs ++ ys)).ok w' ∧ (h'.len = h.len + gl ∧ (h.Z → h'.Z) ∧ h'.cap = h.cap) ∧ w'.os = w.os ∧ w'.tape = w.tape ∧ w'.output = w.output ∧ w.heap.size ≤ w'.heap.size ∧
      (∀ k, k < w.heap.size → k ∉ (Res.own h E sz cs).foot → w'.heap[k]? = w.heap[k]?) ∧ (∀ b ∈ (Res.own h' E sz (cs ++ ys)).foot, b < w'.heap.size ∧ (b ∈ (Res.own h E sz cs).foot ∨ w.heap.size ≤ b)) := by
  obtain ⟨i, hi, hib⟩ := hby
  have hti : ∀ w, (typeInfo E).run P w = .ok i w := fun w => by simp [typeInfo, hi]
  have hu' : ∀ w, (underlying U).run P w = .ok (.slice E) w := fun w => by simp [underlying, hu]
  have hrd := Res.own_rd hh
  have hsw : ∀ (v : Value) (w : World), (Builtin.append_ #[U, U2] V #[v, x]).run P w = (Builtin.append_ #[U, U] V #[v, x]).run P w := fun v w => by
    rcases hg.ty with ⟨e, hd2⟩ | hd2
    · have hu2 : ∀ w, (underlying U2).run P w = .ok (.slice e) w := fun w => by simp [underlying, hd2]
      cases v <;> simp [Builtin.append_, hu' w, hu2 w, hsz w]
    · have hu2 : ∀ w, (underlying U2).run P w = .ok .string w := fun w => by simp [underlying, hd2]
      cases v <;> simp [Builtin.append_, hu' w, hu2 w, hsz w]
  have hlo := hg.lenOf
  rcases hh with ⟨rfl, rfl⟩ | ⟨b, o, C, fz, e1, e2, e3, e4, e5, e6, e7, e8⟩
  · -- nil and nothing to add
    simp at hcap
    have hys : ys = [] := by
      have := hg.len
      rw [hcap] at this
      simpa using this.symm
    subst hys
    refine ⟨⟨none, 0, 0⟩, w, ?_, .inl ⟨rfl, rfl⟩, ⟨by simp [hcap], fun hz => hz, rfl⟩, rfl, rfl, rfl, Nat.le_refl _, fun _ _ _ => rfl, fun b hb => by simp [Res.own] at hb⟩
    have hfc := hg.cells w (Keep.refl w)
    rw [hcap] at hfc hlo
    simp only [Hd.val] at hfc ⊢
    rw [hsw]
    simp [Builtin.append_, hu' w, hsz w, hlo w, hfc]
  · have hyl : gl * sz = ys.length := hg.len
    have hmul : h.len * sz + gl * sz ≤ h.cap * sz := by rw [← Nat.add_mul]; exact Nat.mul_le_mul_right sz hcap
    obtain ⟨w', s1, s2, s3, s4, s5, s6, s7⟩ := storeCells_fz (P := P) (o := o + h.len * sz) ys w C 0 e3 hone (by omega) e4
    refine ⟨⟨h.a, h.len + gl, h.cap⟩, w', ?_, ?_, ⟨rfl, fun hz => hz, rfl⟩, s5, s6, s7, by omega, ?_, ?_⟩
    · have hfc := hg.cells w (Keep.refl w)
      obtain ⟨ha, hl, hc⟩ := h
      dsimp only at *
      subst e1
      simp only [Hd.val] at hfc ⊢
      rw [hsw]
      simp [Builtin.append_, hu' w, hsz w, hlo w, hfc, hcap, add_at, s1]
    · refine .inr ⟨b, o, splice C (o + h.len * sz) ys, fz, e1, by omega, by simpa using s2, ?_, ?_, hcap, ?_, ?_⟩
      · rw [splice_length (by omega)]; exact e4
      · rw [splice_length (by omega)]; exact e5
      · rw [Nat.add_mul, List.length_append, e7, hyl]
      · exact splice_grow e7.symm (by rw [e7]; exact e8) (by omega)
    · intro k hk hf
      refine s3 k fun e => hf ?_
      simp [Res.own, e1, e]
    · intro k hk
      simp [Res.own, e1] at hk ⊢
      exact ⟨by omega, .inl hk⟩
section
variable {P : Program} {n : Nat} {w0 : World} {M : List Nat} {Q : Exit → Act → World → Prop} {F F' : List (Nat × Value)} {L L' : List Res} {ops : Array Oper} {rest : List Oper}
theorem GL_appendR {d T U U2 E sz by_ gl : Nat} {x y : Operand} {pos : String} {aft : Array Edge} {h : Hd} {cs ys : List Value} {z yv : Value} {Lf : Res → List Res} (hd : Nat.blt d n = true) (hu : P.underlying U = some (.slice E)) (hs : Sz P E sz) (hz : ZV P E z) (hzs : z.cells.size = sz) (hby : BY P E by_) (hb0 : 0 < by_) (hsz : 0 < sz)
    (hx : ev F x = some h.val) (hy : ev F y = some yv) (hk : ∀ w, St w0 M w L → Src P w U2 sz yv gl ys) (hone : ∀ v ∈ ys, v.oneCell' = true) (hbd : (2 * (h.len + gl) + 192) * by_ ≤ 281474976710656 ∨ h.len + gl ≤ h.cap) (hU : ∀ r, Upd L (Res.own h E sz cs) r (Lf r))
    (k : ∀ h' : Hd, h'.len = h.len + gl → (h.Z → h'.Z) ∧ (h.len + gl ≤ h.cap → h'.cap = h.cap) → GL P n w0 M ops Q rest ((d, h'.val) :: F) (Lf (Res.own h' E sz (cs ++ ys)))) : GL P n w0 M ops Q (⟨some d, .call ⟨.builtin .append, #[x, y], #[U, U2]⟩, T, pos, aft, none⟩ :: rest) F L := by
  by_cases hc : h.len + gl ≤ h.cap
  · refine GL_new (R := fun v L' => ∃ h' : Hd, v = h'.val ∧ L' = Lf (Res.own h' E sz (cs ++ ys)) ∧ h'.len = h.len + gl ∧ (h.Z → h'.Z) ∧ h'.cap = h.cap) hd ?_ (fun v L' ⟨h', e1, e2, e3, e4, e5⟩ => by subst e1; subst e2; exact k h' e3 ⟨e4, fun _ => e5⟩)
    intro a w hF hS
    obtain ⟨h', w', e1, e2, e3, e4, e5, e6, e7, e8, e9⟩ := run_append_fit (V := T) hu hs hz hzs hby hb0 hsz (hS.ok _ (hU ⟨[], fun _ => True, fun _ _ _ _ => trivial⟩).mem) (hk w hS) hone hc
    refine ⟨_, _, w', ⟨h', rfl, rfl, e3⟩, ?_, hS.turn (hU _) e4 e5 e6 e7 e8 e2 e9⟩
    simp [execOp, resolve, invoke, builtin, hF.ev hx, hF.ev hy, e1]
  · exact GL_appendG hd hu hs hz hzs hby hb0 hsz hx hy hk hone (hbd.resolve_right hc) hU (fun h' e1 e2 => k h' e1 ⟨e2, fun q => absurd q hc⟩)
end
end Go.Ing
/- How long what is escaped is; how long what was read is at most: plain laws. -/
namespace Go.Ing
open Go
namespace Page
theorem escape_size (s : Str) : (escape s).length = s.length + s.count 255 := by
  induction s with
  | nil => rfl
  | cons b s ih =>
    have e : escape (b :: s) = (if b = 255 then [255, 255] else [b]) ++ escape s := rfl
    rw [e, List.length_append, List.length_cons, List.count_cons, ih]
    by_cases h : b = 255
    · subst h; simp; omega
    · simp [h]; omega
theorem RepI.xe {s : Str} {k start : Int} {x : Str} (h : RepI s (s.count 255) k start x) : (x.length : Int) = start + k := by
  have e := congrArg List.length h.e
  rw [List.length_append, escape_size, escape_size, List.length_drop] at e
  have c := h.c
  have s0 := h.s0
  have s1 := h.s1
  have hk := h.k0
  omega
end Page
theorem FeedI.xb {X t : Telnet} {u x y : Str} {k : Int} (h : Telnet.FeedI X u k t x y) : x.length ≤ (X.feed u).2.1.length ∧ y.length ≤ (X.feed u).2.2.length := by
  rw [h.e2, h.e3, List.length_append, List.length_append]
  omega
end Go.Ing
