/- What the functions that the law of this seat reaches compute, and the plain laws of it. No condition. -/
import Derived.Test.YtckhelpkjicnnaaDoorEc3
import Derived.Lib.Bytealg
import Derived.Laws.Externs
import Derived.MapKept
import Derived.Lib.LaidTab
import Derived.Shelf.Strconv.Itoa3
import Derived.Lib.ItoaLen
import Derived.Shelf.Strconv.ErrVarAll
import Derived.Stop.LaidErr
set_option linter.unusedSimpArgs false
set_option linter.unusedVariables false
/- Engine: how much a slice within a struct that came in can take. -/
namespace Go.Ing
open Go Go.RowKit Go.ChangeShapes Go.WideShapes Go.ChangeAt
section
variable {H : Type} {enc : TypeId × Value → H} {P : Program} {w : World}
theorem reach_field {t T E : TypeId} {fs : Array Field} {i o : Nat} {v : Value} {d : DataW H} {p : List MemPlace} {h : Hd} (hu : P.underlying t = some (.struct fs)) (hfi : (fs[i]?).map (fun f => (f.type, f.offset)) = some (T, o)) (hT : P.underlying T = some (.slice E)) (hz : P.cellsOf T = 1)
    (hd : DataW.Trod enc P w 0 (fun _ => true) true t v d p) (hh : (v.cells.toList.drop o).take 1 = [h.val]) (hw : ∀ n ∈ d.weights P t, n ≤ reachBytes) : h.cap * P.bytesOf E ≤ reachBytes := by
  obtain ⟨fuel, hf⟩ := hd
  obtain ⟨xs, n, _, hx, hl, hlen, hfl⟩ := DataW.trod_struct hu hf
  cases hfi' : fs[i]? with
  | none => rw [hfi'] at hfi; cases hfi
  | some f =>
    rw [hfi'] at hfi
    simp at hfi
    obtain ⟨rfl, rfl⟩ := hfi
    have h1 := hfl i f hfi'
    have hi : i < fs.size := by
      rcases Nat.lt_or_ge i fs.size with h' | h'
      · exact h'
      · rw [Array.getElem?_eq_none h'] at hfi'; cases hfi'
    have h2 : xs[i]? = some xs[i] := List.getElem?_eq_getElem (by omega)
    rw [h2, hz, hh] at h1
    have hxd : d = .agg (xs.map (·.1)) := congrArg Prod.fst hx
    have hmem : ∀ n ∈ (xs[i].1).weights P f.type, n ≤ reachBytes := fun n hn => by
      refine hw n ?_
      rw [hxd]
      simp only [DataW.weights, hu]
      refine DataW.weights_mem_each (j := i) (t := f.type) (d := xs[i].1) ?_ ?_ n hn
      · rw [List.getElem?_map]
        simp [hfi']
      · rw [List.getElem?_map, h2]; rfl
    rcases DataW.trod_slice hT h1 with ⟨h3, _⟩ | ⟨a, len, cap, elems, rest, m, _, h3, h4, _, hlc, _, h5, _, h6, _⟩
    · obtain ⟨ha, hl', hc⟩ := h
      simp [Hd.val] at h3
      obtain ⟨_, _, rfl⟩ := h3
      simp
    · obtain ⟨ha, hl', hc⟩ := h
      simp [Hd.val] at h3
      obtain ⟨_, _, rfl⟩ := h3
      have h7 := (h6 rfl).1
      have h8 : xs[i].1 = .slice (elems.map (·.1)) (rest.map (·.1)) := congrArg Prod.fst h4
      have := hmem ((elems.length + rest.length) * P.bytesOf E) (by rw [h8]; simp [DataW.weights, hT])
      rw [h5, h7] at this
      rwa [show len + (hc - len) = hc by omega] at this
theorem sized_arg {ts : List TypeId} {ds : List (DataW H)} (h : (DataW.weightsEach P ts ds).all (· ≤ reachBytes) = true) {j : Nat} {t : TypeId} {d : DataW H} (ht : ts[j]? = some t) (hd : ds[j]? = some d) : ∀ n ∈ d.weights P t, n ≤ reachBytes := fun n hn => by
  simpa using List.all_eq_true.1 h n (DataW.weights_mem_each ht hd n hn)
end
section
variable {P : Program} {n : Nat} {w0 : World} {M : List Nat} {Q : Exit → Go.Act → World → Prop} {F F' : List (Nat × Value)} {L L' : List Res} {ops : Array Oper} {rest : List Oper}
/-- What is appended to a slice for which there is no room yet. -/
theorem run_append0 {U U2 E sz by_ : Nat} {z x : Value} {h : Hd} {gl : Nat} {ys : List Value} {V : TypeId} {w : World} (hu : P.underlying U = some (.slice E)) (hsz : Sz P E sz) (hz : ZV P E z) (hzs : z.cells.size = sz) (hby : BY P E by_) (hb0 : 0 < by_)
    (hl0 : h.len = 0) (hc0 : h.cap = 0) (hh : (Res.own h E sz []).ok w) (hg : Src P w U2 sz x gl ys) (hbd : gl * by_ ≤ 281474976710656) :
    ∃ h' w', (Builtin.append_ #[U, U2] V #[h.val, x]).run P w = .ok h'.val w' ∧ (Res.own h' E sz ys).ok w' ∧ h'.len = gl ∧ w'.os = w.os ∧ w'.tape = w.tape ∧ w'.output = w.output ∧ w.heap.size ≤ w'.heap.size ∧
      (∀ k, k < w.heap.size → w'.heap[k]? = w.heap[k]?) ∧ (∀ b ∈ (Res.own h' E sz ys).foot, b < w'.heap.size ∧ (b ∈ (Res.own h E sz []).foot ∨ w.heap.size ≤ b)) := by
  obtain ⟨i, hi, hib⟩ := hby
  have hti : ∀ w, (typeInfo E).run P w = .ok i w := fun w => by simp [typeInfo, hi]
  have hu' : ∀ w, (underlying U).run P w = .ok (.slice E) w := fun w => by simp [underlying, hu]
  have hsw : ∀ (v : Value) (w : World), (Builtin.append_ #[U, U2] V #[v, x]).run P w = (Builtin.append_ #[U, U] V #[v, x]).run P w := fun v w => by
    rcases hg.ty with ⟨e, hd2⟩ | hd2
    · have hu2 : ∀ w, (underlying U2).run P w = .ok (.slice e) w := fun w => by simp [underlying, hd2]
      cases v <;> simp [Builtin.append_, hu' w, hu2 w, hsz w]
    · have hu2 : ∀ w, (underlying U2).run P w = .ok .string w := fun w => by simp [underlying, hd2]
      cases v <;> simp [Builtin.append_, hu' w, hu2 w, hsz w]
  have hlo := hg.lenOf
  obtain ⟨ha, hl, hc⟩ := h
  simp only at hl0 hc0
  subst hl0; subst hc0
  have hfh : ∀ w, (Builtin.firstCells sz 0 (Hd.val ⟨ha, 0, 0⟩)).run P w = .ok #[] w := fun w => by
    cases ha with
    | none => rfl
    | some a => simp [Hd.val, Builtin.firstCells, loadCells, loadCellsFrom]
  by_cases hg0 : gl = 0
  · subst hg0
    have hys : ys = [] := by have := hg.len; simpa using this.symm
    subst hys
    refine ⟨⟨ha, 0, 0⟩, w, ?_, hh, rfl, rfl, rfl, rfl, Nat.le_refl _, fun _ _ => rfl, fun b hb => ?_⟩
    · have hfc := hg.cells w (Keep.refl w)
      rw [hsw]
      cases ha with
      | none => simp only [Hd.val] at hfc ⊢; simp [Builtin.append_, hu' w, hsz w, hlo w, hfc]
      | some a => simp only [Hd.val] at hfc ⊢; simp [Builtin.append_, hu' w, hsz w, hlo w, hfc, storeCells]
    · rcases hh with ⟨e1, _⟩ | ⟨b', o, C, fz, e1, e2, _⟩
      · simp at e1; subst e1; simp [Res.own] at hb
      · simp only at e1; subst e1; simp [Res.own] at hb; subst hb
        exact ⟨e2, .inl (by simp [Res.own])⟩
  · have hnc : Builtin.nextslicecap (0 + gl) 0 = gl := by
      unfold Builtin.nextslicecap
      rw [if_pos (by omega)]; omega
    have hbig : ¬ (281474976710656 < Builtin.nextslicecap (0 + gl) 0 * by_) := by rw [hnc]; omega
    let q : Question := .appendCap (0 + gl) 0 E
    let w1 : World := w.drew
    let nc : Nat := q.cut (w.tape w.drawn q)
    have hncle : 0 + gl ≤ nc := Nat.le_add_right _ _
    have hk1 : Keep w w1 := ⟨rfl, rfl, rfl, Nat.le_refl _, fun _ _ => rfl⟩
    have hfc1 := hg.cells w1 hk1
    have hfh1 := hfh w1
    let row : List Value := ys ++ (Builtin.zeroCells z.cells (nc - (0 + gl))).toList
    have hrow : row.length = nc * sz := by
      simp only [row, List.length_append, Array.length_toList, zeroCells_size, hzs]
      rw [← hg.len, ← Nat.add_mul]
      congr 1; omega
    refine ⟨⟨some ⟨w.heap.size, 0, none⟩, gl, nc⟩, w1.alloc (.cells row.toArray E), ?_, ?_, rfl, rfl, rfl, rfl, by simp [w1], ?_, ?_⟩
    · simp only [Hd.val] at hfc1 hfh1 ⊢
      have hz1 := hz w.drew
      simp only [w1] at hfc1 hfh1
      have hne : ¬ gl ≤ 0 := by omega
      rw [hsw]
      simp only [Nat.zero_add] at hbig
      simp [Builtin.append_, hu' w, hsz w, hlo w, hne, hg0, hti, hbig, hib, Nat.ne_of_gt hb0, hfc1, hfh1, hz1, newRow, Question.forced]
      simp [w1, row, nc, q]
      congr 2
      apply Array.ext'
      simp
    · refine .inr ⟨w.heap.size, 0, row, (0, 0), rfl, by simp [w1], ?_, fun _ _ h => by simp at h, by rw [hrow]; simp, (by show gl ≤ nc; omega), hg.len, ?_⟩
      · show (w.heap.push _)[w.heap.size]? = _
        simp
      · simp only [List.drop_zero, row]
        rw [List.take_left]
    · intro k hk
      exact RowKit.Below.heap_alloc w1 _ k hk
    · intro b hb
      simp [Res.own] at hb
      subst hb
      exact ⟨by simp [w1], .inr (Nat.le_refl _)⟩
theorem GL_append0 {α : Type} {e : α → List Value} {d T U U2 E sz by_ gl : Nat} {x y : Operand} {pos : String} {aft : Array Edge} {h : Hd} {zs : List α} {z yv : Value} {Lf : Res → List Res} (hd : Nat.blt d n = true) (hu : P.underlying U = some (.slice E)) (hs : Sz P E sz) (hz : ZV P E z) (hzs : z.cells.size = sz) (hby : BY P E by_) (hb0 : 0 < by_)
    (hx : ev F x = some h.val) (hy : ev F y = some yv) (hk : ∀ w, St w0 M w L → Src P w U2 sz yv gl (zs.flatMap e)) (hl0 : h.len = 0) (hc0 : h.cap = 0) (hbd : gl * by_ ≤ 281474976710656) (hU : ∀ r, Upd L (Res.own h E sz (([] : List α).flatMap e)) r (Lf r))
    (k : ∀ h' : Hd, h'.len = gl → GL P n w0 M ops Q rest ((d, h'.val) :: F) (Lf (Res.own h' E sz (zs.flatMap e)))) : GL P n w0 M ops Q (⟨some d, .call ⟨.builtin .append, #[x, y], #[U, U2]⟩, T, pos, aft, none⟩ :: rest) F L := by
  refine GL_new (R := fun v L' => ∃ h' : Hd, v = h'.val ∧ L' = Lf (Res.own h' E sz (zs.flatMap e)) ∧ h'.len = gl) hd ?_ (fun v L' ⟨h', e1, e2, e3⟩ => by subst e1; subst e2; exact k h' e3)
  intro a w hF hS
  obtain ⟨h', w', e1, e2, e3, e4, e5, e6, e7, e8, e9⟩ := run_append0 (V := T) hu hs hz hzs hby hb0 hl0 hc0 (hS.ok _ (hU ⟨[], fun _ => True, fun _ _ _ _ => trivial⟩).mem) (hk w hS) hbd
  refine ⟨_, _, w', ⟨h', rfl, rfl, e3⟩, ?_, hS.turn (hU _) e4 e5 e6 e7 (fun k hk _ => e8 k hk) e2 e9⟩
  simp [execOp, resolve, invoke, builtin, hF.ev hx, hF.ev hy, e1]
/-! #### closures -/
theorem PS_makeFunc {f : FuncId} {xs : List Operand} {vs : List Value} {T : TypeId} (ha : Evs F xs vs) : PS P n w0 M (.makeFunc (.func f) #[] xs.toArray) T F L (.func (.func f) #[] vs.toArray) L := PS_of fun a w hF => by
  have := Evs.map hF ha
  simp [execOp, Instr.makeFunc, ← this]
theorem run_callV {f : FuncId} {t : Nat} {caps : List Value} {args : List Operand} {ts : Array TypeId} {T : TypeId} {vs : List Value} (hc : CF P f) {a : Go.Act} (hF : Fr n a F) (hf : lk t F = some (.func (.func f) #[] caps.toArray)) (ha : Evs F args vs) (w : World) (d : Option Tmp) (pos : String) (aft : Array Edge) (g : Option (Nat × Bool)) :
    (execOp a.eval ⟨d, .call ⟨.value (.tmp t), args.toArray, ts⟩, T, pos, aft, g⟩).run P w = .ok (.enter f (vs ++ caps).toArray) w := by
  have h2 := Evs.map hF ha
  subst h2
  have h1 := hc (args.map a.eval ++ caps).toArray w
  have h3 : a.eval (.tmp t) = .func (.func f) #[] caps.toArray := by have := hF.get _ _ hf; simp [Act.eval, this]
  simp [execOp, resolve, Deferred.ofValue, h3, invoke]
  simpa using h1
theorem GL_callLV {d : Nat} {f : FuncId} {t : Nat} {caps : List Value} {args : List Operand} {ts : Array TypeId} {T : TypeId} {pos : String} {aft : Array Edge} {vs : List Value} {Post : Value → List Res → Prop} {A K : List Res} (hd : Nat.blt d n = true) (hc : CF P f) (hf : lk t F = some (.func (.func f) #[] caps.toArray)) (ha : Evs F args vs) (hL : Pulls L A K)
    (h : Ctr P f (vs ++ caps).toArray A Post)
    (k : ∀ v B, Post v B → GL P n w0 M ops Q rest ((d, v) :: F) (B ++ K)) : GL P n w0 M ops Q (⟨some d, .call ⟨.value (.tmp t), args.toArray, ts⟩, T, pos, aft, none⟩ :: rest) F L := by
  intro a w hF hS
  refine wpList_plain rfl fun K' hK => ?_
  unfold Oper.wp
  rw [run_callV hc hF hf ha]
  show Calls _ _ _ _ _
  refine Calls.mono (h w (hS.perm hL.perm).focus) fun e w' he => ?_
  obtain ⟨v, rfl, B, hP, hB⟩ := he
  exact hK _ _ (k v B hP _ _ (hF.put (by simpa [Nat.blt_eq] using hd) v) ((hS.perm hL.perm).frame hB))
end
end Go.Ing
/- The plain functions of the telnet codec. -/
namespace Go.Ing
open Go
def u8 (n : Int) : UInt8 := UInt8.ofNat n.toNat
theorem u8_val {n : Int} (h0 : 0 ≤ n) (h1 : n ≤ 255) : ((u8 n).toNat : Int) = n := by
  simp [u8]; omega
namespace Telnet
def badOpt (t : Telnet) (i : Int) : Bool := decide (t.us.at i < 0) || decide (2 < t.us.at i) || decide (t.them.at i < 0) || decide (2 < t.them.at i)
def goodA (t : Telnet) : Bool :=
  decide (0 ≤ t.at_) && decide (t.at_ ≤ 4) && (decide (t.at_ = 2) == !decide (t.verb = 0)) && (decide (t.verb = 0) || (decide (251 ≤ t.verb) && decide (t.verb ≤ 254))) && decide ((t.sub.length : Int) ≤ 16) && (decide (3 ≤ t.at_) || decide (t.sub = [])) && decide (0 ≤ t.height) && decide (t.height ≤ 200)
def good (t : Telnet) : Bool := allFrom 3 (fun i => !t.badOpt i) 3 && (!(!decide (t.us.at 2 = 0) || !decide (t.them.at 0 = 0)) && t.goodA)
def place (opt : Int) : Int × Bool × Bool := if decide (opt = 1) = true then (0, true, false) else if decide (opt = 3) = true then (1, true, true) else if decide (opt = 31) = true then (2, false, true) else (-1, false, false)
def say (verb opt : Int) : Str := [255, u8 verb, u8 opt]
def turnS (was : Int) (on : Bool) (opt yes no : Int) : Str := if (on && decide (was = 0)) = true then say yes opt else if (!on && decide (was = 1)) = true then say no opt else []
def onI (on : Bool) : Int := if on = true then 1 else 0
def turnUs (t : Telnet) (k : Int) (on : Bool) : Telnet := { t with us := t.us.put k (onI on) }
def turnThem (t : Telnet) (k : Int) (on : Bool) : Telnet := { t with them := t.them.put k (onI on) }
def negotiate (t : Telnet) (verb opt : Int) : Telnet × Str :=
  let k := (place opt).1
  if decide (verb = 253) = true then (if (!(place opt).2.1) = true then (t, say 252 opt) else (t.turnUs k true, turnS (t.us.at k) true opt 251 252))
  else if decide (verb = 254) = true then (if (place opt).2.1 = true then (t.turnUs k false, turnS (t.us.at k) false opt 251 252) else (t, []))
  else if decide (verb = 251) = true then (if (!(place opt).2.2) = true then (t, say 254 opt) else (t.turnThem k true, turnS (t.them.at k) true opt 253 254))
  else if decide (verb = 252) = true then (if (place opt).2.2 = true then (t.turnThem k false, turnS (t.them.at k) false opt 253 254) else (t, []))
  else (t, [])
def collect (t : Telnet) (b : UInt8) : Telnet := if decide ((t.sub.length : Int) < 16) = true then { t with sub := t.sub ++ [b] } else t
def byteAt (s : Str) (i : Int) : Int := ((s.getD i.toNat 0).toNat : Int)
def measure (t : Telnet) : Telnet :=
  if (decide ((t.sub.length : Int) = 5) && decide (byteAt t.sub 0 = 31) && decide (t.them.at 2 = 1)) = true then { t with height := min (byteAt t.sub 3 * 256 + byteAt t.sub 4) 200 } else t
/-- One byte: the codec behind it, what is text, what is answered. -/
def step (t : Telnet) (b : UInt8) : Telnet × Str × Str :=
  let c : Int := (b.toNat : Int)
  if decide (t.at_ = 0) = true then (if decide (c = 255) = true then ({ t with at_ := 1 }, [], []) else (t, [b], []))
  else if decide (t.at_ = 1) = true then
    (if decide (c = 255) = true then ({ t with at_ := 0 }, [b], [])
     else if decide (c = 250) = true then ({ t with at_ := 3 }, [], [])
     else if decide (251 ≤ c) = true then ({ t with at_ := 2, verb := c }, [], [])
     else ({ t with at_ := 0 }, [], []))
  else if decide (t.at_ = 2) = true then ({ (t.negotiate t.verb c).1 with at_ := 0, verb := 0 }, [], (t.negotiate t.verb c).2)
  else if decide (t.at_ = 3) = true then (if decide (c = 255) = true then ({ t with at_ := 4 }, [], []) else (t.collect b, [], []))
  else if decide (t.at_ = 4) = true then
    (if decide (c = 255) = true then (collect { t with at_ := 3 } b, [], [])
     else if decide (c = 240) = true then ({ t.measure with at_ := 0, sub := [] }, [], [])
     else ({ t with at_ := 0, sub := [] }, [], []))
  else (t, [], [])
def feed : Telnet → Str → Telnet × Str × Str
  | t, [] => (t, [], [])
  | t, b :: s => ((feed (t.step b).1 s).1, (t.step b).2.1 ++ (feed (t.step b).1 s).2.1, (t.step b).2.2 ++ (feed (t.step b).1 s).2.2)
def Feed (t : Telnet) (s : Str) : Telnet × Str × Str × Int := if (!t.good) = true then (t, [], [], 2) else ((t.feed s).1, (t.feed s).2.1, (t.feed s).2.2, 0)
def Offer (t : Telnet) (opt : Int) : Telnet × Str × Int :=
  if (!t.good) = true then (t, [], 2) else if (!(place opt).2.1) = true then (t, [], 3) else if (!decide (t.us.at (place opt).1 = 0)) = true then (t, [], 0)
  else ({ t with us := t.us.put (place opt).1 2 }, say 251 opt, 0)
def Ask (t : Telnet) (opt : Int) : Telnet × Str × Int :=
  if (!t.good) = true then (t, [], 2) else if (!(place opt).2.2) = true then (t, [], 3) else if (!decide (t.them.at (place opt).1 = 0)) = true then (t, [], 0)
  else ({ t with them := t.them.put (place opt).1 2 }, say 253 opt, 0)
theorem place_us {opt : Int} (h : (place opt).2.1 = true) : (opt = 1 ∧ place opt = (0, true, false)) ∨ (opt = 3 ∧ place opt = (1, true, true)) := by
  unfold place at *
  repeat' split at h
  all_goals simp_all
theorem place_them {opt : Int} (h : (place opt).2.2 = true) : (opt = 3 ∧ place opt = (1, true, true)) ∨ (opt = 31 ∧ place opt = (2, false, true)) := by
  unfold place at *
  repeat' split at h
  all_goals simp_all
theorem turnS_len (w : Int) (on : Bool) (o y n : Int) : (turnS w on o y n).length ≤ 3 := by
  unfold turnS say; repeat' split
  all_goals simp
theorem negotiate_len (t : Telnet) (v o : Int) : (t.negotiate v o).2.length ≤ 3 := by
  unfold negotiate; dsimp only
  repeat' split
  all_goals try exact turnS_len _ _ _ _ _
  all_goals try simp [say]
  all_goals exact turnS_len _ _ _ _ _
theorem negotiate_sub (t : Telnet) (v o : Int) : (t.negotiate v o).1.sub = t.sub := by
  unfold negotiate; dsimp only
  repeat' split
  all_goals rfl
theorem collect_sub (t : Telnet) (b : UInt8) (h : t.sub.length ≤ 16) : (t.collect b).sub.length ≤ 16 := by
  unfold collect; split
  · rename_i h1; simp at h1 ⊢; omega
  · exact h
theorem step_sub (t : Telnet) (b : UInt8) (h : t.sub.length ≤ 16) : (t.step b).1.sub.length ≤ 16 := by
  unfold step; dsimp only
  repeat' split
  all_goals first | exact h | exact collect_sub _ _ h | (simp; done) | (rw [negotiate_sub]; exact h)
theorem step_len (t : Telnet) (b : UInt8) : (t.step b).2.1.length ≤ 1 ∧ (t.step b).2.2.length ≤ 3 := by
  unfold step; dsimp only
  repeat' split
  all_goals first | (simp; done) | (exact ⟨by simp, negotiate_len _ _ _⟩)
/-- What holds while bytes are fed: 'k' of them are behind. -/
structure FeedI (X : Telnet) (u : Str) (k : Int) (t : Telnet) (x y : Str) : Prop where
  k0 : 0 ≤ k
  k1 : k ≤ u.length
  sub : t.sub.length ≤ 16
  xl : (x.length : Int) ≤ k
  yl : (y.length : Int) ≤ 3 * k
  e1 : (X.feed u).1 = (t.feed (u.drop k.toNat)).1
  e2 : (X.feed u).2.1 = x ++ (t.feed (u.drop k.toNat)).2.1
  e3 : (X.feed u).2.2 = y ++ (t.feed (u.drop k.toNat)).2.2
theorem drop_getD {u : Str} {k : Int} (h0 : 0 ≤ k) (h1 : k < u.length) : u.drop k.toNat = u.getD k.toNat 0 :: u.drop (k + 1).toNat := by
  have hk : k.toNat < u.length := by omega
  rw [List.drop_eq_getElem_cons hk, show (k + 1).toNat = k.toNat + 1 by omega]
  simp [List.getD, hk]
theorem FeedI.start {X : Telnet} {u : Str} (h : X.sub.length ≤ 16) : FeedI X u 0 X [] [] := ⟨by omega, by omega, h, by simp, by simp, rfl, rfl, rfl⟩
theorem FeedI.next {X t t' : Telnet} {u x y x' y' : Str} {k : Int} (h : FeedI X u k t x y) (hk : k < u.length) (ht : t' = (t.step (u.getD k.toNat 0)).1) (hx : x' = x ++ (t.step (u.getD k.toNat 0)).2.1) (hy : y' = y ++ (t.step (u.getD k.toNat 0)).2.2) : FeedI X u (k + 1) t' x' y' := by
  have hd := drop_getD h.k0 hk
  have hl := step_len t (u.getD k.toNat 0)
  have h1 := h.xl
  have h2 := h.yl
  have h0 := h.k0
  subst ht; subst hx; subst hy
  refine ⟨by omega, by omega, step_sub _ _ h.sub, by simp only [List.length_append]; omega, by simp only [List.length_append]; omega, ?_, ?_, ?_⟩
  · rw [h.e1, hd]; rfl
  · rw [h.e2, hd, List.append_assoc]; rfl
  · rw [h.e3, hd, List.append_assoc]; rfl
theorem FeedI.done {X t : Telnet} {u x y : Str} {k : Int} (h : FeedI X u k t x y) (hk : ¬ k < u.length) : X.feed u = (t, x, y) := by
  have h1 := h.k1
  have hk' : k.toNat = u.length := by omega
  have e1 := h.e1
  have e2 := h.e2
  have e3 := h.e3
  rw [hk', List.drop_length] at e1 e2 e3
  simp only [feed, List.append_nil] at e1 e2 e3
  rw [← e1, ← e2, ← e3]
theorem good_sub {t : Telnet} (h : t.good = true) : t.sub.length ≤ 16 := by
  simp only [good, goodA, Bool.and_eq_true, decide_eq_true_eq] at h
  omega
def bytesOf (xs : List Int) : Str := xs.map u8
theorem getD_mem {xs : List Int} {k : Nat} (h : k < xs.length) : xs.getD k 0 ∈ xs := by
  simp [List.getD, h]
theorem bytesOf_drop {xs : List Int} {k : Int} (h0 : 0 ≤ k) (h1 : k < xs.length) : bytesOf (xs.drop k.toNat) = [u8 (xs.getD k.toNat 0)] ++ bytesOf (xs.drop (k + 1).toNat) := by
  have hk : k.toNat < xs.length := by omega
  rw [List.drop_eq_getElem_cons hk, show (k + 1).toNat = k.toNat + 1 by omega]
  show u8 _ :: _ = u8 _ :: _
  simp [List.getD, hk, bytesOf]
def badOptR (t : Telnet) (i : Int) : Bool := decide (t.us.at i < 0) || decide (2 < t.us.at i) || decide (t.them.at i < 0) || decide (2 < t.them.at i)
def refGoodA (t : Telnet) : Bool :=
  if (!decide (t.us.at 2 = 0) || !decide (t.them.at 0 = 0) || decide (t.height < 0) || decide (200 < t.height) || decide (16 < (t.sub.length : Int))) = true then false
  else if decide (t.at_ = 0) = true then decide (t.verb = 0) && decide (t.sub = [])
  else if decide (t.at_ = 1) = true then decide (t.verb = 0) && decide (t.sub = [])
  else if decide (t.at_ = 2) = true then decide (251 ≤ t.verb) && decide (t.verb ≤ 254) && decide (t.sub = [])
  else if decide (t.at_ = 3) = true then decide (t.verb = 0)
  else if decide (t.at_ = 4) = true then decide (t.verb = 0)
  else false
def refGood (t : Telnet) : Bool := allFrom 3 (fun i => !t.badOptR i) 3 && t.refGoodA
theorem refGood_eq (t : Telnet) : t.refGood = t.good := by
  unfold refGood good
  congr 1
  rw [Bool.eq_iff_iff]
  unfold refGoodA goodA
  repeat' split
  all_goals simp_all
  all_goals omega
end Telnet
end Go.Ing
/- The plain functions of lines. -/
namespace Go.Ing
open Go
theorem PS_conv {P : Program} {n : Nat} {w0 : World} {M : List Nat} {F : List (Nat × Value)} {L : List Res} {op : Op} {T : TypeId} {v v' : Value} (h : PS P n w0 M op T F L v L) (e : v = v') : PS P n w0 M op T F L v' L := e ▸ h
namespace Line
def plainB (b : UInt8) : Bool := decide (32 ≤ (b.toNat : Int)) && decide ((b.toNat : Int) < 127)
def strOk (s : Str) : Bool := !decide (60 < (s.length : Int)) && s.all plainB
def badHead (l : LineV) : Bool := decide (60 < (l.now.length : Int)) || decide (6 < (l.queue.len : Int)) || (l.long && decide (60 < (l.now.length : Int))) || (l.ret && (!decide (l.now = []) || l.long))
def good (l : LineV) (qs : List Str) : Bool := !badHead l && (qs ++ [l.now]).all strOk
/-- A line's bytes as they come: what it is, how many found no room. -/
structure S where
  now : Str
  long : Bool
  ret : Bool
  queue : List Str
  lost : Int
  deriving DecidableEq
def step (x : S) (b : UInt8) : S :=
  let c : Int := (b.toNat : Int)
  if (x.ret && (decide (c = 10) || decide (c = 0))) = true then { x with ret := false }
  else if (decide (c = 13) || decide (c = 10)) = true then
    (if decide ((x.queue.length : Int) < 6) = true then { x with queue := x.queue ++ [x.now], now := [], long := false, ret := decide (c = 13) } else { x with lost := x.lost + 1, now := [], long := false, ret := decide (c = 13) })
  else if (decide (c = 8) || decide (c = 127)) = true then (if decide (0 < (x.now.length : Int)) = true then { x with now := x.now.take ((x.now.length : Int) - 1).toNat, ret := false } else { x with ret := false })
  else if (!plainB b) = true then { x with ret := false }
  else if decide (60 ≤ (x.now.length : Int)) = true then { x with long := true, ret := false }
  else { x with now := x.now ++ [b], ret := false }
def feed (x : S) (s : Str) : S := s.foldl step x
def start (l : LineV) (qs : List Str) : S := ⟨l.now, l.long, l.ret, qs, 0⟩
/-- What holds while bytes are read. -/
structure I (x0 : S) (u : Str) (k : Int) (x : S) : Prop where
  k0 : 0 ≤ k
  k1 : k ≤ u.length
  now : x.now.length ≤ 60
  queue : x.queue.length ≤ 6
  lost : 0 ≤ x.lost ∧ x.lost ≤ k
  e : feed x0 u = feed x (u.drop k.toNat)
theorem step_now {x : S} (b : UInt8) (h : x.now.length ≤ 60) : (step x b).now.length ≤ 60 := by
  unfold step; dsimp only
  repeat' split
  all_goals first | exact h | (simp; done) | (simp; omega) | (rename_i h1 _; simp at *; omega) | skip
  all_goals simp_all
  all_goals omega
theorem step_queue {x : S} (b : UInt8) (h : x.queue.length ≤ 6) : (step x b).queue.length ≤ 6 := by
  unfold step; dsimp only
  repeat' split
  all_goals first | exact h | (simp at *; omega)
theorem step_lost (x : S) (b : UInt8) : x.lost ≤ (step x b).lost ∧ (step x b).lost ≤ x.lost + 1 := by
  unfold step; dsimp only
  repeat' split
  all_goals (constructor <;> dsimp only <;> omega)
theorem I.start {x : S} {u : Str} (h1 : x.now.length ≤ 60) (h2 : x.queue.length ≤ 6) (h3 : x.lost = 0) : I x u 0 x := ⟨by omega, by omega, h1, h2, by omega, rfl⟩
theorem I.next {x0 x : S} {u : Str} {k : Int} (h : I x0 u k x) (hk : k < u.length) {now : Str} {long ret : Bool} {queue : List Str} {lost : Int} (hs : step x (u.getD k.toNat 0) = ⟨now, long, ret, queue, lost⟩) : I x0 u (k + 1) ⟨now, long, ret, queue, lost⟩ := by
  have h0 := h.k0
  have hk' : k.toNat < u.length := by omega
  have hd : u.drop k.toNat = u.getD k.toNat 0 :: u.drop (k + 1).toNat := by
    rw [List.drop_eq_getElem_cons hk', show (k + 1).toNat = k.toNat + 1 by omega]
    simp [List.getD, hk']
  have hl := step_lost x (u.getD k.toNat 0)
  have hl' := h.lost
  have hn := step_now (u.getD k.toNat 0) h.now
  have hq := step_queue (u.getD k.toNat 0) h.queue
  rw [hs] at hl hn hq
  refine ⟨by omega, by omega, hn, hq, by dsimp only at *; omega, ?_⟩
  rw [h.e, hd, ← hs]; rfl
theorem I.done {x0 x : S} {u : Str} {k : Int} (h : I x0 u k x) (hk : ¬ k < u.length) : feed x0 u = x := by
  have h1 := h.k1
  have hk' : k.toNat = u.length := by omega
  rw [h.e, hk', List.drop_length]; rfl
theorem good_head {l : LineV} {qs : List Str} (h : good l qs = true) : l.now.length ≤ 60 ∧ l.queue.len ≤ 6 := by
  simp only [good, badHead, Bool.and_eq_true, Bool.not_eq_true', Bool.or_eq_false_iff, decide_eq_false_iff_not] at h
  omega
theorem all_drop {α : Type} {p : α → Bool} {xs : List α} {k : Int} {d : α} (h0 : 0 ≤ k) (h1 : k < xs.length) : (xs.drop k.toNat).all p = (p (xs.getD k.toNat d) && (xs.drop (k + 1).toNat).all p) := by
  have hk' : k.toNat < xs.length := by omega
  rw [List.drop_eq_getElem_cons hk', show (k + 1).toNat = k.toNat + 1 by omega, List.all_cons]
  simp [List.getD, hk']
/-! #### what is said of lines -/
structure Ok (x : S) : Prop where
  now : strOk x.now = true
  queue : ∀ s ∈ x.queue, strOk s = true
  len : x.queue.length ≤ 6
  ret : x.ret = true → x.now = [] ∧ x.long = false
theorem strOk_iff (s : Str) : strOk s = true ↔ s.length ≤ 60 ∧ ∀ b ∈ s, plainB b = true := by
  simp only [strOk, Bool.and_eq_true, Bool.not_eq_true', decide_eq_false_iff_not, List.all_eq_true]
  constructor
  · rintro ⟨h1, h2⟩; exact ⟨by omega, h2⟩
  · rintro ⟨h1, h2⟩; exact ⟨by omega, h2⟩
theorem strOk_nil : strOk [] = true := rfl
theorem good_iff {l : LineV} {qs : List Str} (hl : l.queue.len = qs.length) : good l qs = true ↔ Ok (start l qs) := by
  simp only [good, badHead, Bool.and_eq_true, Bool.not_eq_true', Bool.or_eq_false_iff, decide_eq_false_iff_not, List.all_append, List.all_cons, List.all_nil, Bool.and_true, List.all_eq_true]
  constructor
  · rintro ⟨⟨⟨⟨h1, h2⟩, h3⟩, h4⟩, h5, h6⟩
    refine ⟨h6, h5, by show qs.length ≤ 6; omega, fun h => ?_⟩
    have h : l.ret = true := h
    rw [h] at h4
    simp at h4
    exact h4
  · rintro ⟨h1, h2, h3, h4⟩
    have h3 : qs.length ≤ 6 := h3
    have h5 := ((strOk_iff _).1 h1).1
    have h5 : l.now.length ≤ 60 := h5
    refine ⟨⟨⟨⟨by omega, by omega⟩, ?_⟩, ?_⟩, h2, h1⟩
    · cases l.long <;> simp; omega
    · have h4 : l.ret = true → l.now = [] ∧ l.long = false := h4
      cases hr : l.ret with
      | false => rfl
      | true => obtain ⟨a, b⟩ := h4 hr; simp [a, b]
theorem step_ok {x : S} (h : Ok x) (b : UInt8) : Ok (step x b) := by
  obtain ⟨h1, h2, h3, h4⟩ := h
  have h1' := (strOk_iff _).1 h1
  unfold step; dsimp only
  repeat' split
  all_goals try simp only [decide_eq_true_eq, Bool.not_eq_true', Bool.or_eq_true] at *
  · exact ⟨h1, h2, h3, fun h => by cases h⟩
  · rename_i hq
    refine ⟨strOk_nil, fun s hs => ?_, by show (x.queue ++ [x.now]).length ≤ 6; rw [List.length_append, List.length_singleton]; omega, fun _ => ⟨rfl, rfl⟩⟩
    rcases List.mem_append.1 hs with hs | hs
    · exact h2 s hs
    · simp at hs; subst hs; exact h1
  · exact ⟨strOk_nil, h2, h3, fun _ => ⟨rfl, rfl⟩⟩
  · refine ⟨(strOk_iff _).2 ⟨?_, fun c hc => h1'.2 c (List.mem_of_mem_take hc)⟩, h2, h3, fun h => by cases h⟩
    have := h1'.1
    show (x.now.take _).length ≤ 60
    rw [List.length_take]; omega
  · exact ⟨h1, h2, h3, fun h => by cases h⟩
  · exact ⟨h1, h2, h3, fun h => by cases h⟩
  · exact ⟨h1, h2, h3, fun h => by cases h⟩
  · rename_i hp hl
    refine ⟨(strOk_iff _).2 ⟨by show (x.now ++ [b]).length ≤ 60; rw [List.length_append, List.length_singleton]; omega, fun c hc => ?_⟩, h2, h3, fun h => by cases h⟩
    rcases List.mem_append.1 hc with hc | hc
    · exact h1'.2 c hc
    · simp at hc; subst hc; simpa using hp
theorem feed_ok (u : Str) : ∀ {x : S}, Ok x → Ok (feed x u) := by
  induction u with
  | nil => intro x h; exact h
  | cons b u ih => intro x h; exact ih (step_ok h b)
theorem feed_append (x : S) (a b : Str) : feed x (a ++ b) = feed (feed x a) b := List.foldl_append ..
/-- The lost are only counted. -/
def more (x : S) (d : Int) : S := { x with lost := x.lost + d }
theorem step_more (x : S) (d : Int) (b : UInt8) : step (more x d) b = more (step x b) d := by
  unfold step more; dsimp only
  repeat' split
  all_goals first | rfl | (simp; omega) | (exfalso; simp_all; done) | skip
theorem feed_more (u : Str) : ∀ (x : S) (d : Int), feed (more x d) u = more (feed x u) d := by
  induction u with
  | nil => intro x d; rfl
  | cons b u ih => intro x d; show feed (step (more x d) b) u = _; rw [step_more]; exact ih _ _
/-- A line's value with its queue's header. -/
def val (x : S) (h : Hd) : LineV := ⟨x.now, x.long, x.ret, h⟩
theorem start_val (x : S) (h : Hd) : start (val x h) x.queue = { x with lost := 0 } := rfl
theorem val_good {x : S} (h : Ok x) {q : Hd} (hq : q.len = x.queue.length) : good (val x q) x.queue = true := (good_iff (l := val x q) (qs := x.queue) hq).2 ⟨h.now, h.queue, h.len, h.ret⟩
theorem start_ok {l : LineV} {qs : List Str} (h : good l qs = true) (hl : l.queue.len = qs.length) : Ok (start l qs) := (good_iff hl).1 h
theorem feed_two (x : S) (h0 : x.lost = 0) (a b : Str) : feed x (a ++ b) = more (feed { feed x a with lost := 0 } b) (feed x a).lost := by
  rw [feed_append, ← feed_more]
  congr 1
  simp [more]
theorem pickE {α : Type} {xs ys : List α} {i : Nat} (hl : xs.length = ys.length) (ht : xs.take i = ys.take i) (hi : ¬ i < xs.length) : xs = ys := by
  rw [List.take_of_length_le (by omega), List.take_of_length_le (by omega)] at ht; exact ht
theorem take_next {α : Type} {xs ys : List α} {i : Int} {d : α} (h0 : 0 ≤ i) (hl : xs.length = ys.length) (hi : i < xs.length) (ht : xs.take i.toNat = ys.take i.toNat) (he : xs.getD i.toNat d = ys.getD i.toNat d) : xs.take (i + 1).toNat = ys.take (i + 1).toNat := by
  have h1 : i.toNat < xs.length := by omega
  have h2 : i.toNat < ys.length := by omega
  rw [show (i + 1).toNat = i.toNat + 1 by omega, List.take_succ_eq_append_getElem h1, List.take_succ_eq_append_getElem h2, ht]
  simp only [List.getD, List.getElem?_eq_getElem h1, List.getElem?_eq_getElem h2, Option.getD_some] at he
  rw [he]
theorem ne_of_getD {α : Type} {xs ys : List α} {i : Nat} {d : α} (h : xs.getD i d ≠ ys.getD i d) : xs ≠ ys := fun e => h (by rw [e])
theorem cons_of {qs : List Str} (h : qs.length ≠ 0) : ∃ q r, qs = q :: r := by
  cases qs with
  | nil => simp at h
  | cons q r => exact ⟨q, r, rfl⟩
def plainK (b : UInt8) : Bool := !(decide ((b.toNat : Int) < 32) || decide (126 < (b.toNat : Int)))
def cleanK (s : Str) : Bool := s.all plainK && decide ((s.length : Int) ≤ 60)
theorem plainK_eq (b : UInt8) : plainK b = plainB b := by
  rw [Bool.eq_iff_iff]; simp [plainK, plainB]; omega
theorem cleanK_iff (s : Str) : cleanK s = true ↔ strOk s = true := by
  rw [strOk_iff]
  simp only [cleanK, Bool.and_eq_true, List.all_eq_true, decide_eq_true_eq, plainK_eq]
  constructor
  · rintro ⟨h1, h2⟩; exact ⟨by omega, h1⟩
  · rintro ⟨h1, h2⟩; exact ⟨h2, by omega⟩
theorem feed_lost (u : Str) : ∀ x : S, x.lost ≤ (feed x u).lost ∧ (feed x u).lost ≤ x.lost + u.length := by
  induction u with
  | nil => intro x; simp [feed]
  | cons b u ih =>
    intro x
    have h1 := step_lost x b
    have h2 := ih (step x b)
    show x.lost ≤ (feed (step x b) u).lost ∧ (feed (step x b) u).lost ≤ _
    rw [List.length_cons]
    omega
theorem lost_add {l l2 : LineV} {qs qs2 : List Str} {a b : Str} (hn : a.length + b.length ≤ 9000000000000000000) : -9223372036854775808 ≤ (feed (start l qs) a).lost + (feed (start l2 qs2) b).lost ∧ (feed (start l qs) a).lost + (feed (start l2 qs2) b).lost ≤ 9223372036854775807 := by
  have h1 := feed_lost a (start l qs)
  have h2 := feed_lost b (start l2 qs2)
  have e1 : (start l qs).lost = 0 := rfl
  have e2 : (start l2 qs2).lost = 0 := rfl
  omega
theorem step_q (x : S) (b : UInt8) : (step x b).queue.length ≤ max x.queue.length 6 := by
  unfold step; dsimp only
  repeat' split
  all_goals first | exact Nat.le_max_left .. | (simp only [List.length_append, List.length_singleton]; simp at *; omega)
theorem feed_q (u : Str) : ∀ x : S, (feed x u).queue.length ≤ max x.queue.length 6 := by
  induction u with
  | nil => intro x; exact Nat.le_max_left ..
  | cons b u ih =>
    intro x
    have h1 := step_q x b
    have h2 := ih (step x b)
    show (feed (step x b) u).queue.length ≤ _
    omega
theorem q_le {x : S} {u : Str} (h : x.queue.length ≤ 9223372036854775807) : (feed x u).queue.length ≤ 9223372036854775807 := by
  have := feed_q u x; omega
theorem q_good {l : LineV} {qs : List Str} (hl : l.queue.len = qs.length) (h : good l qs = true) : (start l qs).queue.length ≤ 9223372036854775807 := by
  have := (good_head h).2
  show qs.length ≤ _; omega
theorem parts_ok {l : LineV} {qs : List Str} (hl : l.queue.len = qs.length) (h : good l qs = true) (a b : Str) {q r : Hd} (hr : r.len = (feed (start l qs) (a ++ b)).queue.length) :
    (decide ((feed (start (val (feed (start l qs) a) q) (feed (start l qs) a).queue) b).now = (feed (start l qs) (a ++ b)).now) && ((feed (start (val (feed (start l qs) a) q) (feed (start l qs) a).queue) b).long == (feed (start l qs) (a ++ b)).long) && ((feed (start (val (feed (start l qs) a) q) (feed (start l qs) a).queue) b).ret == (feed (start l qs) (a ++ b)).ret) && decide ((feed (start (val (feed (start l qs) a) q) (feed (start l qs) a).queue) b).queue = (feed (start l qs) (a ++ b)).queue)) = true ∧
    (feed (start l qs) a).lost + (feed (start (val (feed (start l qs) a) q) (feed (start l qs) a).queue) b).lost = (feed (start l qs) (a ++ b)).lost ∧ good (val (feed (start l qs) (a ++ b)) r) (feed (start l qs) (a ++ b)).queue = true := by
  have e := feed_two (start l qs) rfl a b
  refine ⟨?_, ?_, val_good (feed_ok _ (start_ok h hl)) hr⟩
  · rw [e, start_val]; simp [more]
  · rw [e, start_val]; simp only [more]; omega
theorem q_start {l : LineV} {q : List Str} {u : Str} (h : q.length ≤ 9223372036854775807) : (feed (start l q) u).queue.length ≤ 9223372036854775807 := q_le h
theorem q_len {l : LineV} {qs : List Str} (hl : l.queue.len = qs.length) (h : good l qs = true) : qs.length ≤ 9223372036854775807 := q_good hl h
theorem parts_all {l : LineV} {qs : List Str} (hl : l.queue.len = qs.length) (h : good l qs = true) (a b : Str) {q q' r : Hd} (hr : r.len = (feed (start l qs) (a ++ b)).queue.length) :
    (decide ((0 : Int) = 0) && decide ((0 : Int) = 0) && (decide ((val (feed (start (val (feed (start l qs) a) q) (feed (start l qs) a).queue) b) q').now = (val (feed (start l qs) (a ++ b)) r).now) && ((val (feed (start (val (feed (start l qs) a) q) (feed (start l qs) a).queue) b) q').long == (val (feed (start l qs) (a ++ b)) r).long) && ((val (feed (start (val (feed (start l qs) a) q) (feed (start l qs) a).queue) b) q').ret == (val (feed (start l qs) (a ++ b)) r).ret) && decide ((feed (start (val (feed (start l qs) a) q) (feed (start l qs) a).queue) b).queue = (feed (start l qs) (a ++ b)).queue)) &&
    decide ((feed (start l qs) a).lost + (feed (start (val (feed (start l qs) a) q) (feed (start l qs) a).queue) b).lost = (feed (start l qs) (a ++ b)).lost) && good (val (feed (start l qs) (a ++ b)) r) (feed (start l qs) (a ++ b)).queue) = true := by
  obtain ⟨e1, e2, e3⟩ := parts_ok hl h a b (q := q) hr
  simp only [Bool.and_eq_true] at e1 ⊢
  exact ⟨⟨⟨⟨rfl, rfl⟩, e1⟩, by simpa using e2⟩, e3⟩
/-! #### text that is typed -/
theorem plain_rng {b : UInt8} (h : plainB b = true) : 32 ≤ (b.toNat : Int) ∧ (b.toNat : Int) < 127 := by
  simpa [plainB] using h
theorem step_plain {x : S} {b : UInt8} (h : plainB b = true) (hn : x.now.length < 60) : step x b = { x with now := x.now ++ [b], ret := false } := by
  have hb := plain_rng h
  have e1 : decide ((b.toNat : Int) = 10) = false := decide_eq_false (by omega)
  have e2 : decide ((b.toNat : Int) = 0) = false := decide_eq_false (by omega)
  have e3 : decide ((b.toNat : Int) = 13) = false := decide_eq_false (by omega)
  have e4 : decide ((b.toNat : Int) = 8) = false := decide_eq_false (by omega)
  have e5 : decide ((b.toNat : Int) = 127) = false := decide_eq_false (by omega)
  have e6 : decide (60 ≤ (x.now.length : Int)) = false := decide_eq_false (by omega)
  simp only [step, e1, e2, e3, e4, e5, e6, h]
  simp
theorem feed_plain (s : Str) : ∀ x : S, (∀ b ∈ s, plainB b = true) → x.now.length + s.length ≤ 60 → s ≠ [] → feed x s = { x with now := x.now ++ s, ret := false } := by
  induction s with
  | nil => intro x _ _ h; exact absurd rfl h
  | cons b s ih =>
    intro x hp hl _
    rw [List.length_cons] at hl
    show feed (step x b) s = _
    rw [step_plain (hp b (by simp)) (by omega)]
    cases s with
    | nil => rfl
    | cons c s =>
      rw [ih _ (fun d hd => hp d (by simp [hd])) (by simp at hl ⊢; omega) (by simp)]
      simp
theorem feed_cons (x : S) (b : UInt8) (s : Str) : feed x (b :: s) = feed (step x b) s := rfl
theorem feed_erase (m : Nat) : ∀ x : S, x.ret = false → feed x (List.replicate m 8) = { x with now := x.now.take (x.now.length - m) } := by
  induction m with
  | zero => intro x _; simp [feed]
  | succ m ih =>
    intro x hr
    have e : step x 8 = { x with now := x.now.take (x.now.length - 1) } := by
      have h8 : ((8 : UInt8).toNat : Int) = 8 := rfl
      simp only [step, h8, hr]
      by_cases h : 0 < (x.now.length : Int)
      · have e2 : ((x.now.length : Int) - 1).toNat = x.now.length - 1 := by omega
        simp [h, e2]
        cases x; simp_all
      · have : x.now = [] := List.length_eq_zero_iff.1 (by omega)
        cases x; simp_all
    rw [List.replicate_succ, feed_cons, e, ih _ (by exact hr)]
    simp only [List.length_take, List.take_take]
    congr 2
    omega
def emptyL : LineV := ⟨[], false, false, ⟨none, 0, 0⟩⟩
def s0 : S := start emptyL []
theorem erases {s : Str} (h : strOk s = true) (m : Nat) : feed s0 (s ++ List.replicate m 8 ++ [10]) = ⟨[], false, false, [s.take (s.length - m)], 0⟩ := by
  obtain ⟨h1, h2⟩ := (strOk_iff s).1 h
  have e : feed s0 s = ⟨s, false, false, [], 0⟩ := by
    cases s with
    | nil => rfl
    | cons b s => rw [feed_plain _ _ h2 (by simpa [s0, start, emptyL] using h1) (by simp)]; rfl
  rw [feed_append, feed_append, e, feed_erase _ _ rfl]
  rfl
/-- Lines that stand as they are, each ended alike. -/
def Ends (W : Str) : Prop := W = [13, 10] ∨ W = [10] ∨ W = [13, 0] ∨ W = [13]
structure Wait (W : Str) (x : S) (q : List Str) : Prop where
  now : x.now = []
  long : x.long = false
  ret : x.ret = true → W = [13]
  queue : x.queue = q
  lost : x.lost = 0
theorem wait_end {W : Str} (hW : Ends W) {x : S} {q : List Str} (hq : q.length < 6) {s : Str} (hn : x.now = s) (hl : x.long = false) (hr : x.ret = true → W = [13] ∧ s = []) (hx : x.queue = q) (h0 : x.lost = 0) : Wait W (feed x W) (q ++ [s]) := by
  have hc : decide ((x.queue.length : Int) < 6) = true := decide_eq_true (by rw [hx]; omega)
  obtain ⟨n, l, r, qq, lo⟩ := x
  simp only at hn hl hr hx h0 hc
  subst hn; subst hl; subst hx; subst h0
  have h13 : ((13 : UInt8).toNat : Int) = 13 := rfl
  have h10 : ((10 : UInt8).toNat : Int) = 10 := rfl
  have h00 : ((0 : UInt8).toNat : Int) = 0 := rfl
  have e13 : step ⟨n, false, r, qq, 0⟩ 13 = ⟨[], false, true, qq ++ [n], 0⟩ := by
    simp only [step, h13, hc]; simp
  have e10 : r = false → step ⟨n, false, r, qq, 0⟩ 10 = ⟨[], false, false, qq ++ [n], 0⟩ := by
    intro hr; subst hr
    simp only [step, h10, hc]; simp
  rcases hW with rfl | rfl | rfl | rfl
  · have : feed ⟨n, false, r, qq, 0⟩ [13, 10] = ⟨[], false, false, qq ++ [n], 0⟩ := by
      show step (step _ 13) 10 = _
      rw [e13]; simp [step, h10]
    rw [this]; exact ⟨rfl, rfl, fun h => (by cases h), rfl, rfl⟩
  · have hr' : r = false := by
      cases r with
      | false => rfl
      | true => have := (hr rfl).1; simp at this
    have : feed ⟨n, false, r, qq, 0⟩ [10] = ⟨[], false, false, qq ++ [n], 0⟩ := e10 hr'
    rw [this]; exact ⟨rfl, rfl, fun h => (by cases h), rfl, rfl⟩
  · have : feed ⟨n, false, r, qq, 0⟩ [13, 0] = ⟨[], false, false, qq ++ [n], 0⟩ := by
      show step (step _ 13) 0 = _
      rw [e13]; simp [step, h00]
    rw [this]; exact ⟨rfl, rfl, fun h => (by cases h), rfl, rfl⟩
  · have : feed ⟨n, false, r, qq, 0⟩ [13] = ⟨[], false, true, qq ++ [n], 0⟩ := e13
    rw [this]; exact ⟨rfl, rfl, fun _ => rfl, rfl, rfl⟩
theorem wait_next {W : Str} (hW : Ends W) {x : S} {q : List Str} (h : Wait W x q) (hq : q.length < 6) {s : Str} (hs : strOk s = true) : Wait W (feed x (s ++ W)) (q ++ [s]) := by
  obtain ⟨h1, h2⟩ := (strOk_iff s).1 hs
  rw [feed_append]
  cases s with
  | nil => exact wait_end hW hq h.now h.long (fun hr => ⟨h.ret hr, rfl⟩) h.queue h.lost
  | cons b s =>
    rw [feed_plain _ _ h2 (by rw [h.now]; simpa using h1) (by simp)]
    exact wait_end hW hq (by simp [h.now]) h.long (fun hr => by cases hr) h.queue h.lost
def pick (k n : Int) : Int := k.tmod n + if k.tmod n < 0 then n else 0
theorem pick_rng {k n : Int} (h : 0 < n) : 0 ≤ pick k n ∧ pick k n < n := by
  have h1 := Int.tmod_lt_of_pos k h
  have h2 := Int.lt_tmod_of_pos k h
  unfold pick; split <;> omega
/-- The way a line is ended. -/
def way (e : Int) : Str := if e = 0 then [13, 10] else if e = 1 then [10] else if e = 2 then [13, 0] else [13]
theorem way_ends (e : Int) : Ends (way e) := by
  unfold way Ends; repeat' split
  all_goals simp
theorem way_len (e : Int) : (way e).length ≤ 2 := by
  unfold way; repeat' split
  all_goals simp
/-- Lines, as they are typed. -/
def typed (W : Str) (qs : List Str) : Str := qs.flatMap (· ++ W)
theorem typed_wait {W : Str} (hW : Ends W) (qs : List Str) : ∀ (x : S) (q : List Str), Wait W x q → q.length + qs.length ≤ 6 → (∀ s ∈ qs, strOk s = true) → Wait W (feed x (typed W qs)) (q ++ qs) := by
  induction qs with
  | nil => intro x q h _ _; simpa [typed, feed] using h
  | cons s qs ih =>
    intro x q h hl hs
    rw [List.length_cons] at hl
    have h1 := wait_next hW h (by omega) (hs s (by simp))
    have h2 := ih _ _ h1 (by simp; omega) (fun t ht => hs t (by simp [ht]))
    have e : typed W (s :: qs) = (s ++ W) ++ typed W qs := rfl
    rw [e, feed_append]
    simpa using h2
theorem whole {W : Str} (hW : Ends W) {qs : List Str} (hl : qs.length ≤ 6) (hs : ∀ s ∈ qs, strOk s = true) : Wait W (feed s0 (typed W qs)) qs := by
  have := typed_wait hW qs s0 [] ⟨rfl, rfl, fun h => (by cases h), rfl, rfl⟩ (by simpa using hl) hs
  simpa using this
theorem typed_snoc (W : Str) (qs : List Str) (s : Str) : typed W (qs ++ [s]) = typed W qs ++ (s ++ W) := by simp [typed]
theorem take_snoc {xs : List Str} {k : Int} (h0 : 0 ≤ k) (h1 : k < xs.length) : xs.take (k + 1).toNat = xs.take k.toNat ++ [xs.getD k.toNat []] := by
  have h : k.toNat < xs.length := by omega
  rw [show (k + 1).toNat = k.toNat + 1 by omega, List.take_succ_eq_append_getElem h]
  simp [List.getD, h]
theorem erases_all {s : Str} (h : strOk s = true) {n : Int} (h0 : 0 ≤ n) {y : Hd} (hy : y.len = (feed s0 (s ++ List.replicate n.toNat 8 ++ [10])).queue.length) :
    (decide ((0 : Int) = 0) && decide ((y.len : Int) = 1) && decide ((feed s0 (s ++ List.replicate n.toNat 8 ++ [10])).queue.getD 0 [] = s.take (max 0 ((s.length : Int) - n)).toNat) && true) = true := by
  rw [erases h] at hy ⊢
  have : (max 0 ((s.length : Int) - n)).toNat = s.length - n.toNat := by omega
  simp [hy, this]
theorem drop_cons {qs : List Str} {i : Int} (h0 : 0 ≤ i) (h1 : i < qs.length) : qs.drop i.toNat = qs.getD i.toNat [] :: qs.drop (i + 1).toNat := by
  have h : i.toNat < qs.length := by omega
  rw [List.drop_eq_getElem_cons h, show (i + 1).toNat = i.toNat + 1 by omega]
  simp [List.getD, h]
theorem whole_cond {W : Str} {x : S} {q : List Str} (h : Wait W x q) : (!decide ((0 : Int) = 0) || !decide (x.lost = 0) || !decide (x.queue = q) || !decide (x.now = []) || !true) = false := by
  simp [h.lost, h.queue, h.now]
theorem next_eq {ws rest r : List Str} {q : Str} {i : Int} (h0 : 0 ≤ i) (h1 : i < ws.length) (hr : rest = ws.drop i.toNat) (e : rest = q :: r) : q = ws.getD i.toNat [] ∧ r = ws.drop (i + 1).toNat := by
  rw [hr, drop_cons h0 h1] at e
  injection e with e1 e2
  exact ⟨e1.symm, e2.symm⟩
theorem typed_len {W : Str} (hW : W.length ≤ 2) (qs : List Str) (hs : ∀ s ∈ qs, strOk s = true) : (typed W qs).length ≤ qs.length * 62 := by
  induction qs with
  | nil => simp [typed]
  | cons s qs ih =>
    have h1 := ((strOk_iff s).1 (hs s (by simp))).1
    have h2 := ih fun t ht => hs t (by simp [ht])
    have e : typed W (s :: qs) = (s ++ W) ++ typed W qs := rfl
    rw [e, List.length_append, List.length_append, List.length_cons, Nat.add_mul]
    omega
theorem way_at {i : Int} (h0 : 0 ≤ i) (h1 : i < 4) : vstr ((((((Vector.replicate 4 default : Vector Str 4).put 0 [13, 10]).put 1 [10]).put 2 [13, 0]).put 3 [13]).at i) = vstr (way i) := by
  have : i = 0 ∨ i = 1 ∨ i = 2 ∨ i = 3 := by omega
  rcases this with rfl | rfl | rfl | rfl <;> rfl
theorem getD_le {xs : List Str} {N : Nat} (h : ∀ s ∈ xs, s.length ≤ N) (k : Nat) : (xs.getD k []).length ≤ N := by
  by_cases hk : k < xs.length
  · have e : xs.getD k [] = xs[k] := by simp [List.getD, hk]
    rw [e]; exact h _ (List.getElem_mem hk)
  · have e : xs.getD k [] = [] := by simp [List.getD, List.getElem?_eq_none (Nat.le_of_not_lt hk)]
    rw [e]; simp
/-! #### the document's -/
def refGood (l : LineV) (qs : List Str) : Bool := qs.all cleanK && (cleanK l.now && decide ((l.queue.len : Int) ≤ 6) && (!l.ret || (decide (l.now = []) && !l.long)))
theorem refGood_eq (l : LineV) (qs : List Str) : refGood l qs = good l qs := by
  have e : ∀ s, cleanK s = strOk s := fun s => Bool.eq_iff_iff.2 (cleanK_iff s)
  have e2 : cleanK = strOk := funext e
  rw [Bool.eq_iff_iff]
  simp only [refGood, good, badHead, e2, List.all_append, List.all_cons, List.all_nil, Bool.and_true, Bool.and_eq_true]
  constructor
  · rintro ⟨h1, ⟨h2, h3⟩, h4⟩
    have h5 := ((strOk_iff _).1 h2).1
    simp at h3
    refine ⟨?_, h1, h2⟩
    have a1 : decide (60 < (l.now.length : Int)) = false := decide_eq_false (by omega)
    have a2 : decide (6 < (l.queue.len : Int)) = false := decide_eq_false (by omega)
    rw [a1, a2]
    cases hr : l.ret with
    | false => simp
    | true =>
      rw [hr] at h4
      simp at h4
      rw [h4.1, h4.2]; simp
  · rintro ⟨h1, h2, h3⟩
    simp only [Bool.not_eq_true', Bool.or_eq_false_iff, decide_eq_false_iff_not] at h1
    obtain ⟨⟨⟨h4, h5⟩, h6⟩, h7⟩ := h1
    refine ⟨h2, ⟨h3, by simp; omega⟩, ?_⟩
    cases hr : l.ret <;> cases hl : l.long <;> simp_all
def refEnd (x : S) : S := ⟨[], false, x.ret, if decide ((x.queue.length : Int) = 6) = true then x.queue else x.queue ++ [x.now], if decide ((x.queue.length : Int) = 6) = true then x.lost + 1 else x.lost⟩
def refB (x : S) (b : UInt8) : S :=
  if decide ((b.toNat : Int) = 13) = true then { refEnd x with ret := true }
  else if decide ((b.toNat : Int) = 10) = true then refEnd x
  else if (decide ((b.toNat : Int) = 8) || decide ((b.toNat : Int) = 127)) = true then { x with now := x.now.take (max ((x.now.length : Int) - 1) 0).toNat }
  else if (decide (32 ≤ (b.toNat : Int)) && decide ((b.toNat : Int) ≤ 126) && decide ((x.now.length : Int) = 60)) = true then { x with long := true }
  else if (decide (32 ≤ (b.toNat : Int)) && decide ((b.toNat : Int) ≤ 126)) = true then { x with now := x.now ++ [b] }
  else x
def refStep (x : S) (b : UInt8) : S :=
  if x.ret = true then (if (decide ((b.toNat : Int) = 10) || decide ((b.toNat : Int) = 0)) = true then { x with ret := false } else refB { x with ret := false } b) else refB x b
theorem refB_eq {x : S} (h : Ok x) (b : UInt8) (hr : x.ret = false) : refB x b = step x b := by
  obtain ⟨n, l, r, q, lo⟩ := x
  simp only at hr
  subst hr
  have h1 : q.length ≤ 6 := h.len
  have h2 : n.length ≤ 60 := ((strOk_iff _).1 h.now).1
  have hmax : (max ((n.length : Int) - 1) 0).toNat = ((n.length : Int) - 1).toNat := by omega
  unfold refB step refEnd plainB
  dsimp only
  by_cases c13 : (b.toNat : Int) = 13
  · by_cases hq : (q.length : Int) = 6
    · have : ¬ (q.length : Int) < 6 := by omega
      simp [c13, hq]
    · have : (q.length : Int) < 6 := by omega
      simp [c13, hq, this]
  · by_cases c10 : (b.toNat : Int) = 10
    · by_cases hq : (q.length : Int) = 6
      · have : ¬ (q.length : Int) < 6 := by omega
        simp [c10, hq]
      · have : (q.length : Int) < 6 := by omega
        simp [c10, hq, this]
    · by_cases c8 : (b.toNat : Int) = 8 ∨ (b.toNat : Int) = 127
      · have e8 : (decide ((b.toNat : Int) = 8) || decide ((b.toNat : Int) = 127)) = true := by simpa using c8
        rw [hmax]
        by_cases hn : 0 < (n.length : Int)
        · simp only [c13, c10, e8, hn, decide_false, decide_true, Bool.false_and, Bool.or_self, if_true, Bool.false_eq_true, if_false]
        · have : n = [] := List.length_eq_zero_iff.1 (by omega)
          subst this
          simp only [c13, c10, e8, hn, decide_false, decide_true, Bool.false_and, Bool.or_self, if_true, Bool.false_eq_true, if_false, List.take_nil]
      · have e8 : (decide ((b.toNat : Int) = 8) || decide ((b.toNat : Int) = 127)) = false := by simpa using c8
        have ep : (decide (32 ≤ (b.toNat : Int)) && decide ((b.toNat : Int) < 127)) = (decide (32 ≤ (b.toNat : Int)) && decide ((b.toNat : Int) ≤ 126)) := by
          rw [Bool.eq_iff_iff]; simp; omega
        rw [ep]
        simp only [c13, c10, e8, decide_false, Bool.false_and, Bool.or_self, Bool.false_eq_true, if_false]
        cases hp : (decide (32 ≤ (b.toNat : Int)) && decide ((b.toNat : Int) ≤ 126)) with
        | false => simp
        | true =>
          by_cases h60 : (n.length : Int) = 60
          · simp [h60]
          · have : ¬ 60 ≤ (n.length : Int) := by omega
            simp [h60, this]
theorem step_ret (x : S) (b : UInt8) (h : ¬ ((b.toNat : Int) = 10 ∨ (b.toNat : Int) = 0)) : step x b = step { x with ret := false } b := by
  have e : (decide ((b.toNat : Int) = 10) || decide ((b.toNat : Int) = 0)) = false := by simpa using h
  unfold step; simp only [e, Bool.and_false]
theorem Ok.noret {x : S} (h : Ok x) : Ok { x with ret := false } := ⟨h.now, h.queue, h.len, fun e => by cases e⟩
theorem refStep_eq {x : S} (h : Ok x) (b : UInt8) : refStep x b = step x b := by
  unfold refStep
  cases hr : x.ret with
  | false => exact refB_eq h b hr
  | true =>
    rw [if_pos rfl]
    cases hc : (decide ((b.toNat : Int) = 10) || decide ((b.toNat : Int) = 0)) with
    | true => simp only [step, hr, hc]; rfl
    | false => rw [if_neg (by decide), refB_eq h.noret b rfl, step_ret x b (by simpa using hc)]
/-- What holds while the document's answer reads bytes. -/
structure RI (x0 : S) (u : Str) (k : Int) (x : S) : Prop where
  k0 : 0 ≤ k
  k1 : k ≤ u.length
  ok : Ok x
  lost : 0 ≤ x.lost ∧ x.lost ≤ k
  e : feed x0 u = feed x (u.drop k.toNat)
theorem RI.start {x : S} {u : Str} (h : Ok x) (h0 : x.lost = 0) : RI x u 0 x := ⟨by omega, by omega, h, by omega, rfl⟩
theorem RI.next {x0 x x' : S} {u : Str} {k : Int} (h : RI x0 u k x) (hk : k < u.length) (hs : refStep x (u.getD k.toNat 0) = x') : RI x0 u (k + 1) x' := by
  rw [refStep_eq h.ok] at hs
  have h0 := h.k0
  have hk' : k.toNat < u.length := by omega
  have hd : u.drop k.toNat = u.getD k.toNat 0 :: u.drop (k + 1).toNat := by
    rw [List.drop_eq_getElem_cons hk', show (k + 1).toNat = k.toNat + 1 by omega]
    simp [List.getD, hk']
  have hl := step_lost x (u.getD k.toNat 0)
  have hl' := h.lost
  have ho := step_ok h.ok (u.getD k.toNat 0)
  rw [hs] at hl ho
  exact ⟨by omega, by omega, ho, by omega, by rw [h.e, hd, ← hs]; rfl⟩
theorem RI.done {x0 x : S} {u : Str} {k : Int} (h : RI x0 u k x) (hk : ¬ k < u.length) : feed x0 u = x := by
  have h1 := h.k1
  have hk' : k.toNat = u.length := by omega
  rw [h.e, hk', List.drop_length]; rfl
theorem bytes1 (b : UInt8) : Telnet.bytesOf [(b.toNat : Int)] = [b] := by simp [Telnet.bytesOf, u8]
theorem tail_le {qs r : List Str} {q : Str} {N : Nat} (e : qs = q :: r) (h : qs.length ≤ N) : r.length ≤ N := by subst e; rw [List.length_cons] at h; omega
theorem good_q (l : LineV) (qs : List Str) {h : Hd} (e : h.len = qs.length) (e2 : l.queue.len = qs.length) : good ⟨l.now, l.long, l.ret, h⟩ qs = good l qs := by
  unfold good badHead; dsimp only; rw [e, e2]
end Line
end Go.Ing
/- Engine, part 14: the library's own entries; slices that came in or are the call's own. -/
namespace Go.Ing
open Go
section
variable {P : Program} {n : Nat} {w0 : World} {M : List Nat} {Q : Exit → Go.Act → World → Prop} {F F' : List (Nat × Value)} {L L' : List Res} {ops : Array Oper} {rest : List Oper}
theorem PS_cap_slice {U : TypeId} {ts : Array TypeId} {x : Operand} {T E : TypeId} {p : Option Addr} {l c : Nat} (ht : ts[0]? = some U) (hu : P.underlying U = some (.slice E)) (hx : ev F x = some (.slice p l c)) : PS P n w0 M (.call ⟨.builtin .cap, #[x], ts⟩) T F L (.int .i64 c) L := PS_of fun e w hF => by
  simp [execOp, resolve, invoke, builtin, Builtin.cap_, ht, hF.ev hx, underlying, hu, goInt]
theorem PS_copy0 {U E sz : TypeId} {ts : Array TypeId} {x y : Operand} {T : TypeId} {h : Hd} (ht : ts[0]? = some U) (hu : P.underlying U = some (.slice E)) (hs : Sz P E sz) (hx : ev F x = some h.val) (hy : ev F y = some (.slice none 0 0)) : PS P n w0 M (.call ⟨.builtin .copy, #[x, y], ts⟩) T F L (.int .i64 0) L := PS_of fun e w hF => by
  cases ha : h.a with
  | none => simp [execOp, resolve, invoke, builtin, Builtin.copy_, ht, hF.ev hx, hF.ev hy, underlying, hu, goInt, Hd.val, Builtin.lenOf, Builtin.firstCells, hs w, ha, pure, ReaderT.pure]
  | some a => simp [execOp, resolve, invoke, builtin, Builtin.copy_, ht, hF.ev hx, hF.ev hy, underlying, hu, goInt, Hd.val, Builtin.lenOf, Builtin.firstCells, hs w, ha, storeCells]
theorem PS_extern2 {f : FuncId} {fn : Func} {ex : Array Value → Sem Value} {ts : Array TypeId} {T : TypeId} {x y : Operand} {a b v : Value} (hf : P.funcs[f]? = some fn) (h1 : (fn.name == "runtime.NumGoroutine") = false) (h2 : fn.body.isNone = true) (h3 : Extern.findNext fn = none) (h4 : Extern.find fn = some ex) (hx : ev F x = some a) (hy : ev F y = some b)
    (hr : ∀ w, (ex #[a, b]).run P w = .ok v w) : PS P n w0 M (.call ⟨.value (.func f), #[x, y], ts⟩) T F L v L := PS_of fun e w hF => by
  have := run_callFunc_extern hf h1 h2 h3 h4 #[a, b] w
  rw [hr] at this
  have hx' := hF.ev hx
  have hy' := hF.ev hy
  have hg : e.eval (.func f) = .func (.func f) #[] #[] := rfl
  simp [execOp, resolve, Deferred.ofValue, invoke, hg, hx', hy', this]
theorem u8_back (c : UInt8) : ((c.toNat : Int)).toNat.toUInt8 = c := by simp
theorem PS_countString {f : FuncId} {fn : Func} {ts : Array TypeId} {T : TypeId} {x y : Operand} {s : Str} {c : UInt8} (hf : P.funcs[f]? = some fn) (h1 : (fn.name == "runtime.NumGoroutine") = false) (h2 : fn.body.isNone = true) (h3 : Extern.findNext fn = none) (h4 : Extern.find fn = some Extern.BytealgCount.count) (hx : ev F x = some (vstr s)) (hy : ev F y = some (.int .u8 (c.toNat : Int))) :
    PS P n w0 M (.call ⟨.value (.func f), #[x, y], ts⟩) T F L (.int .i64 ((s.count c : Nat) : Int)) L :=
  PS_extern2 hf h1 h2 h3 h4 hx hy fun w => by
    have := Lib.run_countString (P := P) ⟨s.toArray⟩ (c.toNat : Int) w
    rw [u8_back] at this
    exact this
theorem PS_indexByteString {f : FuncId} {fn : Func} {ts : Array TypeId} {T : TypeId} {x y : Operand} {s : Str} {c : UInt8} (hf : P.funcs[f]? = some fn) (h1 : (fn.name == "runtime.NumGoroutine") = false) (h2 : fn.body.isNone = true) (h3 : Extern.findNext fn = none) (h4 : Extern.find fn = some Extern.BytealgIndexByte.indexByte) (hx : ev F x = some (vstr s)) (hy : ev F y = some (.int .u8 (c.toNat : Int))) :
    PS P n w0 M (.call ⟨.value (.func f), #[x, y], ts⟩) T F L (.int .i64 (Lib.indexByte s c)) L :=
  PS_extern2 hf h1 h2 h3 h4 hx hy fun w => by
    have := Lib.run_indexByteString (P := P) ⟨s.toArray⟩ (c.toNat : Int) w
    rw [u8_back] at this
    exact this
theorem digits_str : ∀ (m t : Nat) (acc : Array Value), ∃ xs : Str, xs.length = m ∧ (Extern.BytealgMakeNoZero.digits m t acc).toList = acc.toList ++ xs.flatMap encY
  | 0, _, acc => ⟨[], rfl, by simp [Extern.BytealgMakeNoZero.digits]⟩
  | m + 1, t, acc => by
    obtain ⟨xs, h1, h2⟩ := digits_str m (t / 256) (acc.push (.int .u8 (Int.ofNat (t % 256))))
    refine ⟨(t % 256).toUInt8 :: xs, by simp [h1], ?_⟩
    rw [Extern.BytealgMakeNoZero.digits, h2]
    have : ((t % 256).toUInt8.toNat : Int) = Int.ofNat (t % 256) := by
      simp
    simp [encY, this]
theorem GL_mkNoZero {d : Nat} {f : FuncId} {fn : Func} {ps : Array TypeId} {t E : TypeId} {ts : Array TypeId} {T : TypeId} {pos : String} {aft : Array Edge} {x : Operand} {m : Int} (hd : Nat.blt d n = true) (hf : P.funcs[f]? = some fn) (h1 : (fn.name == "runtime.NumGoroutine") = false) (h2 : fn.body.isNone = true) (h3 : Extern.findNext fn = none)
    (h4 : Extern.find fn = some (Extern.BytealgMakeNoZero.makeNoZero ps #[t])) (hu : P.underlying t = some (.slice E)) (hs : Sz P E 1) (hx : ev F x = some (.int .i64 m)) (h0 : 0 ≤ m) (hm : m ≤ 281474976710656)
    (k : ∀ (b cap : Nat) (xs : Str), xs.length = m.toNat → m.toNat ≤ cap → GL P n w0 M ops Q rest ((d, Hd.val ⟨some ⟨b, 0, none⟩, m.toNat, cap⟩) :: F) (Res.own ⟨some ⟨b, 0, none⟩, m.toNat, cap⟩ E 1 (xs.flatMap encY) :: L)) : GL P n w0 M ops Q (⟨some d, .call ⟨.value (.func f), #[x], ts⟩, T, pos, aft, none⟩ :: rest) F L := by
  refine GL_new (R := fun v L' => ∃ (b cap : Nat) (xs : Str), v = Hd.val ⟨some ⟨b, 0, none⟩, m.toNat, cap⟩ ∧ L' = Res.own ⟨some ⟨b, 0, none⟩, m.toNat, cap⟩ E 1 (xs.flatMap encY) :: L ∧ xs.length = m.toNat ∧ m.toNat ≤ cap) hd ?_ (fun v L' ⟨b, cap, xs, e1, e2, e3, e4⟩ => by subst e1; subst e2; exact k b cap xs e3 e4)
  intro a w hF hS
  obtain ⟨N, rfl⟩ := Int.eq_ofNat_of_zero_le h0
  have hN : N ≤ 281474976710656 := by omega
  let cap := (Question.appendCap N 0 E).cut (w.tape w.drawn (Question.appendCap N 0 E))
  have hcap : N ≤ cap := Nat.le_add_right _ _
  let t' := (Question.extern "internal/bytealg.MakeNoZero.bytes" 0).cut (w.tape (w.drawn + 1) (.extern "internal/bytealg.MakeNoZero.bytes" 0))
  obtain ⟨ys, hy1, hy2⟩ := digits_str cap t' #[]
  have hrun : (Extern.BytealgMakeNoZero.makeNoZero ps #[t] #[.int .i64 N]).run P w = .ok (.slice (some ⟨w.heap.size, 0, none⟩) N cap) (w.drew.drew.alloc (.cells (ys.flatMap encY).toArray E)) := by
    have hdef : Extern.BytealgMakeNoZero.makeNoZero ps #[t] #[.int .i64 N] =
      (do
        let .slice elem ← underlying t | stuck "bytealg.MakeNoZero: slice type expected"
        if (N : Int) < 0 || (N : Int) > 2 ^ 48 then runtimePanic (.error "makeslice: len out of range")
        let cap ← choose (.appendCap (N : Int).toNat 0 elem)
        askRoom cap
        let bytes ← choose (.extern "internal/bytealg.MakeNoZero.bytes" 0)
        let a ← newRow elem (Extern.BytealgMakeNoZero.digits cap bytes #[])
        pure (.slice (some a) (N : Int).toNat cap)) := rfl
    have g1 : ¬ (N : Int) < 0 := by omega
    have g2 : ¬ (281474976710656 : Int) < (N : Int) := by omega
    have hdig : Extern.BytealgMakeNoZero.digits cap t' #[] = (ys.flatMap encY).toArray := by
      apply Array.ext'; rw [hy2]; simp
    rw [hdef]
    simp [run_underlying hu, g1, g2, Question.forced, newRow]
    exact ⟨rfl, congrArg (fun c => w.drew.drew.alloc (Obj.cells c E)) hdig⟩
  have hS1 : St w0 M w.drew.drew L := hS.drew _
  have hlen : (ys.flatMap encY).length = cap := by rw [flatMap_len flY.len, hy1, Nat.mul_one]
  have hw1 := hS1.alloc E (ys.flatMap encY)
  have hS' : St w0 M (w.drew.drew.alloc (.cells (ys.flatMap encY).toArray E)) (Res.own ⟨some ⟨w.heap.size, 0, none⟩, N, cap⟩ E 1 ((ys.take N).flatMap encY) :: L) := by
    refine hw1.turn (.head) rfl rfl rfl (Nat.le_refl _) (fun _ _ _ => rfl) ?_ (fun b hb => ?_)
    · refine .inr ⟨w.heap.size, 0, ys.flatMap encY, (0, 0), rfl, by simp, ?_, fun _ _ h => by simp at h, ?_, hcap, ?_, ?_⟩
      · have := hw1.ok _ (List.mem_cons_self ..)
        exact this
      · show 0 + cap * 1 ≤ _; rw [hlen]; omega
      · show N * 1 = _; rw [flatMap_len flY.len, List.length_take, hy1, Nat.min_eq_left hcap]
      · show ((ys.flatMap encY).drop 0).take _ = _
        rw [List.drop_zero]
        have e := flat_take flY ys N
        rw [flatMap_len flY.len, List.length_take, hy1, Nat.min_eq_left hcap]
        exact e
    · simp [Res.own] at hb
      subst hb
      exact ⟨by simp, .inl (by simp [Res.box])⟩
  refine ⟨_, _, _, ⟨w.heap.size, cap, ys.take N, rfl, rfl, by rw [List.length_take, hy1, Int.toNat_natCast]; exact Nat.min_eq_left hcap, by simpa using hcap⟩, ?_, hS'⟩
  have := run_callFunc_extern hf h1 h2 h3 h4 #[.int .i64 N] w
  rw [hrun] at this
  have hx' := hF.ev hx
  have hg : a.eval (.func f) = .func (.func f) #[] #[] := rfl
  simp [execOp, resolve, Deferred.ofValue, invoke, hg, hx', this, Hd.val]
/-- A slice that came in, or one that is the call's own. -/
def OrQ {α : Type} (T : Nat) (h : Hd) (xs : List α) (Ta : Nat) (a : Hd) (ys : List α) (Tg : Nat) (g : Hd) (zs : List α) : Prop := (T = Ta ∧ h = a ∧ xs = ys ∧ g = ⟨none, 0, 0⟩ ∧ zs = []) ∨ (T = Tg ∧ h = g ∧ zs = xs)
theorem KnOr {α : Type} {e : α → List Value} {T Ta Tg sz : Nat} {h a g : Hd} {xs ys zs : List α} (ho : OrQ T h xs Ta a ys Tg g zs) (ka : Kn w0 M L a Ta sz (ys.flatMap e)) (kg : Kn w0 M L g Tg sz (zs.flatMap e)) : Kn w0 M L h T sz (xs.flatMap e) := by
  rcases ho with ⟨rfl, rfl, rfl, _, _⟩ | ⟨rfl, rfl, rfl⟩
  · exact ka
  · exact kg
theorem KnCOr {α : Type} {T Ta Tg : Nat} {h a g : Hd} {xs ys zs : List α} (ho : OrQ T h xs Ta a ys Tg g zs) (ka : KnC w0 M L a) (kg : KnC w0 M L g) : KnC w0 M L h := by
  rcases ho with ⟨rfl, rfl, rfl, _, _⟩ | ⟨rfl, rfl, rfl⟩
  · exact ka
  · exact kg
/-- The call's own slice without its first elements. -/
theorem GL_cutFromF {α : Type} {e : α → List Value} {d T U E sz : Nat} {x y : Operand} {pos : String} {aft : Array Edge} {h : Hd} {xs : List α} {kd : IntKind} {i : Int} {Lf : Res → List Res} (fe : Flat e sz) (hd : Nat.blt d n = true) (hT : P.underlying T = some (.slice E)) (hs : Sz P E sz) (hx : ev F x = some h.val) (hy : ev F y = some (.int kd i)) (h0 : 0 ≤ i) (h1 : i ≤ (h.len : Int)) (hU : ∀ r, Upd L (Res.own h E sz (xs.flatMap e)) r (Lf r))
    (k : GL P n w0 M ops Q rest ((d, (h.cut i.toNat h.len sz).val) :: F) (Lf (Res.own (h.cut i.toNat h.len sz) E sz ((xs.drop i.toNat).flatMap e)))) : GL P n w0 M ops Q (⟨some d, .slice T x (some y) none none, U, pos, aft, none⟩ :: rest) F L := by
  refine GL_new (R := fun v L' => v = (h.cut i.toNat h.len sz).val ∧ L' = Lf (Res.own (h.cut i.toNat h.len sz) E sz ((xs.drop i.toNat).flatMap e))) hd ?_ (fun v L' ⟨e1, e2⟩ => by subst e1; subst e2; exact k)
  intro a w hF hS
  have hok := hS.ok _ (hU ⟨[], fun _ => True, fun _ _ _ _ => trivial⟩).mem
  have hr : Rd w h E sz (xs.flatMap e) := Kn.own (M := M) (hU ⟨[], fun _ => True, fun _ _ _ _ => trivial⟩).mem w hS
  have hcap : h.len ≤ h.cap := by
    rcases hok with ⟨rfl, _⟩ | ⟨b, o, C, fz, e1, e2, e3, e4, e5, e6, _⟩
    · exact Nat.le_refl _
    · exact e6
  have hil : i.toNat ≤ h.len := by omega
  have hlc : h.len * sz ≤ h.cap * sz := Nat.mul_le_mul_right sz hcap
  have hll : i.toNat * sz ≤ h.len * sz := Nat.mul_le_mul_right sz hil
  have hcs : ((xs.flatMap e).take (h.len * sz)).drop (i.toNat * sz) = (xs.drop i.toNat).flatMap e := by
    rw [hr.1, List.take_length]
    have := cut_flat fe xs (l := i.toNat) (r := xs.length)
    rwa [List.take_length, ← flatMap_len fe.len, List.take_length] at this
  have hlen : ((xs.drop i.toNat).flatMap e).length = h.len * sz - i.toNat * sz := by
    rw [← hcs, List.length_drop, List.length_take, ← hr.1, Nat.min_self]
  refine ⟨_, _, w, ⟨rfl, rfl⟩, ?_, ?_⟩
  · have hs' := hs w
    simp only [execOp, hF.ev hx, Option.map_some, Option.map_none, hF.ev hy, Hd.val, Instr.sliceAt, Instr.slice, underlying]
    simp [hT, Instr.sliceBounds, Instr.sliceBound, asIntOf, h1, h0, hs', Hd.cut]
  · refine hS.turn (hU _) rfl rfl rfl (Nat.le_refl _) (fun _ _ _ => rfl) ?_ ?_
    · rcases hok with ⟨rfl, hn⟩ | ⟨b, o, C, fz, e1, e2, e3, e4, e5, e6, e7, e8⟩
      · have : i.toNat = 0 := by simp at hil; omega
        refine .inl ⟨by simp [Hd.cut, this], ?_⟩
        rw [List.eq_nil_of_length_eq_zero (l := (xs.drop i.toNat).flatMap e) (by rw [hlen]; simp)]
      · by_cases hci : h.cap = i.toNat
        · have hli : h.len = i.toNat := by omega
          refine .inr ⟨b, o, C, fz, by simp only [Hd.cut]; rw [if_pos hci]; exact e1, e2, e3, e4, ?_, ?_, ?_, ?_⟩
          · simp only [Hd.cut]; rw [hci, Nat.sub_self, Nat.zero_mul]; omega
          · simp only [Hd.cut]; omega
          · simp only [Hd.cut]; rw [hlen, Nat.sub_mul]
          · rw [hlen, List.eq_nil_of_length_eq_zero (l := (xs.drop i.toNat).flatMap e) (by rw [hlen, hli]; omega), hli]; simp
        · refine .inr ⟨b, o + i.toNat * sz, C, fz, by simp only [Hd.cut]; rw [if_neg hci, e1]; simp [add_at], e2, e3, fun j hj h => e4 j (by omega) h, ?_, ?_, ?_, ?_⟩
          · simp only [Hd.cut]; rw [Nat.sub_mul]; omega
          · simp only [Hd.cut]; omega
          · simp only [Hd.cut]; rw [hlen, Nat.sub_mul]
          · have hX : xs.flatMap e = (C.drop o).take (h.len * sz) := by rw [hr.1]; exact e8.symm
            have hY : (xs.drop i.toNat).flatMap e = ((C.drop o).take (h.len * sz)).drop (i.toNat * sz) := by rw [← hcs, ← hX, hr.1, List.take_length]
            rw [hlen, hY, List.drop_take, List.drop_drop]
    · intro b hb
      have hb' : b ∈ (Res.own h E sz (xs.flatMap e)).foot := by
        revert hb
        simp only [Res.own, Hd.cut]
        cases ha : h.a with
        | none => by_cases hc : h.cap = i.toNat <;> simp [hc]
        | some a =>
          by_cases hc : h.cap = i.toNat
          · simp [hc]
          · simp only [hc, if_false, Option.map_some]
            unfold Addr.add
            split <;> simp
      exact ⟨(hS.foot _ (hU ⟨[], fun _ => True, fun _ _ _ _ => trivial⟩).mem b hb').1, .inl hb'⟩
end
end Go.Ing
/- The plain functions of pages. -/
namespace Go.Ing
open Go
namespace Page
/-! #### what is escaped -/
def escape (s : Str) : Str := s.flatMap fun b => if b = 255 then [255, 255] else [b]
theorem escape_append (a b : Str) : escape (a ++ b) = escape a ++ escape b := List.flatMap_append
theorem escape_len (s : Str) : (escape s).length ≤ 2 * s.length := by
  induction s with
  | nil => simp [escape]
  | cons b s ih =>
    have e : escape (b :: s) = (if b = 255 then [255, 255] else [b]) ++ escape s := rfl
    rw [e, List.length_append, List.length_cons]
    split <;> simp <;> omega
theorem escape_none (s : Str) (h : s.count 255 = 0) : escape s = s := by
  induction s with
  | nil => rfl
  | cons b s ih =>
    have hb : b ≠ 255 := fun e => by subst e; simp at h
    have hs : s.count 255 = 0 := by rw [List.count_cons_of_ne (by simpa using hb)] at h; exact h
    have e : escape (b :: s) = (if b = 255 then [255, 255] else [b]) ++ escape s := rfl
    rw [e, if_neg hb, ih hs]; rfl
theorem index_spec : ∀ (s : Str), 0 < s.count 255 → ∃ i : Nat, Lib.indexByte s 255 = i ∧ i < s.length ∧ escape (s.take i) = s.take i ∧ s.drop i = 255 :: s.drop (i + 1) ∧ (s.drop (i + 1)).count 255 + 1 = s.count 255
  | [], h => by simp at h
  | b :: s, h => by
    by_cases hb : b = 255
    · subst hb
      exact ⟨0, by simp [Lib.indexByte], by simp, by simp [escape], by simp, by simp⟩
    · have hs : s.count 255 = (b :: s).count 255 := (List.count_cons_of_ne (by simpa using hb)).symm
      obtain ⟨i, h1, h2, h3, h4, h5⟩ := index_spec s (by rw [hs]; exact h)
      refine ⟨i + 1, ?_, by simp; omega, ?_, by simpa using h4, by simp only [List.drop_succ_cons]; rw [h5, hs]⟩
      · have hne : (b == (255 : UInt8)) = false := by simpa using hb
        have hm : ((i : Int) == -1) = false := beq_eq_false_iff_ne.2 (by omega)
        simp [Lib.indexByte, hne, h1, hm]
      · rw [List.take_succ_cons]
        have e : escape (b :: s.take i) = (if b = 255 then [255, 255] else [b]) ++ escape (s.take i) := rfl
        rw [e, if_neg hb, h3]; rfl
theorem index_one (c : UInt8) : Lib.indexByte [c] c = 0 := by simp [Lib.indexByte]
/-- What holds while parts are replaced. -/
structure RepI (s : Str) (m : Nat) (k start : Int) (x : Str) : Prop where
  k0 : 0 ≤ k
  k1 : k ≤ m
  s0 : 0 ≤ start
  s1 : start ≤ s.length
  e : x ++ escape (s.drop start.toNat) = escape s
  c : ((s.drop start.toNat).count 255 : Int) = m - k
  xl : (x.length : Int) ≤ 2 * start
theorem RepI.start {s : Str} {m : Nat} (h : s.count 255 = m) : RepI s m 0 0 [] := ⟨by omega, by omega, by omega, by omega, rfl, by simp [h], by simp⟩
theorem RepI.idx {s : Str} {m : Nat} {k start : Int} {x : Str} (h : RepI s m k start x) (hk : k < m) : ∃ i : Nat, Lib.indexByte (s.drop start.toNat) 255 = i ∧ start + i < s.length ∧ RepI s m (k + 1) (start + i + 1) (x ++ ((s.take (start + i).toNat).drop start.toNat) ++ [255, 255]) := by
  obtain ⟨k0, k1, s0, s1, e, c, xl⟩ := h
  obtain ⟨i, h1, h2, h3, h4, h5⟩ := index_spec (s.drop start.toNat) (by omega)
  rw [List.length_drop] at h2
  rw [List.drop_drop, List.drop_drop] at h4
  rw [List.drop_drop] at h5
  have e1 : (start + i).toNat = start.toNat + i := by omega
  have e2 : (start + i + 1).toNat = start.toNat + (i + 1) := by omega
  have et : (s.take (start + i).toNat).drop start.toNat = (s.drop start.toNat).take i := by rw [e1, List.drop_take]; congr 1; omega
  refine ⟨i, h1, by omega, by omega, by omega, by omega, by omega, ?_, ?_, ?_⟩
  · rw [et, e2, ← e]
    have : escape (s.drop start.toNat) = (s.drop start.toNat).take i ++ ([255, 255] ++ escape (s.drop (start.toNat + (i + 1)))) := by
      conv => lhs; rw [← List.take_append_drop i (s.drop start.toNat), escape_append, h3, List.drop_drop, h4]
      rfl
    rw [this]
    simp only [List.append_assoc]
  · rw [e2]; omega
  · rw [et]; simp only [List.length_append, List.length_take, List.length_drop, List.length_cons, List.length_nil]; omega
theorem RepI.done {s : Str} {m : Nat} {k start : Int} {x : Str} (h : RepI s m k start x) (hk : ¬ k < m) : x ++ s.drop start.toNat = escape s := by
  have := h.e
  rwa [escape_none _ (by have := h.c; omega)] at this
/-! #### pages -/
structure Pg where
  shown : Int
  asking : Bool
  ring : Str
  cut : Bool
  deriving DecidableEq, Inhabited
def of (p : PageV) : Pg := ⟨p.shown, p.asking, p.ring, p.cut⟩
def good (p : PageV) : Bool := decide ((p.wait.len : Int) ≤ 60) && decide ((p.ring.length : Int) ≤ 700) && decide (0 ≤ p.shown) && decide (p.shown ≤ 200)
def put (x : Pg) (s : Str) : Pg := if x.cut = true then x else if decide (700 - (x.ring.length : Int) < s.length) = true then { x with cut := true } else { x with ring := x.ring ++ s }
def send (p : PageV) (s : Str) : Pg × Int := if (!good p) = true then (of p, 2) else if p.cut = true then (of p, 6) else (put (of p) s, 0)
def sendR (p : PageV) (s : Str) : Pg × Int := if (!good p) = true then (of p, 2) else if p.cut = true then (of p, 6) else if (decide (700 < (s.length : Int)) || decide (700 < (p.ring.length : Int) + s.length)) = true then ({ of p with cut := true }, 0) else ({ of p with ring := p.ring ++ s }, 0)
theorem sendR_eq (p : PageV) (s : Str) : sendR p s = send p s := by
  unfold sendR send put of
  cases good p with
  | false => rfl
  | true =>
    cases hc : p.cut with
    | true => simp
    | false =>
      have : (decide (700 < (s.length : Int)) || decide (700 < (p.ring.length : Int) + s.length)) = decide (700 - (p.ring.length : Int) < s.length) := by
        rw [Bool.eq_iff_iff]; simp; omega
      simp only [this]
      cases decide (700 - (p.ring.length : Int) < s.length) <;> simp
theorem send_put {p : PageV} (h : good p = true) (s : Str) : (send p s).1 = put (of p) s := by
  unfold send
  rw [h]
  cases hc : p.cut <;> simp [put, of, hc]
theorem put_ring {x : Pg} {s : Str} (h : x.ring.length ≤ 700) : (put x s).ring.length ≤ 700 := by
  unfold put
  split
  · exact h
  · split
    · exact h
    · rename_i h1
      simp only [List.length_append]
      simp at h1; omega
theorem put_shown (x : Pg) (s : Str) : (put x s).shown = x.shown := by
  unfold put; split
  · rfl
  · split <;> rfl
def moreS : Str := [45, 45, 32, 109, 111, 114, 101, 32, 45, 45, 13, 10]
def flow (ht : Int) : List Str → Pg → Pg × List Str
  | [], x => (x, [])
  | s :: r, x => if (x.asking || x.cut) = true then (x, s :: r) else if (decide (0 < ht) && decide (ht ≤ x.shown)) = true then (put { x with asking := true } moreS, s :: r) else flow ht r (put { x with shown := min (x.shown + 1) 200 } (escape s ++ [13, 10]))
theorem good_of {p : PageV} (h1 : p.wait.len ≤ 60) (h2 : p.ring.length ≤ 700) (h3 : 0 ≤ p.shown) (h4 : p.shown ≤ 200) : good p = true := by
  simp only [good, Bool.and_eq_true, decide_eq_true_eq]; omega
theorem good_iff (p : PageV) : good p = true ↔ p.wait.len ≤ 60 ∧ p.ring.length ≤ 700 ∧ 0 ≤ p.shown ∧ p.shown ≤ 200 := by
  simp only [good, Bool.and_eq_true, decide_eq_true_eq]; omega
/-- What holds while lines are shown. -/
structure FI (ht : Int) (qs : List Str) (x0 : Pg) (rest : List Str) (h : Hd) (x : Pg) : Prop where
  n : rest.length ≤ 60
  hl : h.len = rest.length
  ring : x.ring.length ≤ 700
  s0 : 0 ≤ x.shown
  s1 : x.shown ≤ 200
  len : ∀ s ∈ rest, s.length ≤ 70368744000000
  e : flow ht qs x0 = flow ht rest x
theorem FI.start {ht : Int} {qs : List Str} {p : PageV} (hg : good p = true) (hl : p.wait.len = qs.length) (hs : ∀ s ∈ qs, s.length ≤ 70368744000000) : FI ht qs (of p) qs p.wait (of p) := by
  obtain ⟨h1, h2, h3, h4⟩ := (good_iff p).1 hg
  exact ⟨by omega, hl, h2, h3, h4, hs, rfl⟩
theorem FI.good {ht : Int} {qs rest : List Str} {x0 x : Pg} {h : Hd} (hI : FI ht qs x0 rest h x) {n : Hd} (hn : n.len ≤ 60) {a : Bool} {c : Bool} : Page.good ⟨n, x.shown, a, x.ring, c⟩ = true := good_of hn hI.ring hI.s0 hI.s1
/-- The next line is shown. -/
theorem FI.next {ht : Int} {qs r : List Str} {s : Str} {x0 : Pg} {h h' : Hd} {sh : Int} {az ct : Bool} {ring : Str} (hI : FI ht qs x0 (s :: r) h ⟨sh, az, ring, ct⟩) (ha : az = false) (hc : ct = false) (hm : (decide (0 < ht) && decide (ht ≤ sh)) = false) (hl : h'.len = r.length) {y : Pg}
    (hy : y = (send ⟨h', min (sh + 1) 200, az, ring, ct⟩ (escape s ++ [13, 10])).1) : FI ht qs x0 r h' y := by
  obtain ⟨h1, h2, h3, h4, h5, h6, h7⟩ := hI
  subst ha; subst hc
  simp only at h3 h4 h5
  have h1' := h1
  rw [List.length_cons] at h1'
  have hg : Page.good ⟨h', min (sh + 1) 200, false, ring, false⟩ = true := good_of (by rw [hl]; omega) h3 (by simp only; omega) (by simp only; omega)
  rw [send_put hg] at hy
  subst hy
  refine ⟨by omega, hl, put_ring h3, ?_, ?_, fun t ht => h6 t (by simp [ht]), ?_⟩
  · rw [put_shown]; show 0 ≤ min (sh + 1) 200; omega
  · rw [put_shown]; show min (sh + 1) 200 ≤ 200; omega
  · rw [h7, flow]
    simp only [Bool.or_self, Bool.false_eq_true, if_false, hm]
    rfl
theorem FI.asks {ht : Int} {qs r : List Str} {s : Str} {x0 : Pg} {h : Hd} {sh : Int} {az ct : Bool} {ring : Str} (hI : FI ht qs x0 (s :: r) h ⟨sh, az, ring, ct⟩) (ha : az = false) (hc : ct = false) (hm : (decide (0 < ht) && decide (ht ≤ sh)) = true) :
    flow ht qs x0 = ((send ⟨h, sh, true, ring, ct⟩ moreS).1, s :: r) := by
  obtain ⟨h1, h2, h3, h4, h5, h6, h7⟩ := hI
  have hg : Page.good ⟨h, sh, true, ring, ct⟩ = true := good_of (by rw [h2]; exact h1) h3 h4 h5
  rw [send_put hg, h7, flow, ha, hc]
  simp only [Bool.or_self, Bool.false_eq_true, if_false, hm, if_true]
  rfl
theorem FI.ends {ht : Int} {qs rest : List Str} {x0 x : Pg} {h : Hd} (hI : FI ht qs x0 rest h x) (hc : rest = [] ∨ x.asking = true ∨ x.cut = true) : flow ht qs x0 = (x, rest) := by
  rw [hI.e]
  cases rest with
  | nil => rfl
  | cons s r =>
    have : (x.asking || x.cut) = true := by
      rcases hc with h | h | h
      · cases h
      · simp [h]
      · simp [h]
    rw [flow, if_pos this]
theorem FI.endsB {ht : Int} {qs rest : List Str} {x0 : Pg} {h : Hd} {sh : Int} {az ct : Bool} {ring : Str} (hI : FI ht qs x0 rest h ⟨sh, az, ring, ct⟩) (hc : (decide (0 < (h.len : Int)) && !az && !ct) = false) : flow ht qs x0 = (⟨sh, az, ring, ct⟩, rest) := by
  refine hI.ends ?_
  have hl := hI.hl
  cases rest with
  | nil => exact .inl rfl
  | cons s r =>
    rw [List.length_cons] at hl
    have : decide (0 < (h.len : Int)) = true := decide_eq_true (by omega)
    rw [this] at hc
    cases az with
    | true => exact .inr (.inl rfl)
    | false =>
      cases ct with
      | true => exact .inr (.inr rfl)
      | false => cases hc
theorem FI.endsR {ht : Int} {qs rest : List Str} {x0 : Pg} {h : Hd} {sh : Int} {az ct : Bool} {ring : Str} (hI : FI ht qs x0 rest h ⟨sh, az, ring, ct⟩) (hc : (decide ((h.len : Int) = 0) || az || ct) = true) : flow ht qs x0 = (⟨sh, az, ring, ct⟩, rest) := by
  refine hI.endsB ?_
  by_cases hz : (h.len : Int) = 0
  · have : decide (0 < (h.len : Int)) = false := decide_eq_false (by omega)
    rw [this]; rfl
  · have : decide ((h.len : Int) = 0) = false := decide_eq_false hz
    rw [this] at hc
    cases az <;> cases ct <;> simp_all
theorem cond_eq {ht sh : Int} (h : 0 ≤ ht) : (!decide (ht = 0) && decide (ht ≤ sh)) = (decide (0 < ht) && decide (ht ≤ sh)) := by
  rw [Bool.eq_iff_iff]; simp; omega
theorem drop_cons {s : Str} {k : Int} (h0 : 0 ≤ k) (h1 : k < s.length) : s.drop k.toNat = s.getD k.toNat 0 :: s.drop (k + 1).toNat := by
  have hk' : k.toNat < s.length := by omega
  rw [List.drop_eq_getElem_cons hk', show (k + 1).toNat = k.toNat + 1 by omega]
  simp [List.getD, hk']
theorem esc_next_t {s x : Str} {k : Int} (h0 : 0 ≤ k) (h1 : k < s.length) (hc : decide (((s.getD k.toNat 0).toNat : Int) = 255) = true) (h : x ++ escape (s.drop k.toNat) = escape s) : x ++ [s.getD k.toNat 0] ++ [s.getD k.toNat 0] ++ escape (s.drop (k + 1).toNat) = escape s := by
  rw [← h, drop_cons h0 h1]
  have hb : s.getD k.toNat 0 = 255 := UInt8.toNat_inj.1 (by have h2 := of_decide_eq_true hc; show _ = 255; omega)
  have e : ∀ (b : UInt8) (t : Str), escape (b :: t) = (if b = 255 then [255, 255] else [b]) ++ escape t := fun _ _ => rfl
  rw [e, if_pos hb, hb]; simp
theorem esc_next_f {s x : Str} {k : Int} (h0 : 0 ≤ k) (h1 : k < s.length) (hc : decide (((s.getD k.toNat 0).toNat : Int) = 255) = false) (h : x ++ escape (s.drop k.toNat) = escape s) : x ++ [s.getD k.toNat 0] ++ escape (s.drop (k + 1).toNat) = escape s := by
  rw [← h, drop_cons h0 h1]
  have hb : ¬ s.getD k.toNat 0 = 255 := fun e => by rw [e] at hc; exact absurd hc (by decide)
  have e : ∀ (b : UInt8) (t : Str), escape (b :: t) = (if b = 255 then [255, 255] else [b]) ++ escape t := fun _ _ => rfl
  rw [e, if_neg hb]; simp
theorem esc_done {s x : Str} {k : Int} (h : x ++ escape (s.drop k.toNat) = escape s) (hk : ¬ k < s.length) : x = escape s := by
  rw [List.drop_eq_nil_of_le (by omega)] at h
  simpa [escape] using h
theorem FI.hd {ht : Int} {qs rest : List Str} {x0 x : Pg} {h h' : Hd} (hI : FI ht qs x0 rest h x) (hl : h'.len = rest.length) : FI ht qs x0 rest h' x := ⟨hI.n, hl, hI.ring, hI.s0, hI.s1, hI.len, hI.e⟩
theorem flow_le (ht : Int) (qs : List Str) : ∀ x : Pg, (flow ht qs x).2.length ≤ qs.length := by
  induction qs with
  | nil => intro x; exact Nat.le_refl _
  | cons s r ih =>
    intro x
    rw [flow]
    split
    · exact Nat.le_refl _
    · split
      · exact Nat.le_refl _
      · have := ih (put { x with shown := min (x.shown + 1) 200 } (escape s ++ [13, 10]))
        rw [List.length_cons]; omega
theorem flow_len {ht : Int} {qs : List Str} {x : Pg} (h : qs.length ≤ 9223372036854775807) : (flow ht qs x).2.length ≤ 9223372036854775807 := by
  have := flow_le ht qs x; omega
theorem good_q (p : PageV) {n : Nat} {h : Hd} (e : h.len = n) (e2 : p.wait.len = n) : good ⟨h, p.shown, p.asking, p.ring, p.cut⟩ = good p := by
  unfold good; dsimp only; rw [e, e2]
theorem bad_q (p : PageV) {n : Nat} {h : Hd} {ht : Int} (e : h.len = n) (e2 : p.wait.len = n) : (!good ⟨h, p.shown, p.asking, p.ring, p.cut⟩ || decide (ht < 0) || decide (200 < ht)) = (!good p || decide (ht < 0) || decide (200 < ht)) := by rw [good_q p e e2]
theorem send_q (p : PageV) {n : Nat} {h : Hd} (e : h.len = n) (e2 : p.wait.len = n) (s : Str) : send ⟨h, p.shown, p.asking, p.ring, p.cut⟩ s = send p s := by
  unfold send; rw [good_q p e e2]; rfl
@[reducible] def K (n : Int) (r : Str) : Nat := (max 0 (min n (r.length : Int))).toNat
theorem takes_all (r : Str) {a b : Int} (ha : 0 ≤ a) (hb : 0 ≤ b) : (decide (r.take (K a r) ++ (r.drop (K a r)).take (K b (r.drop (K a r))) = r.take (K (a + b) r)) && decide ((r.drop (K a r)).drop (K b (r.drop (K a r))) = r.drop (K (a + b) r)) && decide (((r.take (K a r)).length : Int) ≤ a) && decide (r.take (K (a + b) r) ++ r.drop (K (a + b) r) = r) && true) = true := by
  have hk : K (a + b) r = K a r + K b (r.drop (K a r)) := by simp only [K, List.length_drop]; omega
  have h1 : r.take (K a r) ++ (r.drop (K a r)).take (K b (r.drop (K a r))) = r.take (K (a + b) r) := by rw [hk, List.take_add]
  have h2 : (r.drop (K a r)).drop (K b (r.drop (K a r))) = r.drop (K (a + b) r) := by rw [hk, List.drop_drop]
  have h3 : (((r.take (K a r)).length : Int) ≤ a) := by rw [List.length_take]; simp only [K]; omega
  rw [h1, h2, decide_eq_true h3, List.take_append_drop]; simp
end Page
end Go.Ing
/- The plain functions of the land: what the program's package 'land' computes. -/
namespace Go.Ing
open Go
namespace Land
def climb (w : Land) : Nat → Thing → Bool
  | 0, _ => false
  | n + 1, t => if (!decide (t.whr = 2)) = true then true else if (decide (n = 0) || decide (t.at_ < 0) || decide (9 ≤ t.at_)) = true then false else climb w n (w.things.at t.at_)
def goodThing (w : Land) (i : Int) : Bool :=
  if (decide ((w.things.at i).kind < 0) || decide (3 < (w.things.at i).kind) || (decide ((w.things.at i).kind = 0) && (w.things.at i).on) || decide ((w.things.at i).at_ < 0)) = true then false
  else if decide ((w.things.at i).whr = 0) = true then decide ((w.things.at i).at_ < 6) && !(decide ((w.things.at i).kind = 2) && (w.things.at i).on)
  else if decide ((w.things.at i).whr = 1) = true then decide ((w.things.at i).at_ < 6) && (w.beings.at (w.things.at i).at_).here
  else if decide ((w.things.at i).whr = 2) = true then (if (decide (9 ≤ (w.things.at i).at_) || (!decide ((w.things.at (w.things.at i).at_).kind = 3)) || (decide ((w.things.at i).kind = 2) && (w.things.at i).on)) = true then false else climb w 10 (w.things.at i))
  else false
def opposite (d : Int) : Int := (max 0 (min d 5) + 3).tmod 6
def inside (w : Land) (box : Int) : Nat → Int → Bool
  | 0, _ => false
  | n + 1, i => if decide (i = box) = true then true else if (decide (i < 0) || decide (9 ≤ i) || !decide ((w.things.at i).whr = 2)) = true then false else inside w box n (w.things.at i).at_
def isIn (w : Land) (i box : Int) : Bool := inside w box 10 i
def roomFrom (w : Land) : Nat → Int → Bool → Int × Bool
  | 0, _, _ => (-1, false)
  | n + 1, i, o =>
    if (decide (i < 0) || decide (9 ≤ i)) = true then (-1, false)
    else if decide ((w.things.at i).whr = 0) = true then ((w.things.at i).at_, o)
    else if decide ((w.things.at i).whr = 1) = true then (if (decide ((w.things.at i).at_ < 0) || decide (6 ≤ (w.things.at i).at_)) = true then (-1, false) else ((w.beings.at (w.things.at i).at_).room, o))
    else if decide ((w.things.at i).whr = 2) = true then
      (if (decide (0 ≤ (w.things.at i).at_) && decide ((w.things.at i).at_ < 9) && !(w.things.at (w.things.at i).at_).on) = true then roomFrom w n (w.things.at i).at_ false else roomFrom w n (w.things.at i).at_ o)
    else (-1, false)
def room (w : Land) (i : Int) : Int × Bool := roomFrom w 10 i true
def badExit (r : Room) (d : Int) : Bool := decide (r.exits.at d < 0) || decide (6 < r.exits.at d) || (decide (r.exits.at d = 0) && r.shut.at d)
def badBeing (b : Being) : Bool := decide (b.room < 0) || decide (6 ≤ b.room) || decide (b.health < 0) || decide (10 < b.health) || decide (b.foe < 0) || decide (6 < b.foe) || (!b.here && !decide (b.foe = 0)) || b.here != decide (0 < b.health)
def goodRoom (w : Land) (k : Int) : Bool := allFrom 6 (fun d => !badExit (w.rooms.at k) d) 6
def good (w : Land) : Bool := allFrom 6 w.goodRoom 6 && (allFrom 6 (fun k => !badBeing (w.beings.at k)) 6 && allFrom 9 w.goodThing 9)
def has (w : Land) (whr at_ : Int) : List Int := ((List.range 9).map Int.ofNat).filter fun k => decide ((w.things.at k).whr = whr) && decide ((w.things.at k).at_ = at_)
end Land
end Go.Ing
/- The land as it begins. -/
namespace Go.Ing
open Go
namespace Land
def ex (a b c d e f : Int) : Vector Int 6 := ((((((Vector.replicate 6 default).put 0 a).put 1 b).put 2 c).put 3 d).put 4 e).put 5 f
def sh (i : Int) : Vector Bool 6 := (Vector.replicate 6 default).put i true
def roomsV : Vector Room 6 := (((((((Vector.replicate 6 default).put 0 ⟨[104, 101, 97, 114, 116, 104], false, (ex 2 3 4 0 0 5), sh 5⟩).put 1 ⟨[121, 97, 114, 100], false, (ex 0 0 0 1 0 0), default⟩).put 2 ⟨[112, 97, 110, 116, 114, 121], true, (ex 0 0 0 0 1 0), default⟩).put 3 ⟨[108, 111, 102, 116], true, (ex 0 6 0 0 0 1), default⟩).put 4 ⟨[99, 101, 108, 108, 97, 114], true, (ex 0 0 1 0 0 0), sh 2⟩).put 5 ⟨[97, 116, 116, 105, 99], false, (ex 0 0 0 0 4 0), default⟩)
def thingsV : Vector Thing 9 := ((((((((((Vector.replicate 9 default).put 0 ⟨[108, 97, 109, 112], 1, 0, 0, false⟩).put 1 ⟨[108, 97, 109, 112], 1, 0, 3, false⟩).put 2 ⟨[99, 108, 111, 97, 107], 2, 0, 0, false⟩).put 3 ⟨[99, 104, 101, 115, 116], 3, 0, 4, false⟩).put 4 ⟨[99, 111, 105, 110], 0, 2, 3, false⟩).put 5 ⟨[99, 111, 105, 110], 0, 0, 1, false⟩).put 6 ⟨[109, 117, 103], 0, 0, 0, false⟩).put 7 ⟨[98, 111, 120], 3, 0, 0, true⟩).put 8 ⟨[107, 101, 121], 0, 1, 1, false⟩)
def newA : Nat → Land
  | 0 => default
  | k + 1 => { newA k with rooms := (newA k).rooms.put k (roomsV.toList.getD k default) }
def newB : Nat → Land
  | 0 => newA 6
  | k + 1 => { newB k with things := (newB k).things.put k (thingsV.toList.getD k default) }
def new : Land := { newB 9 with beings := ((newB 9).beings.put 0 ⟨[99, 97, 116], true, true, 0, 10, 0⟩).put 1 ⟨[114, 97, 116], true, false, 4, 3, 0⟩ }
theorem newA_step {k : Int} (h : 0 ≤ k) : newA (k + 1).toNat = { newA k.toNat with rooms := (newA k.toNat).rooms.put k (roomsV.toList.getD k.toNat default) } := by
  obtain ⟨m, rfl⟩ := Int.eq_ofNat_of_zero_le h
  rfl
theorem newB_step {k : Int} (h : 0 ≤ k) : newB (k + 1).toNat = { newB k.toNat with things := (newB k.toNat).things.put k (thingsV.toList.getD k.toNat default) } := by
  obtain ⟨m, rfl⟩ := Int.eq_ofNat_of_zero_le h
  rfl
theorem new_good : new.good = true := by kernel_rfl
theorem opposite_1 : opposite 1 = 4 := by decide
end Land
end Go.Ing
/- Plain laws of lands. -/
namespace Go.Ing
open Go
namespace Land
variable {X : Land}
theorem good_thing (h : X.good = true) {i : Int} (h0 : 0 ≤ i) (h9 : i < 9) : X.goodThing i = true := by
  unfold good at h
  rw [Bool.and_eq_true, Bool.and_eq_true] at h
  exact (allFrom_iff 9).1 h.2.2 i (by omega) h9
theorem good_being (h : X.good = true) {b : Int} (h0 : 0 ≤ b) (h9 : b < 6) : badBeing (X.beings.at b) = false := by
  unfold good at h
  rw [Bool.and_eq_true, Bool.and_eq_true] at h
  simpa using (allFrom_iff 6).1 h.2.1 b (by omega) h9
theorem good_exit (h : X.good = true) {r d : Int} (h0 : 0 ≤ r) (h6 : r < 6) (d0 : 0 ≤ d) (d6 : d < 6) : badExit (X.rooms.at r) d = false := by
  unfold good at h
  rw [Bool.and_eq_true, Bool.and_eq_true] at h
  have := (allFrom_iff 6).1 h.1 r (by omega) h6
  unfold goodRoom at this
  simpa using (allFrom_iff 6).1 this d (by omega) d6
structure ThingOk (X : Land) (i : Int) : Prop where
  k0 : 0 ≤ (X.things.at i).kind
  k3 : (X.things.at i).kind ≤ 3
  plain : (X.things.at i).kind = 0 → (X.things.at i).on = false
  a0 : 0 ≤ (X.things.at i).at_
  whr : ((X.things.at i).whr = 0 ∧ (X.things.at i).at_ < 6 ∧ ¬ ((X.things.at i).kind = 2 ∧ (X.things.at i).on = true)) ∨
    ((X.things.at i).whr = 1 ∧ (X.things.at i).at_ < 6 ∧ (X.beings.at (X.things.at i).at_).here = true) ∨
    ((X.things.at i).whr = 2 ∧ (X.things.at i).at_ < 9 ∧ (X.things.at (X.things.at i).at_).kind = 3 ∧ ¬ ((X.things.at i).kind = 2 ∧ (X.things.at i).on = true) ∧ X.climb 10 (X.things.at i) = true)
theorem thing_ok {i : Int} (h : X.goodThing i = true) : ThingOk X i := by
  unfold goodThing at h
  split at h
  · cases h
  · rename_i h1
    simp only [Bool.or_eq_true, Bool.and_eq_true, decide_eq_true_eq, not_or, not_and, Bool.not_eq_true] at h1
    obtain ⟨⟨⟨a1, a2⟩, a3⟩, a4⟩ := h1
    refine ⟨by omega, by omega, a3, by omega, ?_⟩
    split at h
    · rename_i h2
      simp only [Bool.and_eq_true, decide_eq_true_eq, Bool.not_eq_true'] at h h2
      refine .inl ⟨h2, h.1, fun ⟨x, y⟩ => ?_⟩
      simp [x, y] at h
    · rename_i h2
      split at h
      · rename_i h3
        simp only [Bool.and_eq_true, decide_eq_true_eq] at h h3
        exact .inr (.inl ⟨h3, h.1, h.2⟩)
      · split at h
        · rename_i h4
          split at h
          · cases h
          · rename_i h5
            simp only [Bool.or_eq_true, Bool.and_eq_true, decide_eq_true_eq, not_or, not_and, Bool.not_eq_true, Bool.not_eq_true', decide_eq_false_iff_not, Decidable.not_not] at h4 h5
            refine .inr (.inr ⟨h4, by omega, h5.1.2, fun ⟨x, y⟩ => ?_, h⟩)
            have := h5.2 x
            rw [y] at this; cases this
        · cases h
/-- Out of box after box, in n steps, to what is in no box. -/
def Out (X : Land) : Nat → Int → Prop
  | 0, i => (X.things.at i).whr ≠ 2
  | n + 1, i => (X.things.at i).whr = 2 ∧ 0 ≤ (X.things.at i).at_ ∧ (X.things.at i).at_ < 9 ∧ Out X n (X.things.at i).at_
theorem out_of_climb : ∀ (n : Nat) (i : Int), X.climb n (X.things.at i) = true → ∃ m, m < n ∧ Out X m i
  | 0, i, h => by simp [climb] at h
  | n + 1, i, h => by
    unfold climb at h
    split at h
    · rename_i h1; exact ⟨0, by omega, by simpa [Out] using h1⟩
    · rename_i h1
      split at h
      · cases h
      · rename_i h2
        simp only [Bool.or_eq_true, decide_eq_true_eq, not_or] at h2
        obtain ⟨m, hm, ho⟩ := out_of_climb n _ h
        exact ⟨m + 1, by omega, by simpa using h1, by omega, by omega, ho⟩
theorem good_out (h : X.good = true) {i : Int} (h0 : 0 ≤ i) (h9 : i < 9) : ∃ n, n < 10 ∧ Out X n i := by
  have ht := thing_ok (good_thing h h0 h9)
  rcases ht.whr with ⟨w, _⟩ | ⟨w, _⟩ | ⟨_, _, _, _, c⟩
  · exact ⟨0, by omega, by simp [Out, w]⟩
  · exact ⟨0, by omega, by simp [Out, w]⟩
  · exact out_of_climb 10 i c
theorem Out.uniq : ∀ {n m : Nat} {i : Int}, Out X n i → Out X m i → n = m
  | 0, 0, _, _, _ => rfl
  | 0, m + 1, i, h, k => absurd k.1 h
  | n + 1, 0, i, h, k => absurd h.1 k
  | n + 1, m + 1, i, h, k => by rw [Out.uniq h.2.2.2 k.2.2.2]
def Reach (X : Land) : Nat → Int → Int → Prop
  | 0, i, j => i = j
  | a + 1, i, j => 0 ≤ i ∧ i < 9 ∧ (X.things.at i).whr = 2 ∧ Reach X a (X.things.at i).at_ j
theorem reach_of_inside {j : Int} : ∀ (n : Nat) (i : Int), X.inside j n i = true → ∃ a, Reach X a i j
  | 0, i, h => by simp [inside] at h
  | n + 1, i, h => by
    unfold inside at h
    split at h
    · rename_i h1; exact ⟨0, (of_decide_eq_true h1 : i = j)⟩
    · split at h
      · cases h
      · rename_i h2
        simp only [Bool.or_eq_true, decide_eq_true_eq, not_or, Bool.not_eq_true', decide_eq_false_iff_not, Decidable.not_not] at h2
        obtain ⟨a, ha⟩ := reach_of_inside n _ h
        exact ⟨a + 1, by omega, by omega, h2.2, ha⟩
theorem Out.reach : ∀ {a n : Nat} {i j : Int}, Out X n i → Reach X a i j → a ≤ n ∧ Out X (n - a) j
  | 0, n, i, j, h, k => by cases (show i = j from k); exact ⟨by omega, h⟩
  | a + 1, 0, i, j, h, k => absurd k.2.2.1 h
  | a + 1, n + 1, i, j, h, k => by
    have := Out.reach h.2.2.2 k.2.2.2
    exact ⟨by omega, by rw [show n + 1 - (a + 1) = n - a by omega]; exact this.2⟩
theorem isIn_self (X : Land) (i : Int) : X.isIn i i = true := by simp [isIn, inside]
theorem not_both (h : X.good = true) {i j : Int} (h0 : 0 ≤ i) (h9 : i < 9) (hne : i ≠ j) (h1 : X.isIn i j = true) (h2 : X.isIn j i = true) : False := by
  obtain ⟨n, _, ho⟩ := good_out h h0 h9
  obtain ⟨a, ha⟩ := reach_of_inside _ _ h1
  obtain ⟨b, hb⟩ := reach_of_inside _ _ h2
  have r1 := ho.reach ha
  have r2 := r1.2.reach hb
  have := ho.uniq r2.2
  have ha0 : a ≠ 0 := fun e => by subst e; exact hne ha
  omega
/-- Where a thing is at last: the room alone. -/
theorem room_fuel : ∀ {n f f' : Nat} {i : Int} {o o' : Bool}, 0 ≤ i → i < 9 → Out X n i → n < f → n < f' → (X.roomFrom f i o).1 = (X.roomFrom f' i o').1
  | 0, f + 1, f' + 1, i, o, o', h0, h9, h, _, _ => by
    have hi : ¬ ((decide (i < 0) || decide (9 ≤ i)) = true) := by simp; omega
    have h2 : ¬ (decide ((X.things.at i).whr = 2) = true) := fun e => h (of_decide_eq_true e)
    simp only [roomFrom, if_neg hi, if_neg h2]
    split
    · rfl
    · split
      · split <;> rfl
      · rfl
  | n + 1, f + 1, f' + 1, i, o, o', h0, h9, h, hf, hf' => by
    have hi : ¬ ((decide (i < 0) || decide (9 ≤ i)) = true) := by simp; omega
    have w0 : ¬ (decide ((X.things.at i).whr = 0) = true) := by have := h.1; simp; omega
    have w1 : ¬ (decide ((X.things.at i).whr = 1) = true) := by have := h.1; simp; omega
    have w2 : decide ((X.things.at i).whr = 2) = true := by have := h.1; simpa using this
    simp only [roomFrom, if_neg hi, if_neg w0, if_neg w1, if_pos w2]
    split
    · exact room_fuel h.2.1 h.2.2.1 h.2.2.2 (by omega) (by omega)
    · exact room_fuel h.2.1 h.2.2.1 h.2.2.2 (by omega) (by omega)
theorem room_step {i : Int} (hg : X.good = true) (h0 : 0 ≤ i) (h9 : i < 9) (hw : (X.things.at i).whr = 2) : (X.room i).1 = (X.room (X.things.at i).at_).1 := by
  obtain ⟨n, hn, ho⟩ := good_out hg h0 h9
  cases n with
  | zero => exact absurd hw ho
  | succ n =>
    have hi : ¬ ((decide (i < 0) || decide (9 ≤ i)) = true) := by simp; omega
    have w0 : ¬ (decide ((X.things.at i).whr = 0) = true) := by simp; omega
    have w1 : ¬ (decide ((X.things.at i).whr = 1) = true) := by simp; omega
    have w2 : decide ((X.things.at i).whr = 2) = true := by simpa using hw
    rw [room, roomFrom, if_neg hi, if_neg w0, if_neg w1, if_pos w2]
    unfold room
    split
    · exact room_fuel ho.2.1 ho.2.2.1 ho.2.2.2 (by omega) (by omega)
    · exact room_fuel ho.2.1 ho.2.2.1 ho.2.2.2 (by omega) (by omega)
theorem room_reach (hg : X.good = true) : ∀ {a : Nat} {i j : Int}, Reach X a i j → (X.room i).1 = (X.room j).1
  | 0, i, j, h => by cases (show i = j from h); rfl
  | a + 1, i, j, h => (room_step hg h.1 h.2.1 h.2.2.1).trans (room_reach hg h.2.2.2)
theorem room_in (hg : X.good = true) {i j : Int} (h : X.isIn i j = true) : (X.room i).1 = (X.room j).1 := by
  obtain ⟨a, ha⟩ := reach_of_inside _ _ h
  exact room_reach hg ha
theorem room_range (hg : X.good = true) : ∀ {n : Nat} {i : Int}, 0 ≤ i → i < 9 → n < 10 → Out X n i → 0 ≤ (X.room i).1 ∧ (X.room i).1 < 6
  | 0, i, h0, h9, _, h => by
    have ht := thing_ok (good_thing hg h0 h9)
    have hi : ¬ ((decide (i < 0) || decide (9 ≤ i)) = true) := by simp; omega
    have h2 : ¬ (decide ((X.things.at i).whr = 2) = true) := fun e => h (of_decide_eq_true e)
    rw [room, roomFrom, if_neg hi]
    rcases ht.whr with ⟨w, a, _⟩ | ⟨w, a, b⟩ | ⟨w, _⟩
    · rw [if_pos (by simpa using w)]; exact ⟨ht.a0, a⟩
    · rw [if_neg (by simp; omega), if_pos (by simpa using w), if_neg (by have := ht.a0; simp; omega)]
      have hb := good_being hg ht.a0 a
      simp only [badBeing, Bool.or_eq_false_iff, decide_eq_false_iff_not] at hb
      show 0 ≤ (X.beings.at (X.things.at i).at_).room ∧ _ < _
      omega
    · exact absurd w h
  | n + 1, i, h0, h9, hn, h => by
    rw [room_step hg h0 h9 h.1]
    exact room_range hg h.2.1 h.2.2.1 (by omega) h.2.2.2
theorem good_room (hg : X.good = true) {i : Int} (h0 : 0 ≤ i) (h9 : i < 9) : 0 ≤ (X.room i).1 ∧ (X.room i).1 < 6 := by
  obtain ⟨n, hn, ho⟩ := good_out hg h0 h9
  exact room_range hg h0 h9 hn ho
end Land
end Go.Ing
/- Engine: the strings of a slice within a struct that came in, as parts of its reading. -/
namespace Go.Ing
open Go Go.RowKit Go.ChangeShapes Go.WideShapes Go.ChangeAt
section
variable {H : Type} {enc : TypeId × Value → H} {P : Program} {w : World}
theorem cell_rd {h : Hd} {T : Nat} {qs : List Str} {a : Addr} (hr : Rd w h T 1 (qs.flatMap encS)) (ha : h.a = some a) {i : Nat} (hi : i < qs.length) : w.cell? (a.add i) = some (vstr (qs.getD i [])) := by
  have hne : qs.flatMap encS ≠ [] := by
    intro e
    have := congrArg List.length e
    rw [flatMap_len flS.len] at this
    simp at this
    rw [this] at hi; simp at hi
  obtain ⟨b, o, C, fz, e1, e2, e3, e4, e5⟩ := hr.2 hne
  rw [ha] at e1
  injection e1 with e1
  subst e1
  rw [add_at]
  unfold World.cell?
  simp only [e3]
  have hl : (qs.flatMap encS).length = qs.length := by rw [flatMap_len flS.len, Nat.mul_one]
  have h1 : (qs.flatMap encS)[i]? = some (vstr (qs.getD i [])) := by
    have : ∀ l : List Str, l.flatMap encS = l.map vstr := by
      intro l
      induction l with
      | nil => rfl
      | cons q r ih => rw [List.flatMap_cons, ih]; rfl
    rw [this, List.getElem?_map]
    simp [List.getD, hi]
  have h2 : ((C.drop o).take (qs.flatMap encS).length)[i]? = C[o + i]? := by
    rw [List.getElem?_take, if_pos (by rw [hl]; exact hi), List.getElem?_drop]
  rw [e5, h1] at h2
  simp [← h2]
theorem strs_of {T E : TypeId} {h : Hd} {d : DataW H} {p : List MemPlace} {fuel T0 : Nat} {qs : List Str} (hT : P.underlying T = some (.slice E)) (hE : P.underlying E = some .string) (hE1 : P.cellsOf E = 1)
    (hd : DataW.trod enc P w 0 (fun _ => true) true fuel T [h.val] = some (d, p)) (hr : Rd w h T0 1 (qs.flatMap encS)) : qs = [] ∨ ∃ elems rest, d = .slice elems rest ∧ elems.length = qs.length ∧ ∀ s ∈ qs, DataW.lit (.string s) ∈ elems := by
  have hlen : h.len = qs.length := hr.len1 flS (by decide)
  obtain ⟨ha, hl', hc⟩ := h
  simp only at hlen
  rcases DataW.trod_slice hT hd with ⟨h3, _⟩ | ⟨a, len, cap, elems, rest, m, _, h3, h4, _, hlc, _, h5, hel, _⟩
  · simp [Hd.val] at h3
    exact .inl (List.length_eq_zero_iff.1 (by omega))
  · simp [Hd.val] at h3
    obtain ⟨rfl, rfl, rfl⟩ := h3
    have h8 : d = .slice (elems.map (·.1)) (rest.map (·.1)) := congrArg Prod.fst h4
    refine .inr ⟨elems.map (·.1), rest.map (·.1), h8, by rw [List.length_map, h5, hlen], fun s hs => ?_⟩
    obtain ⟨i, hi, rfl⟩ := List.getElem_of_mem hs
    have h6 := hel i (by omega)
    rw [List.getElem?_eq_getElem (by omega : i < elems.length), Option.bind_eq_some_iff] at h6
    obtain ⟨c, h7, h9⟩ := h6
    rw [hE1] at h7
    obtain ⟨s, e1, e2, _⟩ := DataW.trod_string hE h9
    have h10 := (World.cells?_some h7).2.2 0 (by omega)
    have h11 := cell_rd hr rfl (i := i) hi
    rw [Nat.mul_one] at h10
    have ha0 : (a.add i).add 0 = a.add i := rfl
    rw [ha0, h11, e1] at h10
    have hq : qs.getD i [] = qs[i] := by simp [List.getD, hi]
    rw [hq] at h10
    have hs' : s.data.toList = qs[i] := by
      simp [vstr] at h10
      rw [← h10]
    have e3 : elems[i].1 = DataW.lit (.string qs[i]) := by rw [e2, hs']
    rw [← e3]
    exact List.mem_map.2 ⟨elems[i], List.getElem_mem _, rfl⟩
theorem strs_field {t T E : TypeId} {fs : Array Field} {i o : Nat} {v : Value} {d : DataW H} {p : List MemPlace} {h : Hd} {T0 : Nat} {qs : List Str} (hu : P.underlying t = some (.struct fs)) (hfi : (fs[i]?).map (fun f => (f.type, f.offset)) = some (T, o)) (hT : P.underlying T = some (.slice E)) (hz : P.cellsOf T = 1)
    (hE : P.underlying E = some .string) (hE1 : P.cellsOf E = 1)
    (hd : DataW.Trod enc P w 0 (fun _ => true) true t v d p) (hh : (v.cells.toList.drop o).take 1 = [h.val]) (hr : Rd w h T0 1 (qs.flatMap encS)) : qs = [] ∨ ∃ parts elems rest, d = .agg parts ∧ DataW.slice elems rest ∈ parts ∧ elems.length = qs.length ∧ ∀ s ∈ qs, DataW.lit (.string s) ∈ elems := by
  obtain ⟨fuel, hf⟩ := hd
  obtain ⟨xs, n, _, hx, hl, hlen, hfl⟩ := DataW.trod_struct hu hf
  cases hfi' : fs[i]? with
  | none => rw [hfi'] at hfi; cases hfi
  | some f =>
    rw [hfi'] at hfi
    simp at hfi
    obtain ⟨rfl, rfl⟩ := hfi
    have h1 := hfl i f hfi'
    have hi : i < fs.size := by
      rcases Nat.lt_or_ge i fs.size with h' | h'
      · exact h'
      · rw [Array.getElem?_eq_none h'] at hfi'; cases hfi'
    have h2 : xs[i]? = some xs[i] := List.getElem?_eq_getElem (by omega)
    rw [h2, hz, hh] at h1
    have hxd : d = .agg (xs.map (·.1)) := congrArg Prod.fst hx
    rcases strs_of hT hE hE1 h1 hr with h3 | ⟨elems, rest, h3, h4, h5⟩
    · exact .inl h3
    · exact .inr ⟨xs.map (·.1), elems, rest, hxd, by rw [← h3]; exact List.mem_map.2 ⟨xs[i], List.getElem_mem _, rfl⟩, h4, h5⟩
end
end Go.Ing
/- Engine: maps of the call's own, from integers. -/
namespace Go.Ing
open Go Go.MapKept
/-- A map that the call owns, its keys integers, in the order in which they came. -/
def Res.imap (b : Nat) (kv : List (Int × Value)) : Res where
  foot := [b]
  ok w := ∃ es clock, w.heap[b]? = some (.map es clock) ∧ es.toList.map (fun e => (e.key, e.val)) = kv.map (fun p => (Value.int .i64 p.1, p.2))
  loc w w' h hw := by
    obtain ⟨es, clock, h1, h2⟩ := hw
    exact ⟨es, clock, by rw [h b (by simp)]; exact h1, h2⟩
def fnd (kv : List (Int × Value)) (k : Int) : Option Value := (kv.find? fun p => k == p.1).map (·.2)
theorem findNow_kv {k : Int} : ∀ (es : List MapEntry) (kv : List (Int × Value)) (i : Nat), es.map (fun e => (e.key, e.val)) = kv.map (fun p => (Value.int .i64 p.1, p.2)) →
    ∃ r, Instr.findNow (.int .i64) (.int .i64 k) es i = some r ∧ r.map (·.2) = fnd kv k
  | [], [], i, _ => ⟨none, rfl, rfl⟩
  | [], _ :: _, i, h => by simp at h
  | _ :: _, [], i, h => by simp at h
  | e :: es, p :: kv, i, h => by
    simp only [List.map_cons, List.cons.injEq, Prod.mk.injEq] at h
    obtain ⟨⟨h1, h2⟩, h3⟩ := h
    obtain ⟨r, h4, h5⟩ := findNow_kv (k := k) es kv (i + 1) h3
    by_cases hk : k = p.1
    · refine ⟨some (i, e.val), ?_, ?_⟩
      · simp [Instr.findNow, h1, Instr.sameNow, hk]
      · simp [fnd, hk, h2]
    · refine ⟨r, ?_, ?_⟩
      · have hkb : (k == p.1) = false := by simpa using hk
        simp [Instr.findNow, h1, Instr.sameNow, hkb, h4]
      · rw [h5]
        have : (k == p.1) = false := by simpa using hk
        simp [fnd, this]
section
variable {P : Program} {n : Nat} {w0 : World} {M : List Nat} {Q : Exit → Go.Act → World → Prop} {F F' : List (Nat × Value)} {L L' : List Res} {ops : Array Oper} {rest : List Oper}
theorem St.allocO {w : World} (h : St w0 M w L) (o : Obj) (r : Res) (hf : r.foot = [w.heap.size]) (hok : r.ok (w.alloc o)) : St w0 M (w.alloc o) (r :: L) := by
  have hb : ∀ k, k < w.heap.size → (w.alloc o).heap[k]? = w.heap[k]? := fun k hk => RowKit.Below.heap_alloc _ _ _ hk
  refine ⟨h.os, h.tape, h.output, by have := h.size; simp; omega, fun k hk hM => (hb k (by have := h.size; omega)).trans (h.old k hk hM), ?_, ?_, ?_⟩
  · intro s hs
    rcases List.mem_cons.1 hs with rfl | hs
    · exact hok
    · exact s.loc w _ (fun b hbr => hb b (h.foot s hs b hbr).1) (h.ok s hs)
  · intro s hs b hbr
    rcases List.mem_cons.1 hs with rfl | hs
    · rw [hf] at hbr; simp at hbr; subst hbr
      refine ⟨by simp, fun hlt => ?_⟩
      have := h.size; omega
    · have := h.foot s hs b hbr
      exact ⟨by simp; omega, this.2⟩
  · refine List.pairwise_cons.2 ⟨fun s hs b hbr hbs => ?_, h.disj⟩
    rw [hf] at hbr; simp at hbr; subst hbr
    have := (h.foot s hs _ hbs).1
    omega
theorem GL_makeMap {d T U : Nat} {pos : String} {aft : Array Edge} (hd : Nat.blt d n = true) (k : ∀ b, GL P n w0 M ops Q rest ((d, .map (some b)) :: F) (Res.imap b [] :: L)) : GL P n w0 M ops Q (⟨some d, .makeMap T none, U, pos, aft, none⟩ :: rest) F L := by
  refine GL_new (R := fun v L' => ∃ b, v = .map (some b) ∧ L' = Res.imap b [] :: L) hd ?_ (fun v L' ⟨b, e1, e2⟩ => by subst e1; subst e2; exact k b)
  intro a w hF hS
  refine ⟨_, _, w.alloc (.map #[] 0), ⟨w.heap.size, rfl, rfl⟩, ?_, St.allocO hS _ _ rfl ⟨#[], 0, (heap_alloc w _).1, by simp⟩⟩
  rfl
theorem PU_mapSet {T kt et b : Nat} {x y z : Operand} {k : Int} {v : Value} {kv : List (Int × Value)} (hu : P.underlying T = some (.map kt et)) (hk : P.underlying kt = some (.int .i64)) (hx : ev F x = some (.map (some b))) (hy : ev F y = some (.int .i64 k)) (hz : ev F z = some v)
    (hn : fnd kv k = none) (hU : Upd L (Res.imap b kv) (Res.imap b (kv ++ [(k, v)])) L') {U : TypeId} : PU P n w0 M (.mapUpdate T x y z) U F L L' ∧ PU P n w0 M (.insert T x y z) U F L L' := by
  have main : ∀ a w, Fr n a F → St w0 M w L → ∃ w', (Instr.mapUpdate T (a.eval x) (a.eval y) (a.eval z)).run P w = .ok () w' ∧ St w0 M w' L' := by
    intro a w hF hS
    obtain ⟨es, clock, h1, h2⟩ := hS.ok _ hU.mem
    obtain ⟨r, h3, h4⟩ := findNow_kv (k := k) es.toList kv 0 h2
    rw [hn] at h4
    have hr : r = none := by cases r with
      | none => rfl
      | some r => simp at h4
    subst hr
    have h5 := run_findKey (P := P) (w := w) hk h3
    have h6 : (Instr.checkKey false 10000 kt (.int .i64 k)).run P w = .ok () w := run_checkKey (n := 9999) hk (by simp [IsKey]) false
    have h7 := run_setObj_map (P := P) (.map (es.push { key := .int .i64 k, val := v, born := clock }) (clock + 1)) h1
    have hlt : b < w.heap.size := (Array.getElem?_eq_some_iff.1 h1).1
    refine ⟨{ w with heap := w.heap.setIfInBounds b (.map (es.push { key := .int .i64 k, val := v, born := clock }) (clock + 1)) }, ?_, hS.turn hU rfl rfl rfl (by simp) (fun j hj hjf => ?_) ⟨_, _, (heap_set h1).1, ?_⟩ (fun c hc => ?_)⟩
    · have h8 := Go.MapKept.run_getObj_map (P := P) h1
      simp only [hF.ev hx, hF.ev hy, hF.ev hz, Instr.mapUpdate, Sem.run_bind, run_underlying hu, Result.andThen_ok, h8, h6, h5, h7]
    · exact (heap_set h1).2 j (fun e => hjf (by simp [Res.imap, e]))
    · simp [h2]
    · simp [Res.imap] at hc ⊢
      subst hc
      exact ⟨hlt, .inl rfl⟩
  constructor
  · intro a w hF hS
    obtain ⟨w', h1, h2⟩ := main a w hF hS
    exact ⟨w', by simp [execOp, h1], h2⟩
  · intro a w hF hS
    obtain ⟨w', h1, h2⟩ := main a w hF hS
    exact ⟨w', by simp [execOp, h1], h2⟩
theorem run_lookup {T kt et b : Nat} {k : Int} {w : World} {z : Value} {kv : List (Int × Value)} (hu : P.underlying T = some (.map kt et)) (hk : P.underlying kt = some (.int .i64)) (hz : ZV P et z) (hok : (Res.imap b kv).ok w) (c : Bool) :
    (Instr.lookup T (.map (some b)) (.int .i64 k) c).run P w = .ok (if c then .tuple #[(fnd kv k).getD z, .bool (fnd kv k).isSome] else (fnd kv k).getD z) w := by
  obtain ⟨es, clock, h1, h2⟩ := hok
  obtain ⟨r, h3, h4⟩ := findNow_kv (k := k) es.toList kv 0 h2
  have h5 := run_findKey (P := P) (w := w) hk h3
  have h6 : (Instr.checkKey es.isEmpty 10000 kt (.int .i64 k)).run P w = .ok () w := run_checkKey (n := 9999) hk (by simp [IsKey]) _
  have h8 := Go.MapKept.run_getObj_map (P := P) h1
  simp only [Instr.lookup, Sem.run_bind, run_underlying hu, Result.andThen_ok, h8, Sem.run_pure, h6, h5]
  rw [← h4]
  cases r with
  | none => simp [hz w]
  | some r => obtain ⟨i, v⟩ := r; simp
theorem PS_lookup1 {T kt et b : Nat} {x y : Operand} {k : Int} {z : Value} {kv : List (Int × Value)} {U : TypeId} (hu : P.underlying T = some (.map kt et)) (hk : P.underlying kt = some (.int .i64)) (hz : ZV P et z) (hx : ev F x = some (.map (some b))) (hy : ev F y = some (.int .i64 k)) (hm : Res.imap b kv ∈ L) :
    PS P n w0 M (.lookup T x y false) U F L ((fnd kv k).getD z) L := fun a w hF hS => by
  refine ⟨w, ?_, rfl, rfl⟩
  have := run_lookup (k := k) hu hk hz (hS.ok _ hm) false
  simp only [execOp, hF.ev hx, hF.ev hy]
  simp [this]
theorem PS_lookup2 {T kt et b : Nat} {x y : Operand} {k : Int} {z : Value} {kv : List (Int × Value)} {U : TypeId} (hu : P.underlying T = some (.map kt et)) (hk : P.underlying kt = some (.int .i64)) (hz : ZV P et z) (hx : ev F x = some (.map (some b))) (hy : ev F y = some (.int .i64 k)) (hm : Res.imap b kv ∈ L) :
    PS P n w0 M (.lookup T x y true) U F L (.tuple #[(fnd kv k).getD z, .bool (fnd kv k).isSome]) L := fun a w hF hS => by
  refine ⟨w, ?_, rfl, rfl⟩
  have := run_lookup (k := k) hu hk hz (hS.ok _ hm) true
  simp only [execOp, hF.ev hx, hF.ev hy]
  simp [this]
end
end Go.Ing
/- The plain functions of sense. -/
namespace Go.Ing
open Go
theorem and_nat {a b : Int} (ha : 0 ≤ a) (ha2 : a ≤ 9223372036854775807) (hb : 0 ≤ b) (hb2 : b ≤ 9223372036854775807) : IntKind.i64.wrap ((BitVec.ofInt IntKind.i64.bits a &&& BitVec.ofInt IntKind.i64.bits b).toNat : Int) = ((a.toNat &&& b.toNat : Nat) : Int) := by
  obtain ⟨m, rfl⟩ := Int.eq_ofNat_of_zero_le ha
  obtain ⟨n, rfl⟩ := Int.eq_ofNat_of_zero_le hb
  have e : (BitVec.ofInt IntKind.i64.bits (m : Int) &&& BitVec.ofInt IntKind.i64.bits (n : Int)).toNat = m &&& n := by
    show (BitVec.ofInt 64 (m : Int) &&& BitVec.ofInt 64 (n : Int)).toNat = m &&& n
    rw [BitVec.toNat_and, BitVec.ofInt_natCast, BitVec.ofInt_natCast, BitVec.toNat_ofNat, BitVec.toNat_ofNat, Nat.mod_eq_of_lt (by omega), Nat.mod_eq_of_lt (by omega)]
  rw [e]
  have hle : m &&& n ≤ m := Nat.and_le_left
  simp only [Int.toNat_natCast]
  exact IntWalk.i64_in _ (by omega)
namespace Land
def lit (w : Land) (r i : Int) : Bool := !(!decide ((w.things.at i).kind = 1) || !(w.things.at i).on) && (decide ((w.room i).1 = r) && (w.room i).2)
def bright (w : Land) (r : Int) : Bool := if (decide (r < 0) || decide (6 ≤ r)) = true then false else if (!(w.rooms.at r).dark) = true then true else !(allFrom 9 (fun i => !w.lit r i) 9)
def cloaked (w : Land) (b i : Int) : Bool := decide ((w.things.at i).kind = 2) && (w.things.at i).on && decide ((w.things.at i).whr = 1) && decide ((w.things.at i).at_ = b)
def hidden (w : Land) (b : Int) : Bool := !(allFrom 9 (fun i => !w.cloaked b i) 9)
def being (w : Land) (b : Int) : Bool := decide (0 ≤ b) && decide (b < 6) && (w.beings.at b).here
def sees (w : Land) (a b : Int) : Bool := if (!w.being a || !w.being b) = true then false else if decide (a = b) = true then true else decide ((w.beings.at a).room = (w.beings.at b).room) && w.bright (w.beings.at a).room && ((w.beings.at a).keen || !w.hidden b)
def loud (k : Int) : Bool := decide (k = 7) || decide (k = 14) || decide (k = 15)
def unseen (w : Land) (b : Int) (e : Event) : Bool := decide (0 ≤ e.other) && decide (e.other < 6) && !w.sees b e.other
def perceives (w : Land) (b : Int) (e : Event) : Int :=
  if (!w.being b) = true then 0
  else if decide (b = e.actor) = true then (if (decide (e.other < 0) || decide (6 ≤ e.other) || w.sees b e.other) = true then 1 else 5)
  else if (decide (e.kind = 16) || !decide ((w.beings.at b).room = e.room)) = true then 0
  else if (!w.sees b e.actor) = true then (if (!loud e.kind) = true then 0 else if w.unseen b e = true then 1 + 2 + 4 else 1 + 2)
  else if w.unseen b e = true then 1 + 4 else 1
def allN (w : Land) (e : Event) : Nat → Event
  | 0 => e
  | k + 1 => { allN w e k with by_ := (allN w e k).by_.put k (perceives w k (allN w e k)) }
theorem allN_step {w : Land} {e : Event} {k : Int} (h : 0 ≤ k) : w.allN e (k + 1).toNat = { w.allN e k.toNat with by_ := (w.allN e k.toNat).by_.put k (w.perceives k (w.allN e k.toNat)) } := by
  obtain ⟨m, rfl⟩ := Int.eq_ofNat_of_zero_le h
  rfl
/-! #### what is heard of who says -/
def sayT : Str := [89, 111, 117, 32, 115, 97, 121, 58, 32, 88]
theorem say_lt {k : Int} (h0 : 0 ≤ k) (h1 : k < 9) : ((decide (k = 0) || decide (((sayT.getD (k - 1).toNat 0).toNat : Int) = 32)) && (decide (k + 1 = (sayT.length : Int)) || decide (((sayT.getD (k + 1).toNat 0).toNat : Int) = 32) || decide (((sayT.getD (k + 1).toNat 0).toNat : Int) = 46))) = false := by
  have : k = 0 ∨ k = 1 ∨ k = 2 ∨ k = 3 ∨ k = 4 ∨ k = 5 ∨ k = 6 ∨ k = 7 ∨ k = 8 := by omega
  rcases this with rfl | rfl | rfl | rfl | rfl | rfl | rfl | rfl | rfl <;> rfl
theorem say_9 : ((decide ((9 : Int) = 0) || decide (((sayT.getD ((9 : Int) - 1).toNat 0).toNat : Int) = 32)) && (decide ((9 : Int) + 1 = 10) || decide (((sayT.getD ((9 : Int) + 1).toNat 0).toNat : Int) = 32) || decide (((sayT.getD ((9 : Int) + 1).toNat 0).toNat : Int) = 46))) = true := rfl
def said (t : Str) (k : Int) : Str := if k ≤ 9 then sayT.take k.toNat else sayT.take 9 ++ t
theorem said_next {t : Str} {k : Int} (h0 : 0 ≤ k) (h1 : k < 9) : said t k ++ [sayT.getD k.toNat 0] = said t (k + 1) := by
  have : k = 0 ∨ k = 1 ∨ k = 2 ∨ k = 3 ∨ k = 4 ∨ k = 5 ∨ k = 6 ∨ k = 7 ∨ k = 8 := by omega
  rcases this with rfl | rfl | rfl | rfl | rfl | rfl | rfl | rfl | rfl <;> rfl
theorem said_last (t : Str) : said t 9 ++ t = said t (9 + 1) := rfl
theorem said_len (t : Str) {k : Int} (h1 : k ≤ 9) : (said t k).length ≤ 10 := by
  unfold said; rw [if_pos h1, List.length_take]; show min _ 10 ≤ 10; omega
def sensed : Event := ⟨7, 0, 0, -1, 0, 0, [99, 97, 116], [], [], [112, 117, 114, 114], default⟩
theorem sensed_0 : (new.allN sensed 6).by_.at 0 = 1 := by kernel_rfl
theorem sensed_1 : (new.allN sensed 6).by_.at 1 = 0 := by kernel_rfl
/-! #### laws -/
theorem perceives_cases (w : Land) (b : Int) (e : Event) : w.perceives b e = 0 ∨ (w.being b = true ∧ ((b = e.actor ∧ (w.perceives b e = 1 ∨ w.perceives b e = 5)) ∨
    (b ≠ e.actor ∧ e.kind ≠ 16 ∧ (w.beings.at b).room = e.room ∧ ((w.sees b e.actor = false ∧ loud e.kind = true ∧ (w.perceives b e = 3 ∨ w.perceives b e = 7)) ∨ (w.sees b e.actor = true ∧ (w.perceives b e = 1 ∨ w.perceives b e = 5)))))) := by
  unfold perceives
  repeat' split
  all_goals simp_all
theorem sees_cases {w : Land} {a b : Int} (h : w.sees a b = true) : w.being a = true ∧ w.being b = true ∧ (a = b ∨ ((w.beings.at a).room = (w.beings.at b).room ∧ w.bright (w.beings.at a).room = true ∧ ((w.beings.at a).keen = true ∨ w.hidden b = false))) := by
  unfold sees at h
  split at h
  · cases h
  · rename_i h1
    simp at h1
    split at h
    · rename_i h2
      exact ⟨h1.1, h1.2, .inl (by simpa using h2)⟩
    · simp at h
      exact ⟨h1.1, h1.2, .inr ⟨h.1.1, h.1.2, h.2⟩⟩
theorem being_rng {w : Land} {b : Int} (h : w.being b = true) : 0 ≤ b ∧ b < 6 ∧ (w.beings.at b).here = true := by
  simpa [being, and_assoc] using h
theorem unsees {w : Land} {a b : Int} (h : w.sees a b = false) : (!decide (a = b) || decide (a < 0) || decide (6 ≤ a) || !(w.beings.at (max 0 (min a 5))).here) = true := by
  by_cases e : a = b
  · subst e
    by_cases h0 : a < 0
    · simp [h0]
    · by_cases h6 : 6 ≤ a
      · simp [h6]
      · have hm : max 0 (min a 5) = a := by omega
        rw [hm]
        cases hh : (w.beings.at a).here with
        | false => simp
        | true =>
          have hb : w.being a = true := by simp [being, hh]; omega
          simp [sees, hb] at h
  · simp [e]
theorem sees_all {w : Land} {a b : Int} (h : w.sees a b = true) : ((w.beings.at a).here && (w.beings.at b).here && (decide (a = b) || (decide ((w.beings.at a).room = (w.beings.at b).room) && w.bright (w.beings.at a).room && ((w.beings.at a).keen || !w.hidden b))) && true) = true := by
  obtain ⟨h1, h2, h3⟩ := sees_cases h
  have h4 := (being_rng h1).2.2
  have h5 := (being_rng h2).2.2
  rcases h3 with e | ⟨e1, e2, e3⟩
  · simp [h4, h5, e]
  · simp only [h4, h5, e1, e2, Bool.true_and, Bool.and_true, decide_true]
    rw [e1] at e2
    rcases e3 with e3 | e3 <;> simp [e2, e3]
theorem perceives_rng (w : Land) (b : Int) (e : Event) : 0 ≤ w.perceives b e ∧ w.perceives b e ≤ 7 := by
  rcases perceives_cases w b e with h | ⟨_, ⟨_, h | h⟩ | ⟨_, _, _, ⟨_, _, h | h⟩ | ⟨_, h | h⟩⟩⟩ <;> omega
section
variable {w : Land} {b : Int} {e : Event}
theorem rooms_a (h : w.perceives b e ≠ 0) : (decide (b < 0) || decide (6 ≤ b) || !(w.beings.at b).here || decide ((((w.perceives b e).toNat &&& (1 : Int).toNat : Nat) : Int) = 0)) = false := by
  have hc := (perceives_cases w b e).resolve_left h
  obtain ⟨h1, h2, h3⟩ := being_rng hc.1
  have hn : w.perceives b e = 1 ∨ w.perceives b e = 3 ∨ w.perceives b e = 5 ∨ w.perceives b e = 7 := by
    rcases hc.2 with ⟨_, h | h⟩ | ⟨_, _, _, ⟨_, _, h | h⟩ | ⟨_, h | h⟩⟩ <;> simp [h]
  rw [decide_eq_false (by omega : ¬ b < 0), decide_eq_false (by omega : ¬ 6 ≤ b), h3]
  rcases hn with hn | hn | hn | hn <;> rw [hn] <;> rfl
theorem rooms_b (h : w.perceives b e ≠ 0) (he : b = e.actor) : decide ((((w.perceives b e).toNat &&& (2 : Int).toNat : Nat) : Int) = 0) = true := by
  have hc := (perceives_cases w b e).resolve_left h
  rcases hc.2 with ⟨_, h | h⟩ | ⟨hn, _⟩
  · rw [h]; rfl
  · rw [h]; rfl
  · exact absurd he hn
theorem rooms_c (h : w.perceives b e ≠ 0) (he : ¬ b = e.actor) : (decide ((w.beings.at b).room = e.room) && !decide (e.kind = 16) && ((decide (e.kind = 7) || decide (e.kind = 14) || decide (e.kind = 15)) || w.bright e.room) && ((!decide ((((w.perceives b e).toNat &&& (2 : Int).toNat : Nat) : Int) = 0)) != w.sees b e.actor)) = true := by
  have hc := (perceives_cases w b e).resolve_left h
  rcases hc.2 with ⟨e1, _⟩ | ⟨_, h1, h2, h3⟩
  · exact absurd e1 he
  · rw [decide_eq_true h2, decide_eq_false h1]
    rcases h3 with ⟨a1, a2, a3⟩ | ⟨a1, a3⟩
    · have a2' : (decide (e.kind = 7) || decide (e.kind = 14) || decide (e.kind = 15)) = true := a2
      rw [a1, a2']
      rcases a3 with a3 | a3 <;> rw [a3] <;> rfl
    · obtain ⟨_, _, s⟩ := sees_cases a1
      rcases s with s | ⟨_, s, _⟩
      · exact absurd s he
      · rw [h2] at s
        rw [a1, s, Bool.or_true]
        rcases a3 with a3 | a3 <;> rw [a3] <;> rfl
end
end Land
end Go.Ing
/- Where a thing is at last: two roads. -/
namespace Go.Ing
open Go
def kvOf (s : List Int) : List (Int × Value) := s.map fun j => (j, .bool true)
theorem kvOf_snoc (s : List Int) (i : Int) : kvOf (s ++ [i]) = kvOf s ++ [(i, .bool true)] := by simp [kvOf]
theorem seen_fnd (s : List Int) (i : Int) : fnd (kvOf s) i = if i ∈ s then some (.bool true) else none := by
  induction s with
  | nil => rfl
  | cons j s ih =>
    by_cases h : i = j
    · simp [fnd, kvOf, h]
    · have hb : (i == j) = false := by simpa using h
      have e : fnd (kvOf (j :: s)) i = fnd (kvOf s) i := by simp [fnd, kvOf, hb]
      rw [e, ih]
      simp [h]
theorem seen_eq (s : List Int) (i : Int) : (fnd (kvOf s) i).getD (.bool false) = .bool (decide (i ∈ s)) := by
  rw [seen_fnd]; by_cases h : i ∈ s <;> simp [h]
theorem seen_none {s : List Int} {i : Int} (h : i ∉ s) : fnd (kvOf s) i = none := by rw [seen_fnd, if_neg h]
def un (s : List Int) (j : Int) : Nat := if j ∈ s then 0 else 1
def leftN (s : List Int) : Nat := un s 0 + un s 1 + un s 2 + un s 3 + un s 4 + un s 5 + un s 6 + un s 7 + un s 8
theorem un_snoc (s : List Int) (i j : Int) (hj : j ≠ i) : un (s ++ [i]) j = un s j := by simp [un, hj]
theorem un_hit (s : List Int) (i : Int) : un (s ++ [i]) i = 0 := by simp [un]
theorem un_new {s : List Int} {i : Int} (h : i ∉ s) : un s i = 1 := by simp [un, h]
theorem leftN_snoc {s : List Int} {i : Int} (h : i ∉ s) (h0 : 0 ≤ i) (h9 : i < 9) : leftN (s ++ [i]) + 1 = leftN s := by
  have hc : i = 0 ∨ i = 1 ∨ i = 2 ∨ i = 3 ∨ i = 4 ∨ i = 5 ∨ i = 6 ∨ i = 7 ∨ i = 8 := by omega
  have hh := un_hit s i
  have hn := un_new h
  have g : ∀ j : Int, j ≠ i → un (s ++ [i]) j = un s j := fun j hj => un_snoc s i j hj
  unfold leftN
  rcases hc with e | e | e | e | e | e | e | e | e
  · have g1 := g 1 (by omega); have g2 := g 2 (by omega); have g3 := g 3 (by omega); have g4 := g 4 (by omega); have g5 := g 5 (by omega); have g6 := g 6 (by omega); have g7 := g 7 (by omega); have g8 := g 8 (by omega)
    rw [e] at hh hn g1 g2 g3 g4 g5 g6 g7 g8 ⊢; omega
  · have g0 := g 0 (by omega); have g2 := g 2 (by omega); have g3 := g 3 (by omega); have g4 := g 4 (by omega); have g5 := g 5 (by omega); have g6 := g 6 (by omega); have g7 := g 7 (by omega); have g8 := g 8 (by omega)
    rw [e] at hh hn g0 g2 g3 g4 g5 g6 g7 g8 ⊢; omega
  · have g0 := g 0 (by omega); have g1 := g 1 (by omega); have g3 := g 3 (by omega); have g4 := g 4 (by omega); have g5 := g 5 (by omega); have g6 := g 6 (by omega); have g7 := g 7 (by omega); have g8 := g 8 (by omega)
    rw [e] at hh hn g0 g1 g3 g4 g5 g6 g7 g8 ⊢; omega
  · have g0 := g 0 (by omega); have g1 := g 1 (by omega); have g2 := g 2 (by omega); have g4 := g 4 (by omega); have g5 := g 5 (by omega); have g6 := g 6 (by omega); have g7 := g 7 (by omega); have g8 := g 8 (by omega)
    rw [e] at hh hn g0 g1 g2 g4 g5 g6 g7 g8 ⊢; omega
  · have g0 := g 0 (by omega); have g1 := g 1 (by omega); have g2 := g 2 (by omega); have g3 := g 3 (by omega); have g5 := g 5 (by omega); have g6 := g 6 (by omega); have g7 := g 7 (by omega); have g8 := g 8 (by omega)
    rw [e] at hh hn g0 g1 g2 g3 g5 g6 g7 g8 ⊢; omega
  · have g0 := g 0 (by omega); have g1 := g 1 (by omega); have g2 := g 2 (by omega); have g3 := g 3 (by omega); have g4 := g 4 (by omega); have g6 := g 6 (by omega); have g7 := g 7 (by omega); have g8 := g 8 (by omega)
    rw [e] at hh hn g0 g1 g2 g3 g4 g6 g7 g8 ⊢; omega
  · have g0 := g 0 (by omega); have g1 := g 1 (by omega); have g2 := g 2 (by omega); have g3 := g 3 (by omega); have g4 := g 4 (by omega); have g5 := g 5 (by omega); have g7 := g 7 (by omega); have g8 := g 8 (by omega)
    rw [e] at hh hn g0 g1 g2 g3 g4 g5 g7 g8 ⊢; omega
  · have g0 := g 0 (by omega); have g1 := g 1 (by omega); have g2 := g 2 (by omega); have g3 := g 3 (by omega); have g4 := g 4 (by omega); have g5 := g 5 (by omega); have g6 := g 6 (by omega); have g8 := g 8 (by omega)
    rw [e] at hh hn g0 g1 g2 g3 g4 g5 g6 g8 ⊢; omega
  · have g0 := g 0 (by omega); have g1 := g 1 (by omega); have g2 := g 2 (by omega); have g3 := g 3 (by omega); have g4 := g 4 (by omega); have g5 := g 5 (by omega); have g6 := g 6 (by omega); have g7 := g 7 (by omega)
    rw [e] at hh hn g0 g1 g2 g3 g4 g5 g6 g7 ⊢; omega
namespace Land
/-- What holds while a way is gone, from box to box. -/
structure SeenI (w : Land) (s : List Int) (i : Int) : Prop where
  cnt : s.length + leftN s = 9
  rng : ∀ j ∈ s, 0 ≤ j ∧ j < 9 ∧ (w.things.at j).whr = 2 ∧ ((w.things.at j).at_ ∈ s ∨ (w.things.at j).at_ = i)
theorem SeenI.start (w : Land) (i : Int) : SeenI w [] i := ⟨by decide, fun j hj => by simp at hj⟩
theorem SeenI.next {w : Land} {s : List Int} {i : Int} (h : SeenI w s i) (h0 : 0 ≤ i) (h9 : i < 9) (hn : i ∉ s) (hw : (w.things.at i).whr = 2) : SeenI w (s ++ [i]) (w.things.at i).at_ := by
  refine ⟨?_, fun j hj => ?_⟩
  · have := leftN_snoc hn h0 h9
    have := h.cnt
    simp only [List.length_append, List.length_cons, List.length_nil]
    omega
  · rcases List.mem_append.1 hj with hj | hj
    · obtain ⟨a, b, c, d⟩ := h.rng j hj
      refine ⟨a, b, c, ?_⟩
      rcases d with d | d
      · exact .inl (by simp [d])
      · exact .inl (by simp [d])
    · simp at hj; subst hj
      exact ⟨h0, h9, hw, .inr rfl⟩
def rootF (w : Land) : Nat → Int → Bool → Int × Int × Bool × Bool
  | 0, _, _ => (0, 0, false, false)
  | n + 1, i, o =>
    if (decide (0 ≤ i) && decide (i < 9)) = true then
      (if (!decide ((w.things.at i).whr = 2)) = true then ((w.things.at i).whr, (w.things.at i).at_, o, decide ((w.things.at i).whr = 0) || decide ((w.things.at i).whr = 1))
       else rootF w n (w.things.at i).at_ (if (decide (0 ≤ (w.things.at i).at_) && decide ((w.things.at i).at_ < 9)) = true then o && (w.things.at (w.things.at i).at_).on else o))
    else (0, 0, false, false)
def root (w : Land) (i : Int) : Int × Int × Bool × Bool := rootF w 10 i true
theorem rootF_closed {w : Land} {s : List Int} (hs : ∀ j ∈ s, 0 ≤ j ∧ j < 9 ∧ (w.things.at j).whr = 2 ∧ (w.things.at j).at_ ∈ s) : ∀ (n : Nat) (j : Int) (o : Bool), j ∈ s → rootF w n j o = (0, 0, false, false)
  | 0, _, _, _ => rfl
  | n + 1, j, o, hj => by
    obtain ⟨h1, h2, h3, h4⟩ := hs j hj
    have a : (decide (0 ≤ j) && decide (j < 9)) = true := by simp; omega
    rw [rootF, if_pos a, h3, if_neg (by decide)]
    exact rootF_closed hs n _ _ h4
theorem SeenI.closed {w : Land} {s : List Int} {i : Int} (h : SeenI w s i) (hi : i ∈ s) : ∀ j ∈ s, 0 ≤ j ∧ j < 9 ∧ (w.things.at j).whr = 2 ∧ (w.things.at j).at_ ∈ s := fun j hj => by
  obtain ⟨a, b, c, d⟩ := h.rng j hj
  exact ⟨a, b, c, by rcases d with d | d; exact d; rw [d]; exact hi⟩
theorem SeenI.len {w : Land} {s : List Int} {i : Int} (h : SeenI w s i) : s.length ≤ 9 := by have := h.cnt; omega
/-- The way ends: it is gone too far, or in a ring. -/
theorem SeenI.ends {w : Land} {s : List Int} {i : Int} {o : Bool} (h : SeenI w s i) (hc : (decide (0 ≤ i) && decide (i < 9) && !decide (i ∈ s)) = false) : rootF w (10 - s.length) i o = (0, 0, false, false) := by
  have hl := h.len
  by_cases hi : i ∈ s
  · exact rootF_closed (h.closed hi) _ _ _ hi
  · have a : ¬ (decide (0 ≤ i) && decide (i < 9)) = true := by
      intro e
      rw [e] at hc
      simp [hi] at hc
    rw [show 10 - s.length = (9 - s.length) + 1 by omega, rootF, if_neg a]
theorem SeenI.out {w : Land} {s : List Int} {i : Int} {o : Bool} (h : SeenI w s i) (h0 : 0 ≤ i) (h9 : i < 9) (hw : (!decide ((w.things.at i).whr = 2)) = true) : rootF w (10 - s.length) i o = ((w.things.at i).whr, (w.things.at i).at_, o, decide ((w.things.at i).whr = 0) || decide ((w.things.at i).whr = 1)) := by
  have hl := h.len
  have a : (decide (0 ≤ i) && decide (i < 9)) = true := by simp; omega
  rw [show 10 - s.length = (9 - s.length) + 1 by omega, rootF, if_pos a, if_pos hw]
theorem SeenI.step {w : Land} {s : List Int} {i : Int} {o : Bool} (_h : SeenI w s i) (h' : SeenI w (s ++ [i]) (w.things.at i).at_) (h0 : 0 ≤ i) (h9 : i < 9) (hw : (!decide ((w.things.at i).whr = 2)) = false) : rootF w (10 - s.length) i o = rootF w (10 - (s ++ [i]).length) (w.things.at i).at_ (if (decide (0 ≤ (w.things.at i).at_) && decide ((w.things.at i).at_ < 9)) = true then o && (w.things.at (w.things.at i).at_).on else o) := by
  have hl := h'.len
  simp only [List.length_append, List.length_cons, List.length_nil] at hl ⊢
  have a : (decide (0 ≤ i) && decide (i < 9)) = true := by simp; omega
  rw [show 10 - s.length = (10 - (s.length + (0 + 1))) + 1 by omega, rootF, if_pos a, if_neg (by rw [hw]; decide)]
/-- The room of it: the same. -/
def conv (w : Land) (r : Int × Int × Bool × Bool) : Int × Bool :=
  if (r.2.2.2 && decide (r.1 = 1)) = true then (if (decide (r.2.1 < 0) || decide (5 < r.2.1)) = true then (-1, false) else ((w.beings.at r.2.1).room, r.2.2.1))
  else if (!r.2.2.2) = true then (-1, false) else (r.2.1, r.2.2.1)
theorem conv_root (w : Land) : ∀ (n : Nat) (i : Int) (o : Bool), conv w (rootF w n i o) = roomFrom w n i o
  | 0, i, o => rfl
  | n + 1, i, o => by
    rw [rootF, roomFrom]
    by_cases hr : (decide (0 ≤ i) && decide (i < 9)) = true
    · have hr' : ¬ (decide (i < 0) || decide (9 ≤ i)) = true := by simp at hr ⊢; omega
      rw [if_pos hr, if_neg hr']
      by_cases h0 : (w.things.at i).whr = 0
      · simp [h0, conv]
      · by_cases h1 : (w.things.at i).whr = 1
        · have e : (decide ((w.things.at i).at_ < 0) || decide (5 < (w.things.at i).at_)) = (decide ((w.things.at i).at_ < 0) || decide (6 ≤ (w.things.at i).at_)) := by
            rw [Bool.eq_iff_iff]; simp; omega
          simp only [h1, conv, e]
          rfl
        · by_cases h2 : (w.things.at i).whr = 2
          · have e2 : (!decide ((w.things.at i).whr = 2)) = false := by rw [h2]; rfl
            have e0 : decide ((w.things.at i).whr = 0) = false := decide_eq_false h0
            have e1 : decide ((w.things.at i).whr = 1) = false := decide_eq_false h1
            have e22 : decide ((w.things.at i).whr = 2) = true := decide_eq_true h2
            rw [e2, e0, e1, e22]
            simp only [Bool.false_eq_true, if_false, if_true]
            rw [conv_root w n]
            by_cases ha : (decide (0 ≤ (w.things.at i).at_) && decide ((w.things.at i).at_ < 9)) = true
            · rw [if_pos ha, ha]
              cases hon : (w.things.at (w.things.at i).at_).on <;> simp
            · rw [if_neg ha]
              have ha' : (decide (0 ≤ (w.things.at i).at_) && decide ((w.things.at i).at_ < 9)) = false := by simpa using ha
              rw [ha']; rfl
          · simp [h0, h1, h2, conv]
    · have hr' : (decide (i < 0) || decide (9 ≤ i)) = true := by simp at hr ⊢; omega
      rw [if_neg hr, if_pos hr']; rfl
theorem roomOf (w : Land) (i : Int) : conv w (root w i) = w.room i := conv_root w 10 i true
/-! #### inside -/
theorem inside_closed {w : Land} {box : Int} {s : List Int} (hs : ∀ j ∈ s, 0 ≤ j ∧ j < 9 ∧ (w.things.at j).whr = 2 ∧ (w.things.at j).at_ ∈ s) (hb : box ∉ s) : ∀ (n : Nat) (j : Int), j ∈ s → inside w box n j = false
  | 0, _, _ => rfl
  | n + 1, j, hj => by
    obtain ⟨h1, h2, h3, h4⟩ := hs j hj
    have hjb : ¬ j = box := fun e => hb (e ▸ hj)
    have a : ¬ (decide (j < 0) || decide (9 ≤ j) || !decide ((w.things.at j).whr = 2)) = true := by rw [h3]; simp; omega
    rw [inside, if_neg (by simpa using hjb), if_neg a]
    exact inside_closed hs hb n _ h4
theorem SeenI.inside1 {w : Land} {s : List Int} {i box : Int} (h : SeenI w s i) (hb : decide (i = box) = true) : inside w box (10 - s.length) i = true := by
  have hl := h.len
  rw [show 10 - s.length = (9 - s.length) + 1 by omega, inside, if_pos hb]
theorem SeenI.inside2 {w : Land} {s : List Int} {i box : Int} (h : SeenI w s i) (hb : decide (i = box) = false) (hc : (decide (i < 0) || decide (8 < i) || !decide ((w.things.at i).whr = 2)) = true) : inside w box (10 - s.length) i = false := by
  have hl := h.len
  have e : (decide (i < 0) || decide (8 < i) || !decide ((w.things.at i).whr = 2)) = (decide (i < 0) || decide (9 ≤ i) || !decide ((w.things.at i).whr = 2)) := by
    rw [show decide (8 < i) = decide (9 ≤ i) from decide_eq_decide.2 ⟨fun _ => by omega, fun _ => by omega⟩]
  rw [show 10 - s.length = (9 - s.length) + 1 by omega, inside, if_neg (by rw [hb]; decide), if_pos (e ▸ hc)]
theorem SeenI.inside3 {w : Land} {s : List Int} {i box : Int} (h' : SeenI w (s ++ [i]) (w.things.at i).at_) (hb : decide (i = box) = false) (hc : (decide (i < 0) || decide (8 < i) || !decide ((w.things.at i).whr = 2)) = false) : inside w box (10 - s.length) i = inside w box (10 - (s ++ [i]).length) (w.things.at i).at_ := by
  have hl := h'.len
  simp only [List.length_append, List.length_cons, List.length_nil] at hl ⊢
  have e : (decide (i < 0) || decide (8 < i) || !decide ((w.things.at i).whr = 2)) = (decide (i < 0) || decide (9 ≤ i) || !decide ((w.things.at i).whr = 2)) := by
    rw [show decide (8 < i) = decide (9 ≤ i) from decide_eq_decide.2 ⟨fun _ => by omega, fun _ => by omega⟩]
  rw [show 10 - s.length = (10 - (s.length + (0 + 1))) + 1 by omega, inside, if_neg (by rw [hb]; decide), if_neg (by rw [← e, hc]; decide)]
theorem SeenI.inside4 {w : Land} {s : List Int} {i box : Int} (h : SeenI w s i) (hi : i ∈ s) (hb : box ∉ s) : inside w box (10 - s.length) i = false := inside_closed (h.closed hi) hb _ _ hi
/-! #### the document's sense -/
theorem bright_step (w : Land) (r k : Int) (c A : Bool) : (c || !(!w.lit r k && A)) = ((c || (decide ((w.things.at k).kind = 1) && (w.things.at k).on && (w.room k).2 && decide ((w.room k).1 = r))) || !A) := by
  unfold lit
  cases c <;> cases A <;> cases decide ((w.things.at k).kind = 1) <;> cases (w.things.at k).on <;> cases (w.room k).2 <;> cases decide ((w.room k).1 = r) <;> rfl
theorem bright_eq {w : Land} {r : Int} (h : (decide (r < 0) || decide (5 < r)) = false) : w.bright r = (!(w.rooms.at r).dark || !(allFrom 9 (fun i => !w.lit r i) 9)) := by
  have h' : (decide (r < 0) || decide (6 ≤ r)) = false := by simp at h ⊢; omega
  unfold bright
  rw [h', if_neg (by decide)]
  cases (w.rooms.at r).dark <;> simp
theorem bright_out {w : Land} {r : Int} (h : (decide (r < 0) || decide (5 < r)) = true) : w.bright r = false := by
  have h' : (decide (r < 0) || decide (6 ≤ r)) = true := by simp at h ⊢; omega
  unfold bright
  rw [h', if_pos rfl]
theorem cloaked_eq (w : Land) (b k : Int) : w.cloaked b k = (decide ((w.things.at k).whr = 1) && decide ((w.things.at k).at_ = b) && decide ((w.things.at k).kind = 2) && (w.things.at k).on) := by
  unfold cloaked
  cases decide ((w.things.at k).kind = 2) <;> cases (w.things.at k).on <;> cases decide ((w.things.at k).whr = 1) <;> cases decide ((w.things.at k).at_ = b) <;> rfl
theorem sees_out {w : Land} {a b : Int} (h : (!w.being a || !w.being b) = true) : w.sees a b = false := if_pos h
theorem sees_eq {w : Land} {a b : Int} (h : (!w.being a || !w.being b) = false) : w.sees a b = (decide (a = b) || (decide ((w.beings.at a).room = (w.beings.at b).room) && w.bright (w.beings.at b).room && (!w.hidden b || (w.beings.at a).keen))) := by
  unfold sees
  rw [h, if_neg (by decide)]
  by_cases e : a = b
  · simp [e]
  · by_cases hr : (w.beings.at a).room = (w.beings.at b).room
    · simp [e, hr, Bool.or_comm]
    · simp [e, hr]
def perceivesR (w : Land) (b : Int) (e : Event) : Int :=
  if (!w.being b) = true then 0
  else if (!decide (b = e.actor) && (decide (e.kind = 16) || !decide ((w.beings.at b).room = e.room))) = true then 0
  else if (!decide (b = e.actor) && !w.sees b e.actor) = true then (if (!decide (e.kind = 7) && !decide (e.kind = 14) && !decide (e.kind = 15)) = true then 0 else if w.unseen b e = true then 3 + 4 else 3)
  else if w.unseen b e = true then 1 + 4 else 1
theorem perceivesR_eq (w : Land) (b : Int) (e : Event) : w.perceivesR b e = w.perceives b e := by
  unfold perceivesR perceives
  by_cases hb : (!w.being b) = true
  · rw [if_pos hb, if_pos hb]
  · rw [if_neg hb, if_neg hb]
    have hl : (!loud e.kind) = (!decide (e.kind = 7) && !decide (e.kind = 14) && !decide (e.kind = 15)) := by
      unfold loud
      cases decide (e.kind = 7) <;> cases decide (e.kind = 14) <;> cases decide (e.kind = 15) <;> rfl
    by_cases ho : b = e.actor
    · have h0 : decide (b = e.actor) = true := decide_eq_true ho
      rw [h0, if_pos rfl]
      have hu : w.unseen b e = !(decide (e.other < 0) || decide (6 ≤ e.other) || w.sees b e.other) := by
        unfold unseen
        rw [show decide (0 ≤ e.other) = !decide (e.other < 0) by rw [Bool.eq_iff_iff]; simp, show decide (e.other < 6) = !decide (6 ≤ e.other) by rw [Bool.eq_iff_iff]; simp]
        cases decide (e.other < 0) <;> cases decide (6 ≤ e.other) <;> cases w.sees b e.other <;> rfl
      rw [hu]
      cases (decide (e.other < 0) || decide (6 ≤ e.other) || w.sees b e.other) <;> rfl
    · have h0 : decide (b = e.actor) = false := decide_eq_false ho
      rw [h0, hl]
      simp only [Bool.not_false, Bool.true_and, Bool.false_eq_true, if_false]
      rfl
end Land
end Go.Ing
/- Engine: the program's own variables, as they are laid when a call begins; the decimal numeral. -/
namespace Go.Ing
open Go
/-- Variable g holds just these cells. -/
def GV (g : Nat) (vs : List Value) (w : World) : Prop := ∃ t fz, w.heap[g]? = some (.cells vs.toArray t fz)
theorem GV.of_old {g : Nat} {vs : List Value} {w w' : World} (h : GV g vs w) (ho : ∀ k, k < w.heap.size → w'.heap[k]? = w.heap[k]?) : GV g vs w' := by
  obtain ⟨t, fz, e⟩ := h
  have hg : g < w.heap.size := by
    rcases Nat.lt_or_ge g w.heap.size with h' | h'
    · exact h'
    · rw [Array.getElem?_eq_none h'] at e; cases e
  exact ⟨t, fz, (ho g hg).trans e⟩
theorem GV.st {g : Nat} {vs : List Value} {w0 w : World} {L : List Res} (h : GV g vs w0) (hS : St w0 [] w L) : GV g vs w := h.of_old fun k hk => hS.old k hk (by simp)
theorem GV.keep {g : Nat} {vs : List Value} {w0 w : World} (h : GV g vs w0) (hK : Keep w0 w) : GV g vs w := h.of_old hK.old
section
variable {P : Program} {n : Nat} {w0 : World} {F : List (Nat × Value)} {L : List Res}
theorem PS_ldGV {T U g o : Nat} {x : Operand} {v : Value} {vs : List Value} (hg : GV g vs w0) (hx : ev F x = some (.pointer (some ⟨g, o, none⟩))) (hT : TyS P T) (hv : vs[o]? = some v) : PS P n w0 [] (.load T x) U F L v L := by
  intro a w hF hS
  obtain ⟨t, fz, e⟩ := hg.st hS
  have hc : w.cell? ⟨g, o, none⟩ = some v := (cell_at e).trans hv
  exact ⟨w, by simp [execOp, hF.ev hx, Instr.loadAt, Instr.sureAddr, loadVar, hT w, hc], rfl, rfl⟩
end
/-- From the row's list. -/
theorem var_gv {P : Program} {w : World} {name : String} {g : Nat} {cs : Array Value} {vs : List Value} (hg : P.globalNamed name = some g) (h : w.var? P name = some cs) (e : cs.toList = vs) : GV g vs w := by
  unfold World.var? at h
  rw [hg] at h
  simp only [Option.bind_some] at h
  split at h
  · rename_i c t fz hh
    injection h with h
    subst h
    exact ⟨t, fz, by rw [hh, ← e]⟩
  · cases h
theorem gv_var {P : Program} {w : World} {name : String} {g : Nat} {vs : List Value} (hg : P.globalNamed name = some g) (h : GV g vs w) : w.var? P name = some vs.toArray := by
  obtain ⟨t, fz, e⟩ := h
  unfold World.var?
  rw [hg]
  simp only [Option.bind_some]
  rw [e]
theorem laid_at {P : Program} {w : World} {name : String} {d : DataW Unit} : ∀ (laid : List (String × DataW Unit)) (ps : List MemPlace), DataW.LaidVars P w laid ps → (name, d) ∈ laid →
    ∃ g t cs fuel p, P.globalNamed name = some g ∧ (P.globals[g]?).map (·.type) = some t ∧ w.var? P name = some cs ∧ DataW.trod (fun _ => ()) P w 0 (fun _ => true) false fuel t cs.toList = some (d, p)
  | [], _, _, hm => by cases hm
  | (n, e) :: r, ps, h, hm => by
    obtain ⟨g, t, cs, fuel, p, q, h1, h2, h3, h4, h5, _⟩ := h
    rcases List.mem_cons.1 hm with hm | hm
    · injection hm with e1 e2
      subst e1; subst e2
      exact ⟨g, t, cs, fuel, p, h1, h2, h3, h4⟩
    · exact laid_at r q h5 hm
/-- The table of texts as a row lists it. -/
def strData {H : Type} (ss : List Str) : DataW H := .agg (ss.map fun s => .lit (.string s))
theorem cells_of_strs {H : Type} {enc : TypeId × Value → H} {P : Program} {w : World} {base : Nat} {sp : Nat → Bool} {held : Bool} {fuel : Nat} {t e : TypeId} {n : Nat} {cs : List Value} {zs : List Str} {p : List MemPlace}
    (ht : P.underlying t = some (.array n e)) (he : P.underlying e = some .string) (hce : P.cellsOf e = 1) (hct : P.cellsOf t = n)
    (h : DataW.trod enc P w base sp held fuel t cs = some (strData zs, p)) : cs = zs.map vstr := by
  obtain ⟨xs, m, _, hx, hl, hlen, hf⟩ := DataW.trod_array ht h
  have hxs : xs.map (·.1) = zs.map fun z => (DataW.lit (.string z) : DataW H) := by
    have := congrArg Prod.fst hx
    simpa [strData] using this.symm
  have hzl : zs.length = n := by
    have := congrArg List.length hxs
    simp at this
    omega
  apply List.ext_getElem?
  intro i
  by_cases hi : i < n
  · have h1 := hf i hi
    rw [hce] at h1
    have h2 : xs[i]? = some xs[i] := List.getElem?_eq_getElem (by omega)
    rw [h2] at h1
    obtain ⟨s, hc, e1, _⟩ := DataW.trod_string he h1
    have h3 : cs[i]? = some (.string s) := by
      have := congrArg (·[0]?) hc
      simpa [List.getElem?_take, List.getElem?_drop] using this
    have h4 : (xs.map (·.1))[i]? = some (DataW.lit (.string s.data.toList) : DataW H) := by
      rw [List.getElem?_map, h2, e1]; rfl
    rw [hxs] at h4
    simp only [List.getElem?_map, Option.map_eq_some_iff, DataW.lit.injEq, Lit.string.injEq] at h4
    obtain ⟨z', hz', rfl⟩ := h4
    rw [h3, List.getElem?_map, hz']
    rfl
  · rw [List.getElem?_eq_none (by omega), List.getElem?_eq_none (by simp; omega)]
theorem gv_strs {P : Program} {w : World} {laid : List (String × DataW Unit)} {name : String} {g : Nat} {t e : TypeId} {n : Nat} {ss : List Str} (hL : laidMet P laid w) (hm : (name, strData ss) ∈ laid) (hg : P.globalNamed name = some g) (hty : (P.globals[g]?).map (·.type) = some t) (ht : P.underlying t = some (.array n e)) (he : P.underlying e = some .string) (hce : P.cellsOf e = 1) (hct : P.cellsOf t = n) : GV g (ss.map vstr) w := by
  obtain ⟨ps, hv, _⟩ := hL
  obtain ⟨g', t', cs, fuel, p, hg', ht', hvar, hd⟩ := laid_at _ _ hv hm
  obtain rfl := Option.some.inj (hg.symm.trans hg')
  obtain rfl := Option.some.inj (hty.symm.trans ht')
  exact var_gv hg hvar (cells_of_strs ht he hce hct hd)
theorem gv_ints {P : Program} {w : World} {laid : List (String × DataW Unit)} {name : String} {g : Nat} {t e : TypeId} {n : Nat} {k : IntKind} {zs : List Int} (hL : laidMet P laid w) (hm : (name, Lib.tabData k zs) ∈ laid) (hg : P.globalNamed name = some g) (hty : (P.globals[g]?).map (·.type) = some t) (ht : P.underlying t = some (.array n e)) (he : P.underlying e = some (.int k)) (hce : P.cellsOf e = 1) (hct : P.cellsOf t = n) : GV g (zs.map fun z => Value.int k z) w := by
  obtain ⟨ps, hv, _⟩ := hL
  obtain ⟨g', t', cs, fuel, p, hg', ht', hvar, hd⟩ := laid_at _ _ hv hm
  obtain rfl := Option.some.inj (hg.symm.trans hg')
  obtain rfl := Option.some.inj (hty.symm.trans ht')
  exact var_gv hg hvar (Lib.cells_of_tab ht he hce hct hd)
def pow10V : List Value := Lib.pow10Tab.map fun z => Value.int .u64 z
/-- The contract of a function that answers, and grows the heap alone. -/
theorem Ret.of_grow {P : Program} {f : FuncId} {args : Array Value} {w : World} {v : Value} (h : Calls P f args w fun e w' => e = .returned v ∧ ∃ k os, w' = Sort.grow (w.drewN k) os) : Ret P f args w fun v' w' => v' = v ∧ Keep w w' := by
  refine Calls.mono h fun e w' ⟨e1, k, os, e2⟩ => ⟨v, e1, rfl, ?_⟩
  subst e2
  refine ⟨rfl, rfl, rfl, ?_, fun i hi => ?_⟩
  · show w.heap.size ≤ (w.heap ++ os).size
    rw [Array.size_append]; omega
  · show (w.heap ++ os)[i]? = w.heap[i]?
    rw [Array.getElem?_append_left hi]
section
variable {P : Program} {n : Nat} {w0 : World} {M : List Nat} {Q : Exit → Go.Act → World → Prop} {F : List (Nat × Value)} {L : List Res}
theorem sub_have {d : Nat} {z : Value} (hz : lk d F = some z) : Sub F ((d, z) :: F) := by
  intro k v hk
  simp only [lk] at hk
  cases e : Nat.beq k d with
  | true =>
    have e' : k = d := Nat.eq_of_beq_eq_true e
    subst e'
    rw [e] at hk
    rw [hz]; exact hk
  | false => rw [e] at hk; exact hk
theorem sub_mid {d t : Nat} {z u : Value} (ht : lk t F = none) : Sub ((d, z) :: (t, u) :: F) ((d, z) :: F) := by
  intro k v hk
  simp only [lk] at hk ⊢
  cases e : Nat.beq k d with
  | true => rw [e] at hk; exact hk
  | false =>
    rw [e] at hk
    cases e2 : Nat.beq k t with
    | true =>
      have e' : k = t := Nat.eq_of_beq_eq_true e2
      subst e'
      have hk' : lk k F = some v := hk
      rw [ht] at hk'; cases hk'
    | false => exact hk
/-- 'if c { d = v }': the slot holds the one or the other. -/
theorem G_set1 {α : Type} (f : α → Value) {d id : Nat} {c v : Operand} {T : TypeId} {pos : String} {aft : Array Edge} {b : Bool} {s1 s0 s : α} (hc : ev F c = some (.bool b)) (hd : Nat.blt d n = true) (hv : ev F v = some (f s1)) (hz : lk d F = some (f s0)) (hs : (if b = true then s1 else s0) = s)
    (k : GQ n w0 M Q .normal ((d, f s) :: F) L) : G P n w0 M (.cond c (.region id [⟨some d, .assign v, T, pos, aft, none⟩].toArray false) .skip) Q F L := by
  refine G_cond hc (fun h => ?_) (fun h => ?_)
  · rw [h, if_pos rfl] at hs
    subst hs
    refine G_region (GL_step hd (PS_assign hv) (GL_nil k))
  · rw [h, if_neg (by decide)] at hs
    subst hs
    exact G_skip fun a w hF hS => k a w (hF.sub (sub_have hz)) hS
theorem G_set2 {α : Type} (f : α → Value) {d t id : Nat} {c v : Operand} {T T' : TypeId} {pos pos' : String} {aft aft' : Array Edge} {b : Bool} {s1 s0 s : α} (hc : ev F c = some (.bool b)) (hd : Nat.blt d n = true) (htn : Nat.blt t n = true) (ht : lk t F = none) (hv : ev F v = some (f s1)) (hz : lk d F = some (f s0)) (hs : (if b = true then s1 else s0) = s)
    (k : GQ n w0 M Q .normal ((d, f s) :: F) L) : G P n w0 M (.cond c (.region id [⟨some t, .move v, T, pos, aft, none⟩, ⟨some d, .assign (.tmp t), T', pos', aft', none⟩].toArray false) .skip) Q F L := by
  refine G_cond hc (fun h => ?_) (fun h => ?_)
  · rw [h, if_pos rfl] at hs
    subst hs
    refine G_region (GL_step htn (PS_move hv) (GL_step hd (PS_assign (by simp [ev, lk])) (GL_nil fun a w hF hS => k a w (hF.sub (sub_mid ht)) hS)))
  · rw [h, if_neg (by decide)] at hs
    subst hs
    exact G_skip fun a w hF hS => k a w (hF.sub (sub_have hz)) hS
end
section
open Go.RowKit Go.ChangeShapes Go.WideShapes Go.ChangeAt
variable {H : Type} {enc : TypeId × Value → H} {P : Program} {w : World}
/-- A text within a struct that came in, as a part of its reading. -/
theorem str_field {t T : TypeId} {fs : Array Field} {i o : Nat} {v : Value} {d : DataW H} {p : List MemPlace} {s : Str} (hu : P.underlying t = some (.struct fs)) (hfi : (fs[i]?).map (fun f => (f.type, f.offset)) = some (T, o)) (hT : P.underlying T = some .string) (hz : P.cellsOf T = 1)
    (hd : DataW.Trod enc P w 0 (fun _ => true) true t v d p) (hh : (v.cells.toList.drop o).take 1 = [vstr s]) : ∃ parts, d = .agg parts ∧ DataW.lit (.string s) ∈ parts := by
  obtain ⟨fuel, hf⟩ := hd
  obtain ⟨xs, n, _, hx, hl, hlen, hfl⟩ := DataW.trod_struct hu hf
  cases hfi' : fs[i]? with
  | none => rw [hfi'] at hfi; cases hfi
  | some f =>
    rw [hfi'] at hfi
    simp at hfi
    obtain ⟨rfl, rfl⟩ := hfi
    have h1 := hfl i f hfi'
    have hi : i < fs.size := by
      rcases Nat.lt_or_ge i fs.size with h' | h'
      · exact h'
      · rw [Array.getElem?_eq_none h'] at hfi'; cases hfi'
    have h2 : xs[i]? = some xs[i] := List.getElem?_eq_getElem (by omega)
    rw [h2, hz, hh] at h1
    obtain ⟨s', e1, e2, _⟩ := DataW.trod_string hT h1
    have hs' : s'.data.toList = s := by
      have e3 : vstr s = .string s' := by simpa using e1
      simp [vstr] at e3
      rw [← e3]
    refine ⟨xs.map (·.1), congrArg Prod.fst hx, List.mem_map.2 ⟨xs[i], List.getElem_mem _, ?_⟩⟩
    rw [e2, hs']
end
end Go.Ing
/- What is told of an event: plain functions. -/
namespace Go.Ing
open Go
namespace Land
def verbs : List Str := [[110, 111, 114, 116, 104], [101, 97, 115, 116], [117, 112], [115, 111, 117, 116, 104], [119, 101, 115, 116], [100, 111, 119, 110], [108, 111, 111, 107], [103, 101, 116], [100, 114, 111, 112], [112, 117, 116], [103, 105, 118, 101], [115, 97, 121], [111, 112, 101, 110], [99, 108, 111, 115, 101], [108, 105, 103, 104, 116], [100, 111, 117, 115, 101], [119, 101, 97, 114], [100, 111, 102, 102], [104, 105, 116], [105, 110, 118, 101, 110, 116, 111, 114, 121], [113, 117, 105, 116]]
def verbsV : List Value := verbs.map vstr
theorem verbs_at {d : Int} (h0 : 0 ≤ d) (h6 : d < 6) : verbsV[0 + d.toNat * 1]? = some (vstr (verbs.getD d.toNat [])) := by
  have : d = 0 ∨ d = 1 ∨ d = 2 ∨ d = 3 ∨ d = 4 ∨ d = 5 := by omega
  rcases this with rfl | rfl | rfl | rfl | rfl | rfl <;> rfl
def called (d : Int) : Str := if (decide (d < 0) || decide (6 ≤ d)) = true then [] else verbs.getD d.toNat []
theorem calledR {d : Int} (h : (decide (0 ≤ d) && decide (d < 6)) = false) : called d = [] := if_pos (by simp at h ⊢; omega)
theorem calledT {d : Int} (h : (decide (0 ≤ d) && decide (d < 6)) = true) : called d = verbs.getD d.toNat [] := if_neg (by simp at h ⊢; omega)
theorem called_len (d : Int) : (called d).length ≤ 20 := by
  unfold called
  split
  · simp
  · rename_i h
    have : d = 0 ∨ d = 1 ∨ d = 2 ∨ d = 3 ∨ d = 4 ∨ d = 5 := by simp at h; omega
    rcases this with rfl | rfl | rfl | rfl | rfl | rfl <;> decide
def form (z : Int) : Str × Str :=
  if decide (z = 1) = true then ([89, 111, 117, 32, 103, 111, 32, 68, 46], [65, 32, 103, 111, 101, 115, 32, 68, 46])
  else if decide (z = 2) = true then ([], [65, 32, 99, 111, 109, 101, 115, 32, 102, 114, 111, 109, 32, 68, 46])
  else if decide (z = 3) = true then ([89, 111, 117, 32, 103, 101, 116, 32, 116, 104, 101, 32, 84, 46], [65, 32, 103, 101, 116, 115, 32, 97, 32, 84, 46])
  else if decide (z = 4) = true then ([89, 111, 117, 32, 100, 114, 111, 112, 32, 116, 104, 101, 32, 84, 46], [65, 32, 100, 114, 111, 112, 115, 32, 97, 32, 84, 46])
  else if decide (z = 5) = true then ([89, 111, 117, 32, 112, 117, 116, 32, 116, 104, 101, 32, 84, 32, 105, 110, 116, 111, 32, 116, 104, 101, 32, 88, 46], [65, 32, 112, 117, 116, 115, 32, 97, 32, 84, 32, 105, 110, 116, 111, 32, 97, 32, 88, 46])
  else if decide (z = 6) = true then ([89, 111, 117, 32, 103, 105, 118, 101, 32, 116, 104, 101, 32, 84, 32, 116, 111, 32, 79, 46], [65, 32, 103, 105, 118, 101, 115, 32, 97, 32, 84, 32, 116, 111, 32, 79, 46])
  else if decide (z = 7) = true then ([89, 111, 117, 32, 115, 97, 121, 58, 32, 88], [65, 32, 115, 97, 121, 115, 58, 32, 88])
  else if decide (z = 8) = true then ([89, 111, 117, 32, 111, 112, 101, 110, 32, 116, 104, 101, 32, 84, 46], [65, 32, 111, 112, 101, 110, 115, 32, 97, 32, 84, 46])
  else if decide (z = 9) = true then ([89, 111, 117, 32, 99, 108, 111, 115, 101, 32, 116, 104, 101, 32, 84, 46], [65, 32, 99, 108, 111, 115, 101, 115, 32, 97, 32, 84, 46])
  else if decide (z = 10) = true then ([89, 111, 117, 32, 108, 105, 103, 104, 116, 32, 116, 104, 101, 32, 84, 46], [65, 32, 108, 105, 103, 104, 116, 115, 32, 97, 32, 84, 46])
  else if decide (z = 11) = true then ([89, 111, 117, 32, 100, 111, 117, 115, 101, 32, 116, 104, 101, 32, 84, 46], [65, 32, 100, 111, 117, 115, 101, 115, 32, 97, 32, 84, 46])
  else if decide (z = 12) = true then ([89, 111, 117, 32, 112, 117, 116, 32, 111, 110, 32, 116, 104, 101, 32, 84, 46], [65, 32, 112, 117, 116, 115, 32, 111, 110, 32, 97, 32, 84, 46])
  else if decide (z = 13) = true then ([89, 111, 117, 32, 116, 97, 107, 101, 32, 111, 102, 102, 32, 116, 104, 101, 32, 84, 46], [65, 32, 116, 97, 107, 101, 115, 32, 111, 102, 102, 32, 97, 32, 84, 46])
  else if decide (z = 14) = true then ([89, 111, 117, 32, 104, 105, 116, 32, 79, 32, 102, 111, 114, 32, 78, 46], [65, 32, 104, 105, 116, 115, 32, 79, 32, 102, 111, 114, 32, 78, 46])
  else if decide (z = 15) = true then ([89, 111, 117, 32, 100, 105, 101, 46], [65, 32, 100, 105, 101, 115, 46])
  else if decide (z = 16) = true then ([88], [])
  else if decide (z = 17) = true then ([66, 101, 32, 119, 101, 108, 99, 111, 109, 101, 46], [65, 32, 97, 114, 114, 105, 118, 101, 115, 46])
  else if decide (z = 18) = true then ([], [65, 32, 102, 97, 100, 101, 115, 46])
  else ([], [])
theorem form_out {z : Int} (h : ¬ (1 ≤ z ∧ z ≤ 18)) : form z = ([], []) := by
  unfold form
  rw [if_neg (show ¬ decide (z = 1) = true by simp; omega)]
  rw [if_neg (show ¬ decide (z = 2) = true by simp; omega)]
  rw [if_neg (show ¬ decide (z = 3) = true by simp; omega)]
  rw [if_neg (show ¬ decide (z = 4) = true by simp; omega)]
  rw [if_neg (show ¬ decide (z = 5) = true by simp; omega)]
  rw [if_neg (show ¬ decide (z = 6) = true by simp; omega)]
  rw [if_neg (show ¬ decide (z = 7) = true by simp; omega)]
  rw [if_neg (show ¬ decide (z = 8) = true by simp; omega)]
  rw [if_neg (show ¬ decide (z = 9) = true by simp; omega)]
  rw [if_neg (show ¬ decide (z = 10) = true by simp; omega)]
  rw [if_neg (show ¬ decide (z = 11) = true by simp; omega)]
  rw [if_neg (show ¬ decide (z = 12) = true by simp; omega)]
  rw [if_neg (show ¬ decide (z = 13) = true by simp; omega)]
  rw [if_neg (show ¬ decide (z = 14) = true by simp; omega)]
  rw [if_neg (show ¬ decide (z = 15) = true by simp; omega)]
  rw [if_neg (show ¬ decide (z = 16) = true by simp; omega)]
  rw [if_neg (show ¬ decide (z = 17) = true by simp; omega)]
  rw [if_neg (show ¬ decide (z = 18) = true by simp; omega)]
theorem form_cases {P : Str × Str → Prop} (h0 : P ([], [])) (h1 : P (form 1)) (h2 : P (form 2)) (h3 : P (form 3)) (h4 : P (form 4)) (h5 : P (form 5)) (h6 : P (form 6)) (h7 : P (form 7)) (h8 : P (form 8)) (h9 : P (form 9)) (h10 : P (form 10)) (h11 : P (form 11)) (h12 : P (form 12)) (h13 : P (form 13)) (h14 : P (form 14)) (h15 : P (form 15)) (h16 : P (form 16)) (h17 : P (form 17)) (h18 : P (form 18)) (z : Int) : P (form z) := by
  by_cases h : 1 ≤ z ∧ z ≤ 18
  · have : z = 1 ∨ z = 2 ∨ z = 3 ∨ z = 4 ∨ z = 5 ∨ z = 6 ∨ z = 7 ∨ z = 8 ∨ z = 9 ∨ z = 10 ∨ z = 11 ∨ z = 12 ∨ z = 13 ∨ z = 14 ∨ z = 15 ∨ z = 16 ∨ z = 17 ∨ z = 18 := by omega
    rcases this with rfl | rfl | rfl | rfl | rfl | rfl | rfl | rfl | rfl | rfl | rfl | rfl | rfl | rfl | rfl | rfl | rfl | rfl
    all_goals assumption
  · rw [form_out h]; exact h0
theorem form_len (z : Int) : (form z).1.length ≤ 30 ∧ (form z).2.length ≤ 30 :=
  form_cases (P := fun x => x.1.length ≤ 30 ∧ x.2.length ≤ 30) (by decide) (by decide) (by decide) (by decide) (by decide) (by decide) (by decide) (by decide) (by decide) (by decide) (by decide) (by decide) (by decide) (by decide) (by decide) (by decide) (by decide) (by decide) (by decide) z
/-- 'x & k' as the model has it. -/
def band (x k : Int) : Int := IntKind.i64.wrap ((BitVec.ofInt IntKind.i64.bits x &&& BitVec.ofInt IntKind.i64.bits k).toNat : Int)
def someone : Str := [115, 111, 109, 101, 111, 110, 101]
def you : Str := [121, 111, 117]
def single (t : Str) (i : Int) : Bool := (decide (i = 0) || decide (((t.getD (i - 1).toNat 0).toNat : Int) = 32)) && (decide (i + 1 = (t.length : Int)) || decide (((t.getD (i + 1).toNat 0).toNat : Int) = 32) || decide (((t.getD (i + 1).toNat 0).toNat : Int) = 46))
def piece (e : Event) (who whom t : Str) (i : Int) : Str :=
  if (!single t i) = true then [t.getD i.toNat 0]
  else if decide (((t.getD i.toNat 0).toNat : Int) = 65) = true then who
  else if decide (((t.getD i.toNat 0).toNat : Int) = 79) = true then whom
  else if decide (((t.getD i.toNat 0).toNat : Int) = 84) = true then e.thing
  else if decide (((t.getD i.toNat 0).toNat : Int) = 68) = true then called e.dir
  else if decide (((t.getD i.toNat 0).toNat : Int) = 88) = true then e.text
  else if decide (((t.getD i.toNat 0).toNat : Int) = 78) = true then Lib.itoa e.n
  else [t.getD i.toNat 0]
def told (e : Event) (who whom t : Str) : Nat → Str
  | 0 => []
  | k + 1 => told e who whom t k ++ piece e who whom t k
theorem told_next {e : Event} {who whom t : Str} {k : Int} (h : 0 ≤ k) : told e who whom t (k + 1).toNat = told e who whom t k.toNat ++ piece e who whom t k := by
  obtain ⟨m, rfl⟩ := Int.eq_ofNat_of_zero_le h
  rfl
def textOf (e : Event) (b : Int) : Str := if decide (b = e.actor) = true then (form e.kind).1 else (form e.kind).2
def whoOf (e : Event) (b : Int) : Str := if (!decide (band (e.by_.at b) 2 = 0)) = true then someone else e.who
def whomA (e : Event) (b : Int) : Str := if (!decide (band (e.by_.at b) 4 = 0)) = true then someone else e.whom
def whomOf (e : Event) (b : Int) : Str := if decide (b = e.other) = true then you else whomA e b
def tell (e : Event) (b : Int) : Str × Bool :=
  if (decide (b < 0) || decide (6 ≤ b) || decide (band (e.by_.at b) 1 = 0)) = true then ([], false)
  else if decide (textOf e b = []) = true then ([], false)
  else (told e (whoOf e b) (whomOf e b) (textOf e b) (textOf e b).length, true)
/-- The sizes of what may be said. -/
structure Small (e : Event) : Prop where
  who : e.who.length ≤ 2000000
  whom : e.whom.length ≤ 2000000
  thing : e.thing.length ≤ 2000000
  text : e.text.length ≤ 2000000
  n0 : -9223372036854775808 ≤ e.n
  n1 : e.n ≤ 9223372036854775807
theorem textOf_len (e : Event) (b : Int) : (textOf e b).length ≤ 30 := by
  unfold textOf; split; exact (form_len _).1; exact (form_len _).2
theorem whoOf_len {e : Event} (h : Small e) (b : Int) : (whoOf e b).length ≤ 2000000 := by
  unfold whoOf; split; decide; exact h.who
theorem whomOf_len {e : Event} (h : Small e) (b : Int) : (whomOf e b).length ≤ 2000000 := by
  unfold whomOf whomA; split; decide; split; decide; exact h.whom
theorem piece_len {e : Event} (h : Small e) {who whom : Str} (h1 : who.length ≤ 2000000) (h2 : whom.length ≤ 2000000) (t : Str) (i : Int) : (piece e who whom t i).length ≤ 2000000 := by
  have h3 := h.thing; have h4 := h.text; have h5 := called_len e.dir; have h6 := Lib.itoa_length_le e.n h.n0 h.n1
  unfold piece
  repeat' split
  all_goals first | omega | (simp only [List.length_cons, List.length_nil]; omega)
theorem told_len {e : Event} (h : Small e) {who whom : Str} (h1 : who.length ≤ 2000000) (h2 : whom.length ≤ 2000000) (t : Str) : ∀ n, (told e who whom t n).length ≤ n * 2000000
  | 0 => by simp [told]
  | n + 1 => by
    have := told_len h h1 h2 t n
    have := piece_len h h1 h2 t n
    simp only [told, List.length_append]; omega
end Land
end Go.Ing
/- Engine: slices that are made, and written element by element. -/
namespace Go.Ing
open Go
theorem splice_one {C cs : List Value} {o i : Nat} {v : Value} (hc : (C.drop o).take cs.length = cs) (hl : o + cs.length ≤ C.length) (hi : i < cs.length) : ((splice C (o + i) [v]).drop o).take (cs.set i v).length = cs.set i v := by
  apply List.ext_getElem?
  intro j
  rw [List.getElem?_take, List.getElem?_drop, splice_get (by simp; omega), List.length_set]
  by_cases h1 : j < cs.length
  · rw [if_pos h1, List.getElem?_set]
    by_cases h2 : i = j
    · subst h2
      rw [if_neg (by omega), if_pos (by simp), if_pos rfl, if_pos hi]
      simp
    · rw [if_neg h2]
      have h3 : cs[j]? = C[o + j]? := by
        conv => lhs; rw [← hc]
        rw [List.getElem?_take, if_pos h1, List.getElem?_drop]
      rw [h3]
      split
      · rfl
      · split
        · rename_i h4 h5; exfalso; simp at h5; omega
        · rfl
  · rw [if_neg h1, List.getElem?_eq_none (by simp; omega)]
section
variable {P : Program} {n : Nat} {w0 : World} {M : List Nat} {Q : Exit → Go.Act → World → Prop} {F F' : List (Nat × Value)} {L L' : List Res} {ops : Array Oper} {rest : List Oper}
theorem PU_stS {T U E i : Nat} {h : Hd} {cs : List Value} {x y : Operand} {v : Value} (hx : ev F x = some (h.ptr i 1 0)) (hy : ev F y = some v) (hv : v.cells = [v].toArray) (h1 : v.oneCell' = true) (hT : Sz P T 1) (hi : i < cs.length) (hL : Upd L (Res.own h E 1 cs) (Res.own h E 1 (cs.set i v)) L') : PU P n w0 M (.store T x y) U F L L' := by
  intro a w hF hS
  rcases hS.ok _ hL.mem with ⟨_, rfl⟩ | ⟨b, o, C, fz, e1, e2, e3, e4, e5, e6, e7, e8⟩
  · simp at hi
  · have hlen : o + cs.length ≤ C.length := by have := Nat.mul_le_mul_right 1 e6; omega
    obtain ⟨w', s1, s2, s3, s4, s5, s6, s7⟩ := storeCells_fz (P := P) (o := o + i) [v] w C 0 e3 (fun u hu => by simp at hu; subst hu; exact h1) (by simp; omega) e4
    refine ⟨w', ?_, hS.turn hL s5 s6 s7 (by omega) (fun k _ hk => s3 k (by simpa [Res.own, e1] using hk)) ?_ ?_⟩
    · rw [Hd.ptr_of e1] at hx
      simp only [Nat.mul_one, Nat.add_zero] at hx
      simp only [execOp, hF.ev hx, hF.ev hy, Instr.storeAt, Instr.sureAddr, storeVar, hv]
      simp [hT w, s1]
    · refine .inr ⟨b, o, splice C (o + i) [v], fz, e1, by omega, by simpa using s2, ?_, ?_, e6, ?_, ?_⟩
      · rw [splice_length (by simp; omega)]; exact e4
      · rw [splice_length (by simp; omega)]; exact e5
      · rw [List.length_set]; exact e7
      · exact splice_one e8 hlen hi
    · intro k hk
      simp [Res.own, e1] at hk
      subst hk
      exact ⟨by omega, .inl (by simp [Res.own, e1])⟩
theorem map_of_flat {α : Type} {e : α → List Value} {f : α → Value} (he : ∀ x, e x = [f x]) : ∀ xs : List α, xs.flatMap e = xs.map f
  | [] => rfl
  | x :: r => by rw [List.flatMap_cons, he, map_of_flat he r]; rfl
theorem flat_set {α : Type} {e : α → List Value} {f : α → Value} (he : ∀ x, e x = [f x]) (xs : List α) (i : Nat) (x : α) : (xs.flatMap e).set i (f x) = (xs.set i x).flatMap e := by
  rw [map_of_flat he, map_of_flat he, List.map_set]
theorem PU_stStr {T U E i : Nat} {h : Hd} {xs : List Str} {s : Str} {x y : Operand} (hx : ev F x = some (h.ptr i 1 0)) (hy : ev F y = some (vstr s)) (hT : Sz P T 1) (hi : i < xs.length) (hL : Upd L (Res.own h E 1 (xs.flatMap encS)) (Res.own h E 1 ((xs.set i s).flatMap encS)) L') : PU P n w0 M (.store T x y) U F L L' :=
  PU_stS (cs := xs.flatMap encS) hx hy rfl rfl hT (by rw [map_of_flat (e := encS) (f := vstr) (fun _ => rfl), List.length_map]; exact hi) (by rw [flat_set (e := encS) (f := vstr) (fun _ => rfl)]; exact hL)
theorem PU_stY {T U E i : Nat} {h : Hd} {xs : Str} {z : Int} {x y : Operand} (hx : ev F x = some (h.ptr i 1 0)) (hy : ev F y = some (.int .u8 z)) (hz : 0 ≤ z ∧ z ≤ 255) (hT : Sz P T 1) (hi : i < xs.length) (hL : Upd L (Res.own h E 1 (xs.flatMap encY)) (Res.own h E 1 ((xs.set i (u8 z)).flatMap encY)) L') : PU P n w0 M (.store T x y) U F L L' :=
  PU_stS (cs := xs.flatMap encY) hx hy rfl rfl hT (by rw [encY_map, List.length_map]; exact hi) (by
    have := flat_set (e := encY) (f := fun c => .int .u8 (c.toNat : Int)) (fun _ => rfl) xs i (u8 z)
    rw [u8_val hz.1 hz.2] at this
    rw [this]; exact hL)
theorem GL_mkStrs {d : Nat} {t E : TypeId} {T : TypeId} {pos : String} {aft : Array Edge} {x y : Operand} {m : Int} (hd : Nat.blt d n = true) (hu : P.underlying t = some (.slice E)) (hs : Sz P E 1) (hz : ZV P E (.string ⟨#[]⟩)) (hb : BY P E 16) (hx : ev F x = some (.int .i64 m)) (hy : ev F y = some (.int .i64 m)) (h0 : 0 ≤ m) (hm : m ≤ 17592186044416)
    (k : ∀ b : Nat, GL P n w0 M ops Q rest ((d, Hd.val ⟨some ⟨b, 0, none⟩, m.toNat, m.toNat⟩) :: F) (Res.own ⟨some ⟨b, 0, none⟩, m.toNat, m.toNat⟩ E 1 ((List.replicate m.toNat ([] : Str)).flatMap encS) :: L)) : GL P n w0 M ops Q (⟨some d, .makeSlice t x y, T, pos, aft, none⟩ :: rest) F L := by
  refine GL_new (R := fun v L' => ∃ b : Nat, v = Hd.val ⟨some ⟨b, 0, none⟩, m.toNat, m.toNat⟩ ∧ L' = Res.own ⟨some ⟨b, 0, none⟩, m.toNat, m.toNat⟩ E 1 ((List.replicate m.toNat ([] : Str)).flatMap encS) :: L) hd ?_ (fun v L' ⟨b, e1, e2⟩ => by subst e1; subst e2; exact k b)
  intro a w hF hS
  obtain ⟨N, rfl⟩ := Int.eq_ofNat_of_zero_le h0
  have hN : N ≤ 17592186044416 := by omega
  obtain ⟨i, hi, hib⟩ := hb
  have hti : ∀ w, (typeInfo E).run P w = .ok i w := fun w => by simp [typeInfo, hi]
  let C : List Value := (List.replicate N ([] : Str)).flatMap encS
  have hC : C = List.replicate N (vstr []) := by
    show (List.replicate N ([] : Str)).flatMap encS = _
    rw [map_of_flat (e := encS) (f := vstr) (fun _ => rfl), List.map_replicate]
  have hCl : C.length = N := by rw [hC]; simp
  have hw1 := hS.alloc E C
  have hS' : St w0 M (w.alloc (.cells C.toArray E)) (Res.own ⟨some ⟨w.heap.size, 0, none⟩, N, N⟩ E 1 C :: L) := by
    refine hw1.turn (.head) rfl rfl rfl (Nat.le_refl _) (fun _ _ _ => rfl) ?_ (fun b hb => ?_)
    · refine .inr ⟨w.heap.size, 0, C, (0, 0), rfl, by simp, ?_, fun _ _ h => by simp at h, ?_, Nat.le_refl _, ?_, ?_⟩
      · have := hw1.ok _ (List.mem_cons_self ..)
        exact this
      · show 0 + N * 1 ≤ _; omega
      · show N * 1 = _; omega
      · show (C.drop 0).take _ = _
        rw [List.drop_zero, List.take_length]
    · simp [Res.own] at hb
      subst hb
      exact ⟨by simp, .inl (by simp [Res.box])⟩
  refine ⟨_, _, _, ⟨w.heap.size, rfl, rfl⟩, ?_, by simpa using hS'⟩
  have hcells : ((Array.range N).map fun j => (#[Value.string ⟨#[]⟩] : Array Value)[j % 1]!) = C.toArray := by
    apply Array.ext'
    rw [hC]
    simp [vstr, Nat.mod_one]
    exact List.eq_replicate_iff.2 ⟨by simp, by simp⟩
  have hwr : IntKind.i64.wrap (N : Int) = N := IntWalk.i64_in _ (by omega)
  have g1 : ¬ (281474976710656 : Int) < 16 * (N : Int) := by omega
  have hx' := hF.ev hx
  have hy' := hF.ev hy
  have hwr0 : IntKind.i64.wrap 0 = 0 := by decide
  by_cases hN0 : N = 0
  · subst hN0
    simp [execOp, hx', hy', Instr.makeSlice, run_underlying hu, hti, hib, hwr0, asInt, asIntOf, hs w, newRow, Hd.val]
    refine congrArg (fun c => w.alloc (Obj.cells c E)) (Array.ext' ?_)
    rw [List.length_eq_zero_iff.1 hCl, Array.toList_map, Array.toList_range]
    rfl
  · have g0 : ¬ (N : Int) < 0 := by omega
    simp [execOp, hx', hy', Instr.makeSlice, run_underlying hu, hti, hib, hwr, g0, g1, asInt, asIntOf, hs w, hN0, hz w, newRow, Hd.val]
    exact congrArg (fun c => w.alloc (Obj.cells c E)) hcells
theorem PS_ldGVA {T U g sz : Nat} {x : Operand} {vs cs : List Value} (hg : GV g vs w0) (e : cs = vs) (hx : ev F x = some (.pointer (some ⟨g, 0, none⟩))) (hT : TyA P T sz) (hl : cs.length = sz) : PS P n w0 [] (.load T x) U F L (.agg cs.toArray) L := by
  intro a w hF hS
  subst e
  obtain ⟨t, fz, hb⟩ := hg.st hS
  refine ⟨w, ?_, rfl, rfl⟩
  simp only [execOp, hF.ev hx, Instr.loadAt, Instr.sureAddr, loadVar]
  simp [hT.1 w, hT.2 w, loadCells_at hb (Nat.le_of_eq (by omega : 0 + sz = cs.length))]
  rw [← hl, List.take_length]
end
end Go.Ing
/- Engine: errors; the numeral that is read. -/
namespace Go.Ing
open Go
/-- Variable g holds some error. -/
def GVE (g : Nat) (w : World) : Prop := ∃ tp p, GV g [.iface tp p] w
theorem GVE.st {g : Nat} {w0 w : World} {L : List Res} (h : GVE g w0) (hS : St w0 [] w L) : GVE g w := by
  obtain ⟨tp, p, h⟩ := h; exact ⟨tp, p, h.st hS⟩
theorem Keep.of_below {w w' : World} (h : RowKit.Below w.heap.size w w') : Keep w w' := ⟨h.os, h.tape, h.output, h.size, h.block⟩
section
variable {P : Program} {n : Nat} {w0 : World} {M : List Nat} {F : List (Nat × Value)} {L : List Res}
theorem PS_neqi_nil {U V T : TypeId} {ms : Array (String × TypeId)} {x : Operand} (hu : P.underlying U = some (.interface ms)) (hx : ev F x = some .nilIface) : PS P n w0 M (.binOp .neq U x (.const .nilIface) V) T F L (.bool false) L := PS_of fun e w hF => by
  have hu' : (underlying U).run P w = .ok (.interface ms) w := by simp [underlying, hu]
  have h : ∀ d : Nat, (Op.equalIn (d + 1) U .nilIface .nilIface).run P w = .ok true w := fun d => by simp [Op.equalIn, hu']
  have h2 : (Op.equal U .nilIface .nilIface).run P w = .ok true w := h _
  have hg : e.eval (.const .nilIface) = .nilIface := rfl
  simp [execOp, hF.ev hx, hg, eqGuard, binOp, h2]
theorem PS_neqi {U V T t : TypeId} {ms : Array (String × TypeId)} {v : Value} {x : Operand} (hu : P.underlying U = some (.interface ms)) (hx : ev F x = some (.iface t v)) : PS P n w0 M (.binOp .neq U x (.const .nilIface) V) T F L (.bool true) L := PS_of fun e w hF => by
  have hu' : (underlying U).run P w = .ok (.interface ms) w := by simp [underlying, hu]
  have h : ∀ d : Nat, (Op.equalIn (d + 1) U (.iface t v) .nilIface).run P w = .ok false w := fun d => by simp [Op.equalIn, hu']
  have h2 : (Op.equal U (.iface t v) .nilIface).run P w = .ok false w := h _
  have hg : e.eval (.const .nilIface) = .nilIface := rfl
  simp [execOp, hF.ev hx, hg, eqGuard, binOp, h2]
end
theorem atoi_ctr {P : Program} {ρ : Shelf.Ren} (L : Proofs.LaysC.n172 P ρ) (s : Str) (hs : s.length ≤ 10000000) {gs gr : Nat} (hgs : P.globalNamed "strconv.ErrSyntax" = some gs) (hgr : P.globalNamed "strconv.ErrRange" = some gr) :
    CtrR P (ρ.f 172) #[vstr s] [] (fun w => GVE gs w ∧ GVE gr w) (fun v B => (∃ k : Int, Lib.atoiAll s = .ok k ∧ v = .tuple #[.int .i64 k, .nilIface] ∧ B = []) ∨ (∃ (k : Int) (t : TypeId) (x : Value), (∀ j, Lib.atoiAll s ≠ .ok j) ∧ v = .tuple #[.int .i64 k, .iface t x] ∧ B = [])) := by
  intro w hS ⟨⟨tp, p, h1⟩, ⟨tq, q, h2⟩⟩
  have v1 := gv_var hgs h1
  have v2 := gv_var hgr h2
  have hsz : (⟨s.toArray⟩ : ByteArray).size = s.length := by simp [ByteArray.size]
  have hl : (⟨s.toArray⟩ : ByteArray).data.toList = s := by simp
  cases h : Lib.atoiAll s
  · rename_i k
    refine Calls.mono (Proofs.Any.strconv_Atoi_ok L ⟨s.toArray⟩ (by omega) k (by rw [hl]; exact h) w) fun e w' ⟨e1, e2⟩ => ⟨_, e1, [], .inl ⟨k, rfl, rfl, rfl⟩, ?_⟩
    rcases e2 with rfl | ⟨t, rfl⟩
    · exact hS
    · exact hS.keep (Keep.of_below (Lib.bytesWorld_below _ _ _))
  · refine Calls.mono (Proofs.Any.strconv_Atoi_syntax_var L ⟨s.toArray⟩ (by omega) (by rw [hl]; exact h) tp p w v1) fun e w' ⟨N, e1, _, _, e2⟩ => ⟨_, e1, [], .inr ⟨_, _, _, (fun (j : Int) hj => by cases hj), rfl, rfl⟩, hS.keep (Keep.of_below e2)⟩
  · refine Calls.mono (Proofs.Any.strconv_Atoi_range_var L ⟨s.toArray⟩ (by omega) (by rw [hl]; exact h) tq q w v2) fun e w' ⟨N, e1, _, _, e2⟩ => ⟨_, e1, [], .inr ⟨_, _, _, (fun (j : Int) hj => by cases hj), rfl, rfl⟩, hS.keep (Keep.of_below e2)⟩
theorem trod_iface {H : Type} {enc : TypeId × Value → H} {P : Program} {w : World} {base : Nat} {sp : Nat → Bool} {held : Bool} {fuel t : Nat} {cs : List Value} {ms : Array (String × TypeId)} {nm : String} {d : DataW H} {p : List MemPlace} (hu : P.underlying t = some (.interface ms)) (h : DataW.trod enc P w base sp held fuel t cs = some (.iface nm d, p)) : ∃ u v, cs = [.iface u v] := by
  cases fuel with
  | zero => simp [DataW.trod] at h
  | succ n =>
    unfold DataW.trod at h
    rw [hu] at h
    split at h <;> simp_all
theorem gve {P : Program} {w : World} {laid : List (String × DataW Unit)} {name : String} {d d' : DataW Unit} {nm : String} {g : Nat} {t : TypeId} {ms : Array (String × TypeId)} (hL : laidMet P laid w) (hm : (name, d) ∈ laid) (hd : d = .iface nm d') (hg : P.globalNamed name = some g) (hty : (P.globals[g]?).map (·.type) = some t) (ht : P.underlying t = some (.interface ms)) : GVE g w := by
  subst hd
  obtain ⟨ps, hv, _⟩ := hL
  obtain ⟨g', t', cs, fuel, p, hg', ht', hvar, h⟩ := laid_at _ _ hv hm
  obtain rfl := Option.some.inj (hg.symm.trans hg')
  obtain rfl := Option.some.inj (hty.symm.trans ht')
  obtain ⟨u, v, e⟩ := trod_iface ht h
  exact ⟨u, v, var_gv hg hvar e⟩
end Go.Ing
/- What people type: plain functions, and what is known of pieces. -/
namespace Go.Ing
open Go
namespace Words
theorem idx_spec (c : UInt8) : ∀ s : Str, (Lib.indexByte s c = -1 ∧ c ∉ s) ∨ ∃ i : Nat, Lib.indexByte s c = i ∧ i < s.length ∧ c ∉ s.take i ∧ s.drop i = c :: s.drop (i + 1)
  | [] => .inl ⟨rfl, by simp⟩
  | b :: r => by
    by_cases h : b = c
    · subst h
      exact .inr ⟨0, by simp [Lib.indexByte], by simp, by simp, by simp⟩
    · have hb : (b == c) = false := by simpa using h
      rcases idx_spec c r with ⟨h1, h2⟩ | ⟨i, h1, h2, h3, h4⟩
      · exact .inl ⟨by simp [Lib.indexByte, hb, h1], by simp [Ne.symm h, h2]⟩
      · refine .inr ⟨i + 1, ?_, by simp; omega, ?_, by simpa using h4⟩
        · have : ((i : Int) == -1) = false := by simp
          simp [Lib.indexByte, hb, h1, this]
        · simp [Ne.symm h, h3]
def pieces (c : UInt8) : Str → List Str
  | [] => [[]]
  | x :: r => if x = c then [] :: pieces c r else (x :: (pieces c r).headD []) :: (pieces c r).tail
theorem pieces_ne (c : UInt8) (s : Str) : pieces c s ≠ [] := by
  cases s with
  | nil => simp [pieces]
  | cons x r => unfold pieces; split <;> simp
theorem pieces_absent {c : UInt8} : ∀ {s : Str}, c ∉ s → pieces c s = [s]
  | [], _ => rfl
  | x :: r, h => by
    simp only [List.mem_cons, not_or] at h
    rw [pieces, if_neg (Ne.symm h.1), pieces_absent h.2]; rfl
theorem pieces_split {c : UInt8} (r : Str) : ∀ {a : Str}, c ∉ a → pieces c (a ++ c :: r) = a :: pieces c r
  | [], _ => by simp [pieces]
  | x :: a, h => by
    simp only [List.mem_cons, not_or] at h
    rw [List.cons_append, pieces, if_neg (Ne.symm h.1), pieces_split r h.2]; rfl
theorem pieces_len (c : UInt8) : ∀ s : Str, (pieces c s).length = s.count c + 1
  | [] => rfl
  | x :: r => by
    unfold pieces
    have ih := pieces_len c r
    have hne := pieces_ne c r
    split
    · rename_i h; simp [h, ih]
    · rename_i h
      have : (x == c) = false := by simpa using h
      rw [List.count_cons, this]
      obtain ⟨p, q, hp⟩ := List.exists_cons_of_ne_nil hne
      rw [hp] at ih ⊢
      simpa using ih
theorem pieces_idx {c : UInt8} {s : Str} {i : Nat} (h3 : c ∉ s.take i) (h4 : s.drop i = c :: s.drop (i + 1)) : pieces c s = s.take i :: pieces c (s.drop (i + 1)) := by
  conv => lhs; rw [← List.take_append_drop i s, h4]
  exact pieces_split _ h3
/-! #### small letters -/
def lowB (c : UInt8) : UInt8 := if (decide (65 ≤ (c.toNat : Int)) && decide ((c.toNat : Int) ≤ 90)) = true then u8 ((c.toNat : Int) + 97 - 65) else c
def low (w : Str) : Str := w.map lowB
def words (s : Str) : List Str := ((pieces 32 s).filter fun w => !decide (w = [])).map low
theorem lowB_up {c : UInt8} (h : (decide (65 ≤ (c.toNat : Int)) && decide ((c.toNat : Int) ≤ 90)) = true) : u8 ((c.toNat : Int) + 97 - 65) = lowB c := (if_pos h).symm
theorem lowB_no {c : UInt8} (h : (decide (65 ≤ (c.toNat : Int)) && decide ((c.toNat : Int) ≤ 90)) = false) : lowB c = c := if_neg (by rw [h]; decide)
/-- The first k are small. -/
def lowK (w : Str) (k : Nat) : Str := (w.take k).map lowB ++ w.drop k
theorem lowK_len (w : Str) (k : Nat) : (lowK w k).length = w.length := by simp [lowK]; omega
theorem lowK_at {w : Str} {k : Int} (h0 : 0 ≤ k) (h1 : k < w.length) : (lowK w k.toNat).getD k.toNat 0 = w.getD k.toNat 0 := by
  have hk : k.toNat < w.length := by omega
  unfold lowK
  rw [List.getD_eq_getElem?_getD, List.getElem?_append_right (by simp; omega)]
  simp [List.getD_eq_getElem?_getD, Nat.min_eq_left (Nat.le_of_lt hk)]
theorem lowK_all (w : Str) : lowK w w.length = low w := by simp [lowK, low]
theorem lowK_set {w : Str} {k : Int} (h0 : 0 ≤ k) (h1 : k < w.length) : (lowK w k.toNat).set k.toNat (lowB (w.getD k.toNat 0)) = lowK w (k + 1).toNat := by
  obtain ⟨n, rfl⟩ := Int.eq_ofNat_of_zero_le h0
  have hn : n < w.length := by omega
  rw [show ((n : Int)).toNat = n by omega, show ((n : Int) + 1).toNat = n + 1 by omega]
  unfold lowK
  rw [List.drop_eq_getElem_cons hn, List.set_append_right _ _ (by simp; omega)]
  simp only [List.length_map, List.length_take, Nat.min_eq_left (Nat.le_of_lt hn), Nat.sub_self, List.set_cons_zero]
  rw [List.take_add_one, List.map_append, List.append_assoc]
  simp [List.getD_eq_getElem?_getD, hn]
theorem lowK_same {w : Str} {k : Int} (h0 : 0 ≤ k) (h1 : k < w.length) (h : lowB (w.getD k.toNat 0) = w.getD k.toNat 0) : lowK w k.toNat = lowK w (k + 1).toNat := by
  rw [← lowK_set h0 h1, h]
  have hk : k.toNat < (lowK w k.toNat).length := by rw [lowK_len]; omega
  have e := lowK_at h0 h1
  rw [← e, List.getD_eq_getElem?_getD, List.getElem?_eq_getElem hk]
  simp
/-- Split, as it goes: i pieces are written, r is left. -/
structure SplI (c : UInt8) (s : Str) (i : Int) (r : Str) (xs : List Str) : Prop where
  i0 : 0 ≤ i
  i1 : i ≤ s.count c
  len : xs.length = s.count c + 1
  eq : pieces c s = xs.take i.toNat ++ pieces c r
  rl : r.length ≤ s.length
theorem SplI.start (c : UInt8) (s : Str) (n : Nat) (hn : n = s.count c + 1) : SplI c s 0 s (List.replicate n []) :=
  ⟨Int.le_refl _, by omega, by simp [hn], by simp, Nat.le_refl _⟩
theorem SplI.left {c : UInt8} {s : Str} {i : Int} {r : Str} {xs : List Str} (h : SplI c s i r xs) : (r.count c : Int) = s.count c - i := by
  have := congrArg List.length h.eq
  rw [List.length_append, pieces_len, pieces_len, List.length_take, h.len] at this
  have h1 := h.i0; have h2 := h.i1
  omega
theorem SplI.next {c : UInt8} {s : Str} {i : Int} {r : Str} {xs : List Str} (h : SplI c s i r xs) {m : Int} (hm : Lib.indexByte r c = m) (h0 : ¬ m < 0) : 0 ≤ m ∧ m < r.length ∧ SplI c s (i + 1) (r.drop (m + 1).toNat) (xs.set i.toNat (r.take m.toNat)) := by
  have hi := h.i0
  rcases idx_spec c r with ⟨e, _⟩ | ⟨j, e, h1, h2, h3⟩
  · omega
  · obtain rfl : m = j := by omega
    have hl := h.left
    have hp := pieces_idx h2 h3
    have hc : (pieces c r).length = (pieces c (r.drop (j + 1))).length + 1 := by rw [hp]; simp
    rw [pieces_len, pieces_len] at hc
    have hx := h.len
    refine ⟨by omega, by omega, by omega, by omega, by simp [hx], ?_, by simp; have := h.rl; omega⟩
    rw [h.eq, hp, show (i + 1).toNat = i.toNat + 1 by omega, show ((j : Int) + 1).toNat = j + 1 by omega, show ((j : Int)).toNat = j by omega, List.take_add_one, List.getElem?_set_self (by omega), List.take_set_of_le (by omega)]
    simp
theorem SplI.done {c : UInt8} {s : Str} {i : Int} {r : Str} {xs : List Str} (h : SplI c s i r xs) (he : ¬ i < (s.count c : Int) ∨ Lib.indexByte r c < 0) : i = s.count c ∧ (xs.set i.toNat r).take (i + 1).toNat = pieces c s := by
  have hi := h.i0; have hi1 := h.i1; have hl := h.left; have hx := h.len
  have hc : c ∉ r := by
    rcases he with he | he
    · intro hm; have := List.count_pos_iff.2 hm; omega
    · rcases idx_spec c r with ⟨_, h2⟩ | ⟨j, e, _⟩
      · exact h2
      · omega
  have h0 : r.count c = 0 := List.count_eq_zero.2 hc
  refine ⟨by omega, ?_⟩
  rw [h.eq, pieces_absent hc, show (i + 1).toNat = i.toNat + 1 by omega, List.take_add_one, List.getElem?_set_self (by omega), List.take_set_of_le (by omega)]
  rfl
theorem pieces_mem_le {c : UInt8} : ∀ {s : Str} {p : Str}, p ∈ pieces c s → p.length ≤ s.length
  | [], p, h => by simp [pieces] at h; simp [h]
  | x :: r, p, h => by
    unfold pieces at h
    obtain ⟨q, t, hq⟩ := List.exists_cons_of_ne_nil (pieces_ne c r)
    have ih := @pieces_mem_le c r
    rw [hq] at h ih
    split at h
    · rcases List.mem_cons.1 h with h | h
      · simp [h]
      · have := ih h; simp; omega
    · simp only [List.headD_cons, List.tail_cons] at h
      rcases List.mem_cons.1 h with h | h
      · have := ih (p := q) (by simp); rw [h]; simp; omega
      · have := ih (p := p) (by simp [h]); simp; omega
theorem pieces_le {c : UInt8} {s : Str} (i : Nat) : ((pieces c s).getD i []).length ≤ s.length := by
  rw [List.getD_eq_getElem?_getD]
  cases h : (pieces c s)[i]? with
  | none => simp
  | some p => exact pieces_mem_le (List.mem_of_getElem? h)
def wordsK (s : Str) (k : Nat) : List Str := (((pieces 32 s).take k).filter fun w => !decide (w = [])).map low
theorem wordsK_all (s : Str) : words s = wordsK s ((pieces 32 s).length : Int).toNat := by
  rw [wordsK, show ((pieces 32 s).length : Int).toNat = (pieces 32 s).length by omega, List.take_length]; rfl
theorem take_step {α : Type} {xs : List α} {d : α} {k : Int} (h0 : 0 ≤ k) (h1 : k < xs.length) : xs.take (k + 1).toNat = xs.take k.toNat ++ [xs.getD k.toNat d] := by
  have hk : k.toNat < xs.length := by omega
  rw [show (k + 1).toNat = k.toNat + 1 by omega, List.take_add_one, List.getD_eq_getElem?_getD, List.getElem?_eq_getElem hk]
  rfl
theorem wordsK_t {s : Str} {k : Int} (h0 : 0 ≤ k) (h1 : k < (pieces 32 s).length) (h : (!decide ((pieces 32 s).getD k.toNat [] = [])) = true) : wordsK s (k + 1).toNat = wordsK s k.toNat ++ [low ((pieces 32 s).getD k.toNat [])] := by
  unfold wordsK
  rw [take_step (d := []) h0 h1, List.filter_append, List.map_append]
  congr 1
  rw [List.filter_cons_of_pos (p := fun w : Str => !decide (w = [])) h]; rfl
theorem wordsK_f {s : Str} {k : Int} (h0 : 0 ≤ k) (h1 : k < (pieces 32 s).length) (h : (!decide ((pieces 32 s).getD k.toNat [] = [])) = false) : wordsK s (k + 1).toNat = wordsK s k.toNat := by
  unfold wordsK
  rw [take_step (d := []) h0 h1, List.filter_append, List.map_append, List.filter_cons_of_neg (p := fun w : Str => !decide (w = [])) (by rw [h]; decide)]
  simp
/-! #### verbs -/
def pre (s p : Str) : Bool := decide ((p.length : Int) ≤ (s.length : Int)) && decide (s.take p.length = p)
/-- The verbs from 21 - n on. -/
def verbF (w : Str) : Nat → Int × Int
  | 0 => (0, 3)
  | n + 1 => if pre (Land.verbs.getD (20 - n) []) w = true then (((20 - n : Nat) : Int), 0) else verbF w n
def verb (w : Str) : Int × Int := if (!decide (w = [])) = true then verbF w 21 else (0, 3)
theorem verbF_step {w : Str} {k : Int} (h0 : 0 ≤ k) (h1 : k < 21) : verbF w (21 - k).toNat = if pre (Land.verbs.getD k.toNat []) w = true then (k, 0) else verbF w (21 - (k + 1)).toNat := by
  rw [show (21 - k).toNat = (21 - (k + 1)).toNat + 1 by omega, verbF, show 20 - (21 - (k + 1)).toNat = k.toNat by omega, show ((k.toNat : Nat) : Int) = k by omega]
/-- All of the verbs, as an array. -/
def verbsA : Vector Str 21 := ⟨Land.verbs.toArray, rfl⟩
theorem verbsA_enc : encA encS verbsA = Land.verbsV := by kernel_rfl
theorem verbsA_at (k : Int) : verbsA.at k = Land.verbs.getD k.toNat [] := rfl
/-! #### cutting and trimming -/
def cutP (s p : Str) : Str × Bool := if (!pre s p) = true then (s, false) else (s.drop p.length, true)
def cut (c : UInt8) (s : Str) : Str × Str × Bool := if decide (0 ≤ Lib.indexByte s c) = true then (s.take (Lib.indexByte s c).toNat, s.drop (Lib.indexByte s c + 1).toNat, true) else (s, [], false)
theorem idx_lt {c : UInt8} {s : Str} (h : 0 ≤ Lib.indexByte s c) : Lib.indexByte s c < s.length := by
  rcases idx_spec c s with ⟨e, _⟩ | ⟨i, e, h1, _⟩ <;> omega
theorem cut_len (c : UInt8) (s : Str) : (cut c s).1.length ≤ s.length ∧ (cut c s).2.1.length ≤ s.length := by
  unfold cut; split <;> simp; omega
def trL (c : UInt8) (s : Str) : Str := s.dropWhile (· == c)
def trR (c : UInt8) (s : Str) : Str := (s.reverse.dropWhile (· == c)).reverse
theorem u8_eq {x c : UInt8} (h : (x.toNat : Int) = (c.toNat : Int)) : x = c := UInt8.toNat_inj.1 (by omega)
theorem trL_t {c : UInt8} {r : Str} (h : (decide ((0 : Int) < (r.length : Int)) && decide (((r.getD (0 : Int).toNat 0).toNat : Int) = (c.toNat : Int))) = true) : trL c r = trL c (r.drop 1) := by
  cases r with
  | nil => simp at h
  | cons x r =>
    simp only [Bool.and_eq_true, decide_eq_true_eq] at h
    have : x = c := u8_eq h.2
    subst this
    simp [trL]
theorem trL_f {c : UInt8} {r : Str} (h : (decide ((0 : Int) < (r.length : Int)) && decide (((r.getD (0 : Int).toNat 0).toNat : Int) = (c.toNat : Int))) = false) : trL c r = r := by
  cases r with
  | nil => rfl
  | cons x r =>
    have hx : (x == c) = false := by
      rw [Bool.eq_false_iff]
      intro e
      have : x = c := by simpa using e
      subst this
      simp at h
    simp [trL, hx]
theorem trR_t {c : UInt8} {r : Str} (h : (decide ((0 : Int) < (r.length : Int)) && decide (((r.getD ((r.length : Int) - 1).toNat 0).toNat : Int) = (c.toNat : Int))) = true) : trR c r = trR c (r.take ((r.length : Int) - 1).toNat) := by
  simp only [Bool.and_eq_true, decide_eq_true_eq] at h
  have hne : r ≠ [] := by rintro rfl; simp at h
  obtain ⟨q, x, rfl⟩ : ∃ q x, r = q ++ [x] := ⟨r.dropLast, r.getLast hne, (List.dropLast_concat_getLast hne).symm⟩
  have e : (((q ++ [x]).length : Int) - 1).toNat = q.length := by simp
  rw [e] at h ⊢
  have : x = c := u8_eq (by simpa [List.getD_eq_getElem?_getD] using h.2)
  subst this
  simp [trR]
theorem trR_f {c : UInt8} {r : Str} (h : (decide ((0 : Int) < (r.length : Int)) && decide (((r.getD ((r.length : Int) - 1).toNat 0).toNat : Int) = (c.toNat : Int))) = false) : trR c r = r := by
  by_cases hne : r = []
  · subst hne; rfl
  · obtain ⟨q, x, rfl⟩ : ∃ q x, r = q ++ [x] := ⟨r.dropLast, r.getLast hne, (List.dropLast_concat_getLast hne).symm⟩
    have e : (((q ++ [x]).length : Int) - 1).toNat = q.length := by simp
    rw [e] at h
    have hx : (x == c) = false := by
      rw [Bool.eq_false_iff]
      intro e
      have : x = c := by simpa using e
      subst this
      simp [List.getD_eq_getElem?_getD] at h
    simp [trR, hx]
theorem trL_len (c : UInt8) (s : Str) : (trL c s).length ≤ s.length := (List.dropWhile_sublist _).length_le
theorem trR_len (c : UInt8) (s : Str) : (trR c s).length ≤ s.length := by
  have := (List.dropWhile_sublist (l := s.reverse) (· == c)).length_le
  simpa [trR] using this
/-! #### the rest of an order -/
def many (z : Int) : Bool := decide (z = 7) || decide (z = 8) || decide (z = 9)
def joins (z : Int) : Str × Bool := if decide (z = 7) = true then ([102, 114, 111, 109], false) else if decide (z = 9) = true then ([105, 110], true) else if decide (z = 10) = true then ([116, 111], true) else ([], false)
def dirF (s : Str) : Nat → Int × Bool
  | 0 => (0, false)
  | n + 1 => if decide (Land.verbs.getD (5 - n) [] = s) = true then (((5 - n : Nat) : Int), true) else dirF s n
def dir (s : Str) : Int × Bool := dirF s 6
theorem dirF_step {s : Str} {k : Int} (h0 : 0 ≤ k) (h1 : k < 6) : dirF s (6 - k).toNat = if decide (Land.verbs.getD k.toNat [] = s) = true then (k, true) else dirF s (6 - (k + 1)).toNat := by
  rw [show (6 - k).toNat = (6 - (k + 1)).toNat + 1 by omega, dirF, show 5 - (6 - (k + 1)).toNat = k.toNat by omega, show ((k.toNat : Nat) : Int) = k by omega]
/-! #### nouns -/
def numN (k rest : Str) : Int × Str × Bool × Int :=
  match Lib.atoiAll k with
  | .ok n => if (decide (n < 1) || decide (99 < n) || decide (((k.getD (0 : Int).toNat 0).toNat : Int) < 49) || decide (57 < ((k.getD (0 : Int).toNat 0).toNat : Int)) || decide (rest = []) || decide (0 ≤ Lib.indexByte rest 46)) = true then (0, [], false, 1) else (n, rest, false, 0)
  | _ => (0, [], false, 1)
theorem numN_ok {k rest : Str} {n : Int} (h : Lib.atoiAll k = .ok n) : numN k rest = if (decide (n < 1) || decide (99 < n) || decide (((k.getD (0 : Int).toNat 0).toNat : Int) < 49) || decide (57 < ((k.getD (0 : Int).toNat 0).toNat : Int)) || decide (rest = []) || decide (0 ≤ Lib.indexByte rest 46)) = true then (0, [], false, 1) else (n, rest, false, 0) := by
  unfold numN; rw [h]
theorem numN_bad {k rest : Str} (h : ∀ j, Lib.atoiAll k ≠ .ok j) : numN k rest = (0, [], false, 1) := by
  unfold numN
  split
  · rename_i n e; exact absurd e (h n)
  · rfl
theorem atoi_pos {k : Str} {n : Int} (h : Lib.atoiAll k = .ok n) : 0 < k.length := by
  cases k with
  | nil => simp [Lib.atoiAll] at h
  | cons x r => simp
def noun (u : Str) : Int × Str × Bool × Int :=
  if decide (u = [97, 108, 108]) = true then (1, [], true, 0)
  else if ((cutP u [97, 108, 108, 46]).2 && !decide ((cutP u [97, 108, 108, 46]).1 = []) && !decide (0 ≤ Lib.indexByte (cutP u [97, 108, 108, 46]).1 46)) = true then (1, (cutP u [97, 108, 108, 46]).1, true, 0)
  else if (!(cut 46 u).2.2) = true then (if decide (u = []) = true then (0, [], false, 1) else (1, u, false, 0))
  else numN (cut 46 u).1 (cut 46 u).2.1
/-! #### orders -/
theorem verbF_rng (u : Str) : ∀ n, n ≤ 21 → 0 ≤ (verbF u n).1 ∧ (verbF u n).1 ≤ 20
  | 0, _ => by simp [verbF]
  | n + 1, h => by
    unfold verbF
    split
    · simp only; omega
    · exact verbF_rng u n (by omega)
theorem verb_rng (u : Str) : 0 ≤ (verb u).1 ∧ (verb u).1 ≤ 20 := by
  unfold verb; split
  · exact verbF_rng u 21 (Nat.le_refl _)
  · simp
def said (s : Str) : Str := trL 32 (trR 32 (cut 32 (trL 32 s)).2.1)
def o0 (v : Int) : Order := { (default : Order) with verb := v }
def parseE (o : Order) (j : Str × Bool) (W : List Str) (m : Nat) : Order × Int :=
  if (decide ((m : Int) = 0) && !j.2) = true then (o, 0)
  else if (!decide ((m : Int) = 1) || decide (j.1 = [])) = true then (default, 1)
  else ({ o with second := W.getD 0 [] }, 0)
def parseJ (o : Order) (j : Str × Bool) (W : List Str) (m : Nat) : Order × Int :=
  if (decide (0 < (m : Int)) && !decide (j.1 = []) && decide (W.getD 0 [] = j.1)) = true then (if decide (((m - 1 : Nat) : Int) = 0) = true then (default, 1) else parseE o j (W.drop 1) (m - 1))
  else parseE o j W m
def parseN (v : Int) (W : List Str) (m : Nat) : Order × Int :=
  if (!decide ((noun (W.getD 0 [])).2.2.2 = 0) || ((noun (W.getD 0 [])).2.2.1 && !many v)) = true then (default, 1)
  else parseJ ⟨v, (noun (W.getD 0 [])).1, (noun (W.getD 0 [])).2.2.1, (noun (W.getD 0 [])).2.1, [], []⟩ (joins v) (W.drop 1) (m - 1)
def parseV (s : Str) (v : Int) (W : List Str) (m : Nat) : Order × Int :=
  if decide (v = 11) = true then (if decide (said s = []) = true then (default, 1) else (⟨v, 0, false, [], [], said s⟩, 0))
  else if (decide (v ≤ 6) || decide (19 ≤ v)) = true then (if decide (0 < (m : Int)) = true then (default, 1) else (o0 v, 0))
  else if decide ((m : Int) = 0) = true then (default, 1)
  else if (decide (v = 12) || decide (v = 13)) = true then
    (if (decide ((verb (W.getD 0 [])).2 = 0) && decide ((verb (W.getD 0 [])).1 < 6) && decide ((m : Int) = 1)) = true then (⟨v, 1, false, Land.verbs.getD (verb (W.getD 0 [])).1.toNat [], [], []⟩, 0) else parseN v W m)
  else parseN v W m
def parse (s : Str) : Order × Int :=
  if decide (((words s).length : Int) = 0) = true then (default, 1)
  else if (!decide ((verb ((words s).getD 0 [])).2 = 0)) = true then (default, (verb ((words s).getD 0 [])).2)
  else parseV s (verb ((words s).getD 0 [])).1 ((words s).drop 1) ((words s).length - 1)
theorem low_len (w : Str) : (low w).length = w.length := by simp [low]
theorem words_le (s : Str) (i : Nat) : ((words s).getD i []).length ≤ s.length := by
  rw [List.getD_eq_getElem?_getD]
  cases h : (words s)[i]? with
  | none => simp
  | some p =>
    have hm := List.mem_of_getElem? h
    unfold words at hm
    obtain ⟨q, hq, rfl⟩ := List.mem_map.1 hm
    rw [Option.getD_some, low_len]
    exact pieces_mem_le (List.mem_filter.1 hq).1
theorem words_le1 (s : Str) (i j : Nat) : (((words s).drop j).getD i []).length ≤ s.length := by
  rw [List.getD_eq_getElem?_getD, List.getElem?_drop, ← List.getD_eq_getElem?_getD]; exact words_le s _
end Words
end Go.Ing
/- What people type: plain laws. -/
namespace Go.Ing
open Go
namespace Words
def chestT : Str := [103, 101, 116, 32, 50, 46, 99, 111, 105, 110, 32, 102, 114, 111, 109, 32, 99, 104, 101, 115, 116]
/-! #### a shorter beginning -/
theorem pre_iff {s p : Str} : pre s p = true ↔ p.length ≤ s.length ∧ s.take p.length = p := by
  simp [pre]
theorem pre_take {s p : Str} (h : pre s p = true) (m : Nat) : pre s (p.take m) = true := by
  obtain ⟨h1, h2⟩ := pre_iff.1 h
  refine pre_iff.2 ⟨by simp; omega, ?_⟩
  rw [List.length_take]
  conv => rhs; rw [← h2]
  rw [List.take_take]
theorem verbF_found (u : Str) : ∀ n, n ≤ 21 → (verbF u n).2 = 0 → ∃ k : Nat, (verbF u n).1 = k ∧ 21 - n ≤ k ∧ k < 21 ∧ pre (Land.verbs.getD k []) u = true
  | 0, _, h => by simp [verbF] at h
  | n + 1, hn, h => by
    unfold verbF at h ⊢
    by_cases hp : pre (Land.verbs.getD (20 - n) []) u = true
    · rw [if_pos hp]; exact ⟨20 - n, rfl, by omega, by omega, hp⟩
    · rw [if_neg hp] at h ⊢
      obtain ⟨k, h1, h2, h3, h4⟩ := verbF_found u n (by omega) h
      exact ⟨k, h1, by omega, h3, h4⟩
theorem verbF_le (u : Str) {k : Nat} (hk : k < 21) (hp : pre (Land.verbs.getD k []) u = true) : ∀ n, n ≤ 21 → 21 - n ≤ k → (verbF u n).2 = 0 ∧ (verbF u n).1 ≤ k
  | 0, _, h => by omega
  | n + 1, hn, h => by
    unfold verbF
    by_cases hq : pre (Land.verbs.getD (20 - n) []) u = true
    · rw [if_pos hq]; exact ⟨rfl, by show ((20 - n : Nat) : Int) ≤ _; omega⟩
    · rw [if_neg hq]
      have : k ≠ 20 - n := by rintro rfl; exact hq hp
      exact verbF_le u hk hp n (by omega) (by omega)
theorem verbs_len {k : Nat} (hk : k < 21) : (Land.verbs.getD k []).length ≤ 9 := by
  have : ∀ j : Fin 21, (Land.verbs.getD j []).length ≤ 9 := by decide
  exact this ⟨k, hk⟩
theorem verb_ok {u : Str} (h : (verb u).2 = 0) : u ≠ [] ∧ ∃ k : Nat, (verb u).1 = k ∧ k < 21 ∧ pre (Land.verbs.getD k []) u = true := by
  unfold verb at h ⊢
  by_cases hu : (!decide (u = [])) = true
  · rw [if_pos hu] at h ⊢
    obtain ⟨k, h1, _, h3, h4⟩ := verbF_found u 21 (Nat.le_refl _) h
    exact ⟨by simpa using hu, k, h1, h3, h4⟩
  · rw [if_neg hu] at h; simp at h
theorem verb_len {u : Str} (h : (verb u).2 = 0) : 0 < u.length ∧ u.length ≤ 9 := by
  obtain ⟨h0, k, _, hk, hp⟩ := verb_ok h
  have := (pre_iff.1 hp).1
  have := verbs_len hk
  exact ⟨List.length_pos_iff.2 h0, by omega⟩
theorem verb_short {u : Str} (h : (verb u).2 = 0) {j : Int} (h0 : 0 ≤ j) (h1 : j < u.length) : (verb (u.take (1 + j).toNat)).2 = 0 ∧ (verb (u.take (1 + j).toNat)).1 ≤ (verb u).1 := by
  obtain ⟨hu, k, e, hk, hp⟩ := verb_ok h
  have hp' := pre_take hp (1 + j).toNat
  have hne : (!decide (u.take (1 + j).toNat = [])) = true := by
    cases u with
    | nil => exact absurd rfl hu
    | cons x r => rw [show (1 + j).toNat = j.toNat + 1 by omega]; simp
  rw [e]
  rw [show verb (u.take (1 + j).toNat) = _ from if_pos hne]
  exact verbF_le _ hk hp' 21 (Nat.le_refl _) (by omega)
theorem verb_no {u : Str} (h : (verb u).2 ≠ 0) : (verb u).1 = 0 := by
  have hF : ∀ n, (verbF u n).2 ≠ 0 → (verbF u n).1 = 0 := by
    intro n
    induction n with
    | zero => intro _; rfl
    | succ n ih =>
      intro h
      unfold verbF at h ⊢
      split at h
      · simp at h
      · rename_i hq; rw [if_neg hq]; exact ih h
  unfold verb at h ⊢
  split at h
  · rename_i hq; rw [if_pos hq]; exact hF _ h
  · rename_i hq; rw [if_neg hq]
/-! #### what is parsed is good -/
theorem words_ne {s : Str} {i : Nat} (h : i < (words s).length) : (words s).getD i [] ≠ [] := by
  have hm : (words s)[i] ∈ words s := List.getElem_mem h
  rw [List.getD_eq_getElem?_getD, List.getElem?_eq_getElem h, Option.getD_some]
  unfold words at hm
  obtain ⟨q, hq, e⟩ := List.mem_map.1 hm
  intro e2
  have e3 : low q = [] := e.trans e2
  have := (List.mem_filter.1 hq).2
  have h0 : q = [] := by
    have := congrArg List.length e3
    rw [low_len] at this
    exact List.length_eq_zero_iff.1 this
  simp [h0] at this
structure GoodO (o : Order) : Prop where
  v0 : 0 ≤ o.verb
  v1 : o.verb ≤ 20
  n0 : 0 ≤ o.nth
  n1 : o.nth ≤ 99
  al : o.all_ = true → o.verb = 7 ∨ o.verb = 8 ∨ o.verb = 9
  tx : o.text ≠ [] ↔ o.verb = 11
  s1 : o.second = [] ∨ o.verb = 7 ∨ o.verb = 9 ∨ o.verb = 10
  s2 : o.second ≠ [] ∨ (o.verb ≠ 9 ∧ o.verb ≠ 10)
/-- What has no second yet. -/
structure HalfO (o : Order) : Prop where
  v0 : 0 ≤ o.verb
  v1 : o.verb ≤ 20
  n0 : 0 ≤ o.nth
  n1 : o.nth ≤ 99
  al : o.all_ = true → o.verb = 7 ∨ o.verb = 8 ∨ o.verb = 9
  tx : o.text = []
  nv : o.verb ≠ 11
  se : o.second = []
/-- Good, or refused. -/
def Fine (r : Order × Int) : Prop := (r.2 = 0 → GoodO r.1) ∧ (r.2 ≠ 0 → r.1 = default)
theorem Fine.bad (e : Int) (he : e ≠ 0) : Fine (default, e) := ⟨fun h => absurd h he, fun _ => rfl⟩
theorem Fine.ok {o : Order} (h : GoodO o) : Fine (o, 0) := ⟨fun _ => h, fun h => absurd rfl h⟩
theorem joins_cases (v : Int) : (joins v).1 = [] ∧ (joins v).2 = false ∧ v ≠ 9 ∧ v ≠ 10 ∨ (joins v).1 ≠ [] ∧ ((v = 7 ∧ (joins v).2 = false) ∨ (v = 9 ∧ (joins v).2 = true) ∨ (v = 10 ∧ (joins v).2 = true)) := by
  unfold joins
  by_cases h7 : v = 7
  · subst h7; right; decide
  · by_cases h9 : v = 9
    · subst h9; right; decide
    · by_cases h10 : v = 10
      · subst h10; right; decide
      · left; simp [h7, h9, h10]
theorem fineE {o : Order} (h : HalfO o) {W : List Str} {m : Nat} (hm : m ≠ 0 → W.getD 0 [] ≠ []) : Fine (parseE o (joins o.verb) W m) := by
  unfold parseE
  have hj := joins_cases o.verb
  split
  · rename_i c
    simp only [Bool.and_eq_true, decide_eq_true_eq, Bool.not_eq_true'] at c
    refine .ok ⟨h.v0, h.v1, h.n0, h.n1, h.al, by simp [h.tx, h.nv], .inl h.se, .inr ?_⟩
    rcases hj with ⟨_, _, a, b⟩ | ⟨_, ⟨a, _⟩ | ⟨_, a⟩ | ⟨_, a⟩⟩
    · exact ⟨a, b⟩
    · omega
    · rw [c.2] at a; cases a
    · rw [c.2] at a; cases a
  · split
    · exact .bad 1 (by decide)
    · rename_i c
      simp only [Bool.or_eq_true, Bool.not_eq_true', decide_eq_false_iff_not, decide_eq_true_eq, not_or, Decidable.not_not] at c
      have hs : W.getD 0 [] ≠ [] := hm (by omega)
      refine .ok ⟨h.v0, h.v1, h.n0, h.n1, h.al, by simp [h.tx, h.nv], .inr ?_, .inl hs⟩
      rcases hj with ⟨a, _⟩ | ⟨_, ⟨a, _⟩ | ⟨a, _⟩ | ⟨a, _⟩⟩
      · exact absurd a c.2
      · exact .inl a
      · exact .inr (.inl a)
      · exact .inr (.inr a)
theorem fineJ {o : Order} (h : HalfO o) {W : List Str} {m : Nat} (hl : m = W.length) (hm : ∀ i, i < W.length → W.getD i [] ≠ []) : Fine (parseJ o (joins o.verb) W m) := by
  unfold parseJ
  split
  · split
    · exact .bad 1 (by decide)
    · refine fineE h fun h0 => ?_
      have := hm 1 (by omega)
      rwa [List.getD_eq_getElem?_getD, List.getElem?_drop, ← List.getD_eq_getElem?_getD]
  · exact fineE h fun h0 => hm 0 (by omega)
theorem numN_fine (k r : Str) : (numN k r).2.2.2 = 0 → 0 ≤ (numN k r).1 ∧ (numN k r).1 ≤ 99 := by
  unfold numN
  split
  · split
    · intro h; simp at h
    · rename_i c
      intro _
      simp only [Bool.or_eq_true, decide_eq_true_eq, not_or] at c
      show 0 ≤ _ ∧ _ ≤ 99
      exact ⟨by simp only; omega, by simp only; omega⟩
  · intro h; simp at h
theorem noun_fine (u : Str) : (noun u).2.2.2 = 0 → 0 ≤ (noun u).1 ∧ (noun u).1 ≤ 99 := by
  unfold noun
  split
  · intro _; simp
  · split
    · intro _; simp
    · split
      · split
        · intro h; simp at h
        · intro _; simp
      · exact numN_fine _ _
theorem fineN {v : Int} (h0 : 0 ≤ v) (h1 : v ≤ 20) (hv : v ≠ 11) {W : List Str} {m : Nat} (hl : m = W.length) (hm : ∀ i, i < W.length → W.getD i [] ≠ []) : Fine (parseN v W m) := by
  unfold parseN
  split
  · exact .bad 1 (by decide)
  · rename_i c
    simp only [Bool.or_eq_true, Bool.and_eq_true, Bool.not_eq_true', decide_eq_false_iff_not, not_or, not_and, Decidable.not_not, Bool.not_eq_false] at c
    have hn := noun_fine _ c.1
    refine fineJ (o := ⟨v, _, _, _, [], []⟩) ⟨h0, h1, hn.1, hn.2, fun ha => ?_, rfl, hv, rfl⟩ (by simp [hl]) fun i hi => ?_
    · have := c.2 ha
      unfold many at this
      simp only [Bool.or_eq_true, decide_eq_true_eq] at this
      rcases this with (a | a) | a
      · exact .inl a
      · exact .inr (.inl a)
      · exact .inr (.inr a)
    · rw [List.getD_eq_getElem?_getD, List.getElem?_drop, ← List.getD_eq_getElem?_getD]
      exact hm _ (by simp at hi; omega)
theorem fineV {s : Str} {v : Int} (h0 : 0 ≤ v) (h1 : v ≤ 20) {W : List Str} {m : Nat} (hl : m = W.length) (hm : ∀ i, i < W.length → W.getD i [] ≠ []) : Fine (parseV s v W m) := by
  unfold parseV
  split
  · rename_i c
    have hv : v = 11 := by simpa using c
    split
    · exact .bad 1 (by decide)
    · rename_i c2
      have hs : said s ≠ [] := by simpa using c2
      refine .ok ⟨h0, h1, by simp, by simp, by simp, by simp [hs, hv], .inl rfl, .inr (by simp only; omega)⟩
  · rename_i c
    have hv : v ≠ 11 := by simpa using c
    split
    · rename_i c2
      have hv2 : v ≤ 6 ∨ 19 ≤ v := by simpa using c2
      split
      · exact .bad 1 (by decide)
      · exact .ok (show GoodO (⟨v, 0, false, [], [], []⟩ : Order) from ⟨h0, h1, by simp, by simp, by simp, by simp [hv], .inl rfl, .inr (by simp only; omega)⟩)
    · split
      · exact .bad 1 (by decide)
      · split
        · split
          · rename_i c4 _
            have hv4 : v = 12 ∨ v = 13 := by simpa using c4
            refine .ok ⟨h0, h1, by simp, by simp, by simp, by simp [hv], .inl rfl, .inr (by simp only; omega)⟩
          · exact fineN h0 h1 hv hl hm
        · exact fineN h0 h1 hv hl hm
theorem parse_fine (s : Str) : Fine (parse s) := by
  unfold parse
  split
  · exact .bad 1 (by decide)
  · split
    · rename_i c; exact .bad _ (by simpa using c)
    · have hv := verb_rng ((words s).getD 0 [])
      refine fineV hv.1 hv.2 (by simp) fun i hi => ?_
      rw [List.getD_eq_getElem?_getD, List.getElem?_drop, ← List.getD_eq_getElem?_getD]
      exact words_ne (by simp at hi; omega)
/-! #### spaces ahead and behind -/
theorem pieces_snoc (c : UInt8) : ∀ s : Str, pieces c (s ++ [c]) = pieces c s ++ [[]]
  | [] => by simp [pieces]
  | x :: r => by
    obtain ⟨p, q, hp⟩ := List.exists_cons_of_ne_nil (pieces_ne c r)
    rw [List.cons_append, pieces, pieces, pieces_snoc c r, hp]
    split <;> rfl
theorem words_front : ∀ (g s : Str), (∀ x ∈ g, x = 32) → words (g ++ s) = words s
  | [], s, _ => rfl
  | x :: g, s, h => by
    have hx : x = 32 := h x (by simp)
    subst hx
    have ih := words_front g s fun y hy => h y (by simp [hy])
    rw [← ih]
    unfold words
    rw [List.cons_append, pieces, if_pos rfl]
    rfl
theorem words_back (s : Str) : ∀ (g : Str), (∀ x ∈ g, x = 32) → words (s ++ g) = words s := by
  intro g
  induction g generalizing s with
  | nil => intro _; rw [List.append_nil]
  | cons x g ih =>
    intro h
    have hx : x = 32 := h x (by simp)
    subst hx
    have e : s ++ 32 :: g = (s ++ [32]) ++ g := by simp
    rw [e, ih _ fun y hy => h y (by simp [hy])]
    unfold words
    rw [pieces_snoc, List.filter_append]
    simp
theorem trL_front : ∀ (g s : Str), (∀ x ∈ g, x = 32) → trL 32 (g ++ s) = trL 32 s
  | [], s, _ => rfl
  | x :: g, s, h => by
    have hx : x = 32 := h x (by simp)
    subst hx
    rw [← trL_front g s fun y hy => h y (by simp [hy])]
    simp [trL]
theorem trL_all (g : Str) (h : ∀ x ∈ g, x = 32) : trL 32 g = [] := by
  have := trL_front g [] h
  rw [List.append_nil] at this
  exact this
theorem trR_back (s g : Str) (h : ∀ x ∈ g, x = 32) : trR 32 (s ++ g) = trR 32 s := by
  have := trL_front g.reverse s.reverse fun y hy => h y (List.mem_reverse.1 hy)
  unfold trL at this
  unfold trR
  rw [List.reverse_append, this]
theorem trR_all (g : Str) (h : ∀ x ∈ g, x = 32) : trR 32 g = [] := trR_back [] g h
theorem trL_back : ∀ (s g : Str), (∀ x ∈ g, x = 32) → trL 32 (s ++ g) = if trL 32 s = [] then [] else trL 32 s ++ g
  | [], g, h => by rw [List.nil_append, trL_all g h]; rfl
  | x :: s, g, h => by
    by_cases hx : x = 32
    · subst hx
      have e1 : trL 32 (32 :: (s ++ g)) = trL 32 (s ++ g) := by simp [trL]
      have e2 : trL 32 (32 :: s) = trL 32 s := by simp [trL]
      rw [List.cons_append, e1, e2, trL_back s g h]
    · have hb : (x == 32) = false := by simpa using hx
      simp [trL, hb]
def aft : Str → Str
  | [] => []
  | x :: r => if x = 32 then r else aft r
theorem aft_absent : ∀ {u : Str}, (32 : UInt8) ∉ u → aft u = []
  | [], _ => rfl
  | x :: r, h => by
    simp only [List.mem_cons, not_or] at h
    rw [aft, if_neg (Ne.symm h.1), aft_absent h.2]
theorem aft_split (r : Str) : ∀ {a : Str}, (32 : UInt8) ∉ a → aft (a ++ 32 :: r) = r
  | [], _ => by simp [aft]
  | x :: a, h => by
    simp only [List.mem_cons, not_or] at h
    rw [List.cons_append, aft, if_neg (Ne.symm h.1), aft_split r h.2]
theorem cut_aft (u : Str) : (cut 32 u).2.1 = aft u := by
  rcases idx_spec 32 u with ⟨e, h⟩ | ⟨i, e, h1, h2, h3⟩
  · rw [aft_absent h, cut, if_neg (by simp [e])]
  · rw [cut, if_pos (by simp [e]), e]
    conv => rhs; rw [← List.take_append_drop i u, h3]
    rw [aft_split _ h2]
    rw [show ((i : Int) + 1).toNat = i + 1 by omega]
theorem trR_aft (g : Str) (h : ∀ x ∈ g, x = 32) : ∀ u : Str, trR 32 (aft (u ++ g)) = trR 32 (aft u)
  | [] => by
    rw [List.nil_append]
    cases g with
    | nil => rfl
    | cons x g =>
      obtain rfl : x = 32 := h x (by simp)
      have e : aft (32 :: g) = g := if_pos rfl
      rw [e, trR_all g fun y hy => h y (by simp [hy])]
      rfl
  | x :: u => by
    rw [List.cons_append, aft, aft]
    split
    · exact trR_back u g h
    · exact trR_aft g h u
theorem said_gap (s g : Str) (h : ∀ x ∈ g, x = 32) : said (g ++ s ++ g) = said s := by
  unfold said
  rw [List.append_assoc, trL_front g _ h, trL_back s g h, cut_aft, cut_aft]
  split
  · rename_i e; rw [e]
  · rw [trR_aft g h]
theorem parse_gap (s g : Str) (h : ∀ x ∈ g, x = 32) : parse (g ++ s ++ g) = parse s := by
  have hw : words (g ++ s ++ g) = words s := by rw [words_back _ g h, words_front g s h]
  unfold parse parseV
  rw [hw, said_gap s g h]
theorem all_next {g : Str} {k : Int} (h : ∀ j : Nat, (j : Int) < k → g.getD j 0 = 32) (hk : ((g.getD k.toNat 0).toNat : Int) = 32) : ∀ j : Nat, (j : Int) < k + 1 → g.getD j 0 = 32 := fun j hj => by
  by_cases e : (j : Int) < k
  · exact h j e
  · have : k.toNat = j := by omega
    rw [this] at hk
    exact u8_eq (x := g.getD j 0) (c := 32) hk
theorem all_of {g : Str} {k : Int} (h : ∀ j : Nat, (j : Int) < k → g.getD j 0 = 32) (hk : (g.length : Int) ≤ k) : ∀ x ∈ g, x = 32 := fun x hx => by
  obtain ⟨i, hi, rfl⟩ := List.getElem_of_mem hx
  have := h i (by omega)
  rwa [List.getD_eq_getElem?_getD, List.getElem?_eq_getElem hi] at this
theorem good_a {o : Order} (h : GoodO o) : (decide (o.verb < 0) || decide (20 < o.verb) || decide (o.nth < 0) || decide (99 < o.nth) || (o.all_ && !decide (o.verb = 7) && !decide (o.verb = 8) && !decide (o.verb = 9))) = false := by
  have a0 := h.v0; have a1 := h.v1; have b0 := h.n0; have b1 := h.n1; have al := h.al
  rw [decide_eq_false (by omega : ¬ o.verb < 0), decide_eq_false (by omega : ¬ 20 < o.verb), decide_eq_false (by omega : ¬ o.nth < 0), decide_eq_false (by omega : ¬ 99 < o.nth)]
  cases e : o.all_ with
  | false => rfl
  | true => rcases al e with c | c | c <;> simp [c]
theorem good_b {o : Order} (h : GoodO o) : (((!decide (o.text = [])) == decide (o.verb = 11)) && (decide (o.second = []) || decide (o.verb = 7) || decide (o.verb = 9) || decide (o.verb = 10)) && (!decide (o.second = []) || (!decide (o.verb = 9) && !decide (o.verb = 10)))) = true := by
  have tx := h.tx
  have e1 : (!decide (o.text = [])) = decide (o.verb = 11) := by
    rw [Bool.eq_iff_iff]; simpa using tx
  rw [e1]
  have e2 : (decide (o.second = []) || decide (o.verb = 7) || decide (o.verb = 9) || decide (o.verb = 10)) = true := by
    rcases h.s1 with c | c | c | c <;> simp [c]
  have e3 : (!decide (o.second = []) || (!decide (o.verb = 9) && !decide (o.verb = 10))) = true := by
    rcases h.s2 with c | ⟨c, d⟩
    · simp [c]
    · simp [c, d]
  rw [e2, e3]
  simp
end Words
end Go.Ing
/- Verbs and nouns as the document has them. -/
namespace Go.Ing
open Go
namespace Words
def verbRF (u : Str) : Nat → Int × Int
  | 0 => (0, 3)
  | n + 1 => if (!decide (u = []) && decide ((u.length : Int) ≤ ((Land.verbs.getD (20 - n) []).length : Int)) && decide ((Land.verbs.getD (20 - n) []).take u.length = u)) = true then (((20 - n : Nat) : Int), 0) else verbRF u n
theorem verbRF_step {w : Str} {k : Int} (h0 : 0 ≤ k) (h1 : k < 21) : verbRF w (21 - k).toNat = if (!decide (w = []) && decide ((w.length : Int) ≤ ((Land.verbs.getD k.toNat []).length : Int)) && decide ((Land.verbs.getD k.toNat []).take w.length = w)) = true then (k, 0) else verbRF w (21 - (k + 1)).toNat := by
  rw [show (21 - k).toNat = (21 - (k + 1)).toNat + 1 by omega, verbRF, show 20 - (21 - (k + 1)).toNat = k.toNat by omega, show ((k.toNat : Nat) : Int) = k by omega]
theorem verbRF_eq (u : Str) (h : u ≠ []) : ∀ n, verbRF u n = verbF u n
  | 0 => rfl
  | n + 1 => by
    have e : (!decide (u = [])) = true := by simp [h]
    rw [verbRF, verbF, verbRF_eq u h n, e, Bool.true_and]
    rfl
theorem verbRF_nil : ∀ n, verbRF [] n = (0, 3)
  | 0 => rfl
  | n + 1 => by rw [verbRF, verbRF_nil n]; rfl
theorem verbR_eq (u : Str) : verbRF u 21 = verb u := by
  by_cases h : u = []
  · subst h; rw [verbRF_nil]; rfl
  · rw [verbRF_eq u h, verb, if_pos (by simp [h])]
/-! #### nouns -/
def digBad (i : Int) (c : Int) : Bool := decide (c < 48) || decide (57 < c) || (decide (i = 0) && decide (c = 48)) || decide (1 < i)
def digF (k : Str) : Nat → Int → Option Int
  | 0, n => some n
  | r + 1, n => if digBad ((k.length - (r + 1) : Nat) : Int) ((k.getD (k.length - (r + 1)) 0).toNat : Int) = true then none else digF k r (10 * n + (((k.getD (k.length - (r + 1)) 0).toNat : Int) - 48))
theorem digF_step {k : Str} {i n : Int} (h0 : 0 ≤ i) (h1 : i < k.length) : digF k ((k.length : Int) - i).toNat n = if digBad i ((k.getD i.toNat 0).toNat : Int) = true then none else digF k ((k.length : Int) - (i + 1)).toNat (10 * n + (((k.getD i.toNat 0).toNat : Int) - 48)) := by
  rw [show ((k.length : Int) - i).toNat = ((k.length : Int) - (i + 1)).toNat + 1 by omega, digF, show k.length - (((k.length : Int) - (i + 1)).toNat + 1) = i.toNat by omega, show ((i.toNat : Nat) : Int) = i by omega]
def nounD (k rest : Str) : Int × Str × Bool × Int :=
  match digF k k.length 0 with
  | none => (0, [], false, 1)
  | some n => if decide (n = 0) = true then (0, [], false, 1) else (n, rest, false, 0)
def nounR (u : Str) : Int × Str × Bool × Int :=
  if decide (u = [97, 108, 108]) = true then (1, [], true, 0)
  else if (decide (((pieces 46 u).length : Int) = 1) && !decide (u = [])) = true then (1, u, false, 0)
  else if (!decide (((pieces 46 u).length : Int) = 2) || decide ((pieces 46 u).getD 1 [] = [])) = true then (0, [], false, 1)
  else if decide ((pieces 46 u).getD 0 [] = [97, 108, 108]) = true then (1, (pieces 46 u).getD 1 [], true, 0)
  else nounD ((pieces 46 u).getD 0 []) ((pieces 46 u).getD 1 [])
theorem nounD_none {k r : Str} (h : digF k k.length 0 = none) : nounD k r = (0, [], false, 1) := by unfold nounD; rw [h]
theorem nounD_some {k r : Str} {n : Int} (h : digF k k.length 0 = some n) : nounD k r = if decide (n = 0) = true then (0, [], false, 1) else (n, r, false, 0) := by unfold nounD; rw [h]
/-- What comes of the number, what is behind it being good. -/
def numQ (k r : Str) : Int × Str × Bool × Int :=
  match Lib.atoiAll k with
  | .ok n => if (decide (n < 1) || decide (99 < n) || decide (((k.getD (0 : Int).toNat 0).toNat : Int) < 49) || decide (57 < ((k.getD (0 : Int).toNat 0).toNat : Int))) = true then (0, [], false, 1) else (n, r, false, 0)
  | _ => (0, [], false, 1)
theorem numN_good {k r : Str} (h1 : r ≠ []) (h2 : (46 : UInt8) ∉ r) : numN k r = numQ k r := by
  have e1 : decide (r = []) = false := decide_eq_false h1
  have e2 : decide (0 ≤ Lib.indexByte r 46) = false := by
    rcases idx_spec 46 r with ⟨e, _⟩ | ⟨i, _, hi, _, h4⟩
    · rw [e]; rfl
    · exfalso
      have : (46 : UInt8) ∈ r.drop i := by rw [h4]; simp
      exact h2 (List.mem_of_mem_drop this)
  cases h : Lib.atoiAll k
  · unfold numN numQ; rw [h]; simp only [e1, e2, Bool.or_false]
  · unfold numN numQ; rw [h]
  · unfold numN numQ; rw [h]
theorem numN_poor {k r : Str} (h : r = [] ∨ (46 : UInt8) ∈ r) : numN k r = (0, [], false, 1) := by
  have e : (decide (r = []) || decide (0 ≤ Lib.indexByte r 46)) = true := by
    rcases h with h | h
    · simp [h]
    · rcases idx_spec 46 r with ⟨_, h2⟩ | ⟨i, e, _⟩
      · exact absurd h h2
      · rw [e]; simp
  unfold numN
  split
  · rw [Bool.or_assoc _ (decide (r = [])), e, Bool.or_true]; rfl
  · rfl
theorem uint_ge : ∀ (l : List UInt8) (acc u : Nat), Lib.parseUint10 acc l = .ok u → acc ≤ u
  | [], acc, u, h => by simp only [Lib.parseUint10] at h; injection h with h; omega
  | c :: r, acc, u, h => by
    simp only [Lib.parseUint10] at h
    split at h
    · split at h
      · cases h
      · split at h
        · cases h
        · have := uint_ge r _ u h; omega
    · cases h
theorem uint_ge10 {acc u : Nat} {c : UInt8} {r : List UInt8} (h : Lib.parseUint10 acc (c :: r) = .ok u) : acc * 10 ≤ u := by
  simp only [Lib.parseUint10] at h
  split at h
  · split at h
    · cases h
    · split at h
      · cases h
      · have := uint_ge r _ u h; omega
  · cases h
theorem digit_of {c : UInt8} (h0 : 48 ≤ c.toNat) (h1 : c.toNat ≤ 57) : (((c.toNat - 48 : Nat)) : Int) = (c.toNat : Int) - 48 := by omega
/-- What is signed or begins with no digit or with 0: neither takes it. -/
theorem numQ_eq (k r : Str) : numQ k r = nounD k r := by
  cases k with
  | nil => rfl
  | cons c t =>
    have hd : digF (c :: t) (c :: t).length 0 = if digBad 0 (c.toNat : Int) = true then none else digF (c :: t) t.length (10 * 0 + ((c.toNat : Int) - 48)) := by
      show digF (c :: t) (t.length + 1) 0 = _
      rw [digF, show (c :: t).length - (t.length + 1) = 0 by simp]
      rfl
    by_cases hc : 49 ≤ c.toNat ∧ c.toNat ≤ 57
    · have hb : digBad 0 (c.toNat : Int) = false := by unfold digBad; simp; omega
      rw [hb] at hd
      simp only [Bool.false_eq_true, if_false] at hd
      have hsg : ¬ (c.toNat = 43 ∨ c.toNat = 45) := by omega
      have hn45 : ¬ c.toNat = 45 := by omega
      have hat : Lib.atoiAll (c :: t) = match Lib.parseUint10 (c.toNat - 48) t with
          | .ok u => if 9223372036854775808 ≤ u then .range else .ok (u : Int)
          | .range => .range
          | _ => Lib.atoiAll [] := by
        have e : (if c.toNat = 43 ∨ c.toNat = 45 then t else c :: t) = c :: t := if_neg hsg
        have hm : Lib.parseMag (c :: t) = Lib.parseUint10 (c.toNat - 48) t := by
          unfold Lib.parseMag
          rw [if_neg (by simp), Lib.parseUint10, if_pos (by omega), if_neg (by omega), if_neg (by omega), show 0 * 10 + (c.toNat - 48) = c.toNat - 48 by omega]
        unfold Lib.atoiAll
        simp only [e]
        rw [hm]
        cases Lib.parseUint10 (c.toNat - 48) t <;> simp [hn45, Lib.atoiAll]
      cases t with
      | nil =>
        rw [Lib.parseUint10] at hat
        simp only at hat
        rw [if_neg (by omega)] at hat
        have hdf : digF [c] [c].length 0 = some ((c.toNat : Int) - 48) := by rw [hd]; simp [digF]
        rw [nounD_some hdf]
        unfold numQ
        rw [hat, digit_of (by omega) (by omega)]
        simp only
        have e0 : (([c] : Str).getD (0 : Int).toNat 0) = c := rfl
        rw [e0, if_neg (by first | (simp; done) | (simp; omega)), if_neg (by first | (simp; done) | (simp; omega))]
      | cons d t =>
        have hd1 : digF (c :: d :: t) (d :: t).length (10 * 0 + ((c.toNat : Int) - 48)) = if digBad 1 (d.toNat : Int) = true then none else digF (c :: d :: t) t.length (10 * (10 * 0 + ((c.toNat : Int) - 48)) + ((d.toNat : Int) - 48)) := by
          show digF (c :: d :: t) (t.length + 1) _ = _
          rw [digF, show (c :: d :: t).length - (t.length + 1) = 1 by first | (simp; done) | (simp; omega)]
          rfl
        rw [hd1] at hd
        by_cases hdd : 48 ≤ d.toNat ∧ d.toNat ≤ 57
        · have hb1 : digBad 1 (d.toNat : Int) = false := by unfold digBad; simp; omega
          rw [hb1] at hd
          simp only [Bool.false_eq_true, if_false] at hd
          rw [Lib.parseUint10, if_pos hdd, if_neg (by omega), if_neg (by omega)] at hat
          cases t with
          | nil =>
            rw [Lib.parseUint10] at hat
            simp only at hat
            rw [if_neg (by omega)] at hat
            have hdf : digF [c, d] [c, d].length 0 = some (10 * ((c.toNat : Int) - 48) + ((d.toNat : Int) - 48)) := by rw [hd]; simp [digF]
            rw [nounD_some hdf]
            unfold numQ
            rw [hat]
            simp only
            have e0 : (([c, d] : Str).getD (0 : Int).toNat 0) = c := rfl
            have e1 : ((((c.toNat - 48) * 10 + (d.toNat - 48) : Nat)) : Int) = 10 * ((c.toNat : Int) - 48) + ((d.toNat : Int) - 48) := by omega
            rw [e0, e1, if_neg (by first | (simp; done) | (simp; omega)), if_neg (by first | (simp; done) | (simp; omega))]
          | cons e t =>
            have hd2 : digF (c :: d :: e :: t) (e :: t).length (10 * (10 * 0 + ((c.toNat : Int) - 48)) + ((d.toNat : Int) - 48)) = none := by
              show digF (c :: d :: e :: t) (t.length + 1) _ = _
              rw [digF, show (c :: d :: e :: t).length - (t.length + 1) = 2 by first | (simp; done) | (simp; omega), if_pos]
              unfold digBad; simp
            rw [hd2] at hd
            rw [nounD_none hd]
            unfold numQ
            split
            · rename_i n hn
              rw [if_pos]
              have hbig : 99 < n := by
                cases hq : Lib.parseUint10 ((c.toNat - 48) * 10 + (d.toNat - 48)) (e :: t)
                · rename_i u
                  rw [hq] at hat
                  simp only at hat
                  have := uint_ge10 hq
                  split at hat
                  · rw [hat] at hn; cases hn
                  · rw [hat] at hn; injection hn with hn; omega
                · rw [hq] at hat; rw [hat] at hn; cases hn
                · rw [hq] at hat; rw [hat] at hn; cases hn
              simp [hbig]
            · rfl
        · have hb1 : digBad 1 (d.toNat : Int) = true := by
            unfold digBad; simp; omega
          rw [hb1] at hd
          simp only [if_true] at hd
          rw [nounD_none hd]
          rw [Lib.parseUint10, if_neg hdd] at hat
          unfold numQ
          rw [hat]
          rfl
    · have hb : digBad 0 (c.toNat : Int) = true := by unfold digBad; simp; omega
      rw [hb] at hd
      simp only [if_true] at hd
      rw [nounD_none hd]
      unfold numQ
      split
      · rw [if_pos]
        have e0 : ((c :: t : Str).getD (0 : Int).toNat 0) = c := rfl
        rw [e0]
        simp; omega
      · rfl
theorem allP {u : Str} (h : (cutP u [97, 108, 108, 46]).2 = true) : ∃ r, u = [97, 108, 108] ++ 46 :: r ∧ (cutP u [97, 108, 108, 46]).1 = r := by
  unfold cutP at h ⊢
  split at h
  · cases h
  · rename_i hp
    rw [if_neg hp]
    have hp' : pre u [97, 108, 108, 46] = true := by simpa using hp
    obtain ⟨_, h2⟩ := pre_iff.1 hp'
    refine ⟨u.drop 4, ?_, rfl⟩
    conv => lhs; rw [← List.take_append_drop 4 u]
    rw [show u.take 4 = [97, 108, 108, 46] from h2]
    rfl
theorem cutP_all (r : Str) : cutP ([97, 108, 108] ++ 46 :: r) [97, 108, 108, 46] = (r, true) := by
  unfold cutP
  rw [if_neg]
  · rfl
  · simp [pre]; omega
theorem split_uniq {a b r t : Str} (ha : (46 : UInt8) ∉ a) (hb : (46 : UInt8) ∉ b) (h : a ++ 46 :: r = b ++ 46 :: t) : a = b ∧ r = t := by
  have h1 := pieces_split (c := 46) r ha
  rw [h, pieces_split t hb] at h1
  have h2 : b = a := (List.cons.inj h1).1
  subst h2
  exact ⟨rfl, by simpa using h⟩
theorem nounR_eq (u : Str) : nounR u = noun u := by
  by_cases hu : (46 : UInt8) ∈ u
  · obtain ⟨a, r, rfl, ha⟩ : ∃ a r, u = a ++ 46 :: r ∧ (46 : UInt8) ∉ a := by
      rcases idx_spec 46 u with ⟨_, h⟩ | ⟨i, _, _, h2, h3⟩
      · exact absurd hu h
      · exact ⟨u.take i, u.drop (i + 1), by rw [← h3, List.take_append_drop], h2⟩
    have hp := pieces_split (c := 46) r ha
    have hne : ¬ decide (a ++ 46 :: r = [97, 108, 108]) = true := by
      intro e
      have e' : a ++ 46 :: r = [97, 108, 108] := of_decide_eq_true e
      have : (46 : UInt8) ∈ ([97, 108, 108] : Str) := by rw [← e']; simp
      revert this; decide
    have hcut : cut 46 (a ++ 46 :: r) = (a, r, true) := by
      rcases idx_spec 46 (a ++ 46 :: r) with ⟨_, h⟩ | ⟨i, e, h1, h2, h3⟩
      · exact absurd hu h
      · have hs : (a ++ 46 :: r).take i ++ 46 :: (a ++ 46 :: r).drop (i + 1) = a ++ 46 :: r := by rw [← h3, List.take_append_drop]
        obtain ⟨q1, q2⟩ := split_uniq h2 ha hs
        unfold cut
        rw [if_pos (by simp [e]), e, show ((i : Int)).toNat = i by omega, show ((i : Int) + 1).toNat = i + 1 by omega, q1, q2]
    have hl : (pieces 46 r).length ≠ 0 := by have := pieces_len 46 r; omega
    unfold nounR noun
    rw [if_neg hne, if_neg hne, hp, hcut]
    have e1 : ¬ ((decide (((a :: pieces 46 r).length : Int) = 1) && !decide (a ++ 46 :: r = [])) = true) := by simp; omega
    rw [if_neg e1]
    have g1 : (a :: pieces 46 r).getD 1 [] = (pieces 46 r).getD 0 [] := rfl
    have g0 : (a :: pieces 46 r).getD 0 [] = a := rfl
    rw [g1, g0]
    have hno : ¬ ((!(a, r, true).2.2) = true) := by simp
    by_cases hr : r = [] ∨ (46 : UInt8) ∈ r
    · -- poor
      have e2 : (!decide (((a :: pieces 46 r).length : Int) = 2) || decide ((pieces 46 r).getD 0 [] = [])) = true := by
        rcases hr with rfl | hr
        · rfl
        · have hc := List.count_pos_iff.2 hr
          have := pieces_len 46 r
          simp; omega
      rw [if_pos e2]
      have e3 : ¬ (((cutP (a ++ 46 :: r) [97, 108, 108, 46]).2 && !decide ((cutP (a ++ 46 :: r) [97, 108, 108, 46]).1 = []) && !decide (0 ≤ Lib.indexByte (cutP (a ++ 46 :: r) [97, 108, 108, 46]).1 46)) = true) := by
        intro e
        rw [Bool.and_eq_true, Bool.and_eq_true] at e
        obtain ⟨⟨e4, e5⟩, e6⟩ := e
        obtain ⟨t, h1, h2⟩ := allP e4
        obtain ⟨rfl, rfl⟩ := split_uniq ha (by decide) h1
        rw [h2] at e5 e6
        rcases hr with rfl | hr
        · simp at e5
        · rcases idx_spec 46 r with ⟨_, h⟩ | ⟨i, e, _⟩
          · exact h hr
          · rw [e] at e6; simp at e6
      rw [if_neg e3, if_neg hno]
      exact (numN_poor hr).symm
    · -- good
      have hr1 : r ≠ [] := fun h => hr (.inl h)
      have hr2 : (46 : UInt8) ∉ r := fun h => hr (.inr h)
      rw [pieces_absent hr2]
      have g2 : ([r] : List Str).getD 0 [] = r := rfl
      rw [g2]
      have e2 : ¬ ((!decide (((a :: [r] : List Str).length : Int) = 2) || decide (r = [])) = true) := by simp [hr1]
      rw [if_neg e2]
      by_cases haa : a = [97, 108, 108]
      · subst haa
        rw [if_pos (by simp), cutP_all]
        have e4 : ((r, true).2 && !decide ((r, true).1 = []) && !decide (0 ≤ Lib.indexByte (r, true).1 46)) = true := by
          rcases idx_spec 46 r with ⟨e, _⟩ | ⟨i, _, _, _, h3⟩
          · simp [hr1, e]
          · exfalso
            have : (46 : UInt8) ∈ r.drop i := by rw [h3]; simp
            exact hr2 (List.mem_of_mem_drop this)
        rw [if_pos e4]
      · rw [if_neg (by simpa using haa)]
        have e3 : ¬ (((cutP (a ++ 46 :: r) [97, 108, 108, 46]).2 && !decide ((cutP (a ++ 46 :: r) [97, 108, 108, 46]).1 = []) && !decide (0 ≤ Lib.indexByte (cutP (a ++ 46 :: r) [97, 108, 108, 46]).1 46)) = true) := by
          intro e
          rw [Bool.and_eq_true, Bool.and_eq_true] at e
          obtain ⟨t, h1, _⟩ := allP e.1.1
          exact haa (split_uniq ha (by decide) h1).1
        rw [if_neg e3, if_neg hno]
        exact ((numN_good hr1 hr2).trans (numQ_eq a r)).symm
  · have hp := pieces_absent hu
    have hcut : cut 46 u = (u, [], false) := by
      rcases idx_spec 46 u with ⟨e, _⟩ | ⟨i, _, _, _, h3⟩
      · unfold cut; rw [if_neg (by simp [e])]
      · exfalso
        have : (46 : UInt8) ∈ u.drop i := by rw [h3]; simp
        exact hu (List.mem_of_mem_drop this)
    unfold nounR noun
    split
    · rfl
    · rw [hp, hcut]
      have e3 : ¬ (((cutP u [97, 108, 108, 46]).2 && !decide ((cutP u [97, 108, 108, 46]).1 = []) && !decide (0 ≤ Lib.indexByte (cutP u [97, 108, 108, 46]).1 46)) = true) := by
        intro e
        rw [Bool.and_eq_true, Bool.and_eq_true] at e
        obtain ⟨t, h1, _⟩ := allP e.1.1
        exact hu (by rw [h1]; simp)
      by_cases h0 : u = []
      · subst h0; rfl
      · rw [if_pos (by simp [h0]), if_neg e3, if_pos (show (!(u, ([] : Str), false).2.2) = true from rfl), if_neg (by simp [h0])]
end Words
end Go.Ing
/- Orders as the document has them. -/
namespace Go.Ing
open Go
namespace Words
def bigs : Str := [65, 66, 67, 68, 69, 70, 71, 72, 73, 74, 75, 76, 77, 78, 79, 80, 81, 82, 83, 84, 85, 86, 87, 88, 89, 90]
def lowR (c : UInt8) : UInt8 := if decide (0 ≤ Lib.indexByte bigs c) = true then u8 (97 + Lib.indexByte bigs c) else c
theorem lowR_all : ∀ n : Fin 256, lowR (UInt8.ofNat n.val) = lowB (UInt8.ofNat n.val) := by decide +kernel
theorem lowR_eq (c : UInt8) : lowR c = lowB c := by
  have h := lowR_all ⟨c.toNat, c.toNat_lt⟩
  simpa using h
theorem bigs_idx (c : UInt8) : Lib.indexByte bigs c < 26 := by
  rcases idx_spec c bigs with ⟨e, _⟩ | ⟨i, e, h, _⟩
  · omega
  · have : bigs.length = 26 := rfl
    omega
theorem lowR_yes {c : UInt8} (h : decide (0 ≤ Lib.indexByte bigs c) = true) : [Value.int .u8 (97 + Lib.indexByte bigs c)] = [lowR c].flatMap encY := by
  have h0 : 0 ≤ Lib.indexByte bigs c := of_decide_eq_true h
  have h1 := bigs_idx c
  rw [show lowR c = _ from if_pos h]
  simp [encY, u8_val (n := 97 + Lib.indexByte bigs c) (by omega) (by omega)]
theorem lowR_no {c : UInt8} (h : decide (0 ≤ Lib.indexByte bigs c) = false) : [Value.int .u8 (c.toNat : Int)] = [lowR c].flatMap encY := by
  rw [show lowR c = _ from if_neg (by rw [h]; decide)]; rfl
def wstep (x : List Str × Str) (c : UInt8) : List Str × Str := if c = 32 then (if x.2 = [] then x.1 else x.1 ++ [x.2], []) else (x.1, x.2 ++ [lowR c])
def wst (s : Str) : List Str × Str := s.foldl wstep ([], [])
theorem words_fm (s : Str) : words s = ((pieces 32 s).map low).filter fun w => !decide (w = []) := by
  unfold words
  rw [List.filter_map]
  congr 1
  apply List.filter_congr
  intro x _
  have : (low x = []) ↔ (x = []) := by
    rw [← List.length_eq_zero_iff, low_len, List.length_eq_zero_iff]
  simp [this]
theorem wrun : ∀ (s : Str) (l : List Str) (now p : Str) (q : List Str), pieces 32 s = p :: q → ((s ++ [32]).foldl wstep (l, now)).1 = l ++ ((now ++ low p) :: q.map low).filter fun w => !decide (w = [])
  | [], l, now, p, q, h => by
    simp only [pieces, List.cons.injEq] at h
    obtain ⟨rfl, rfl⟩ := h
    by_cases e : now = [] <;> simp [wstep, e, low]
  | x :: r, l, now, p, q, h => by
    obtain ⟨a, b, hr⟩ := List.exists_cons_of_ne_nil (pieces_ne 32 r)
    rw [pieces] at h
    by_cases hx : x = 32
    · rw [if_pos hx, hr, List.cons.injEq] at h
      obtain ⟨rfl, rfl⟩ := h
      subst hx
      rw [List.cons_append, List.foldl_cons, show wstep (l, now) 32 = (if now = [] then l else l ++ [now], []) from if_pos rfl, wrun r _ _ a b hr]
      by_cases e : now = [] <;> simp [e, low]
    · rw [if_neg hx, hr, List.cons.injEq] at h
      obtain ⟨rfl, rfl⟩ := h
      rw [List.cons_append, List.foldl_cons, show wstep (l, now) x = (l, now ++ [lowR x]) from if_neg hx, wrun r _ _ a b hr, lowR_eq]
      simp [low]
theorem wst_words (s : Str) : (wst (s ++ [32])).1 = words s := by
  obtain ⟨p, q, h⟩ := List.exists_cons_of_ne_nil (pieces_ne 32 s)
  unfold wst
  rw [wrun s [] [] p q h, words_fm, h]
  simp
theorem wst_step {t : Str} {k : Int} (h0 : 0 ≤ k) (h1 : k < t.length) : wst (t.take (k + 1).toNat) = wstep (wst (t.take k.toNat)) (t.getD k.toNat 0) := by
  unfold wst
  rw [take_step (d := 0) h0 h1, List.foldl_append]
  rfl
theorem c32 {c : UInt8} (h : decide ((c.toNat : Int) = 32) = true) : c = 32 := u8_eq (c := 32) (of_decide_eq_true h)
theorem n32 {c : UInt8} (h : decide ((c.toNat : Int) = 32) = false) : c ≠ 32 := fun e => by subst e; revert h; decide
/-! #### what is said -/
def dn (s : Str) : Str := s.dropWhile fun c => !(c == 32)
theorem dn_t {r : Str} (h : (decide ((0 : Int) < (r.length : Int)) && !decide (((r.getD (0 : Int).toNat 0).toNat : Int) = 32)) = true) : dn r = dn (r.drop 1) := by
  cases r with
  | nil => simp at h
  | cons x r =>
    have hx : (x == 32) = false := by
      rw [Bool.eq_false_iff]
      intro e
      have e' : x = 32 := by simpa using e
      subst e'
      revert h
      simp
    simp [dn, hx]
theorem dn_f {r : Str} (h : (decide ((0 : Int) < (r.length : Int)) && !decide (((r.getD (0 : Int).toNat 0).toNat : Int) = 32)) = false) : dn r = r := by
  cases r with
  | nil => rfl
  | cons x r =>
    have hx : x = 32 := by
      refine u8_eq (c := 32) ?_
      have h2 : decide ((0 : Int) < ((x :: r : Str).length : Int)) = true := decide_eq_true (by simp)
      rw [h2, Bool.true_and] at h
      simpa using h
    subst hx
    simp [dn]
theorem dn_aft : ∀ u : Str, trL 32 (dn u) = trL 32 (aft u)
  | [] => rfl
  | x :: r => by
    by_cases hx : x = 32
    · subst hx; simp [dn, aft, trL]
    · have hb : (x == 32) = false := by simpa using hx
      have e : dn (x :: r) = dn r := by simp [dn, hb]
      rw [e, aft, if_neg hx, dn_aft r]
theorem trR_cons (c : UInt8) (r : Str) : trR 32 (c :: r) = if trR 32 r = [] then (if c = 32 then [] else [c]) else c :: trR 32 r := by
  unfold trR
  rw [List.reverse_cons, List.dropWhile_append]
  by_cases h : r.reverse.dropWhile (· == 32) = []
  · rw [h]
    by_cases hc : c = 32
    · simp [hc]
    · have hb : (c == 32) = false := by simpa using hc
      simp [hc, hb]
  · have h2 : (r.reverse.dropWhile (· == 32)).isEmpty = false := by simpa using h
    rw [h2]
    simp [h]
theorem tr_comm : ∀ x : Str, trR 32 (trL 32 x) = trL 32 (trR 32 x)
  | [] => rfl
  | c :: r => by
    by_cases hc : c = 32
    · subst hc
      have e1 : trL 32 (32 :: r) = trL 32 r := by simp [trL]
      rw [e1, tr_comm r, trR_cons]
      split
      · rename_i h; rw [h, if_pos rfl]
      · simp [trL]
    · have hb : (c == 32) = false := by simpa using hc
      have e1 : ∀ t, trL 32 (c :: t) = c :: t := fun t => by simp [trL, hb]
      rw [e1, trR_cons]
      split
      · (try rw [if_neg hc]); exact (e1 _).symm
      · exact (e1 _).symm
def saidR (s : Str) : Str := trR 32 (trL 32 (dn (trL 32 s)))
theorem saidR_eq (s : Str) : saidR s = said s := by
  unfold saidR said
  rw [tr_comm, ← tr_comm, dn_aft, cut_aft, tr_comm]
/-! #### orders -/
theorem join_look (v : Int) : (fnd [(7, vstr [102, 114, 111, 109]), (9, vstr [105, 110]), (10, vstr [116, 111])] v).getD (vstr []) = vstr (joins v).1 := by
  unfold joins
  by_cases h7 : v = 7
  · subst h7; rfl
  · by_cases h9 : v = 9
    · subst h9; rfl
    · by_cases h10 : v = 10
      · subst h10; rfl
      · have b7 : (v == 7) = false := by simpa using h7
        have b9 : (v == 9) = false := by simpa using h9
        have b10 : (v == 10) = false := by simpa using h10
        simp [fnd, h7, h9, h10, b7, b9, b10]
def parseER (o : Order) (v : Int) (W : List Str) (m : Nat) : Order × Int :=
  if (decide ((m : Int) = 0) && !decide (v = 9) && !decide (v = 10)) = true then (o, 0)
  else if (!decide ((m : Int) = 1) || decide ((joins v).1 = [])) = true then (default, 1)
  else ({ o with second := W.getD 0 [] }, 0)
def parseJR (o : Order) (v : Int) (W : List Str) (m : Nat) : Order × Int :=
  if (!decide ((joins v).1 = []) && decide (0 < (m : Int)) && decide (W.getD 0 [] = (joins v).1)) = true then (if decide (((m - 1 : Nat) : Int) = 0) = true then (default, 1) else parseER o v (W.drop 1) (m - 1))
  else parseER o v W m
def alone (v : Int) : Bool := decide (v < 7) || decide (18 < v)
def parseR (s : Str) : Order × Int :=
  if decide (((words s).length : Int) = 0) = true then (default, 1)
  else if (!decide ((verb ((words s).getD 0 [])).2 = 0)) = true then (default, (verb ((words s).getD 0 [])).2)
  else if decide ((verb ((words s).getD 0 [])).1 = 11) = true then (if decide (saidR s = []) = true then (default, 1) else (⟨(verb ((words s).getD 0 [])).1, 0, false, [], [], saidR s⟩, 0))
  else if (alone (verb ((words s).getD 0 [])).1 != decide (((words s).length : Int) = 1)) = true then (default, 1)
  else if alone (verb ((words s).getD 0 [])).1 = true then (o0 (verb ((words s).getD 0 [])).1, 0)
  else if ((decide ((verb ((words s).getD 0 [])).1 = 12) || decide ((verb ((words s).getD 0 [])).1 = 13)) && decide (((words s).length : Int) = 2) && decide ((verb ((words s).getD 1 [])).2 = 0) && decide ((verb ((words s).getD 1 [])).1 < 6)) = true then
    (⟨(verb ((words s).getD 0 [])).1, 1, false, Land.verbs.getD (verb ((words s).getD 1 [])).1.toNat [], [], []⟩, 0)
  else if (!decide ((noun ((words s).getD 1 [])).2.2.2 = 0) || ((noun ((words s).getD 1 [])).2.2.1 && !decide ((verb ((words s).getD 0 [])).1 = 7) && !decide ((verb ((words s).getD 0 [])).1 = 8) && !decide ((verb ((words s).getD 0 [])).1 = 9))) = true then (default, 1)
  else parseJR ⟨(verb ((words s).getD 0 [])).1, (noun ((words s).getD 1 [])).1, (noun ((words s).getD 1 [])).2.2.1, (noun ((words s).getD 1 [])).2.1, [], []⟩ (verb ((words s).getD 0 [])).1 ((words s).drop 2) ((words s).length - 2)
theorem joins_two (v : Int) : (joins v).2 = (decide (v = 9) || decide (v = 10)) := by
  unfold joins
  by_cases h7 : v = 7
  · subst h7; rfl
  · by_cases h9 : v = 9
    · subst h9; rfl
    · by_cases h10 : v = 10
      · subst h10; rfl
      · simp [h7, h9, h10]
theorem parseER_eq (o : Order) (v : Int) (W : List Str) (m : Nat) : parseER o v W m = parseE o (joins v) W m := by
  unfold parseER parseE
  rw [joins_two, Bool.and_assoc, show (!decide (v = 9) && !decide (v = 10)) = !(decide (v = 9) || decide (v = 10)) by simp]
theorem parseJR_eq (o : Order) (v : Int) (W : List Str) (m : Nat) : parseJR o v W m = parseJ o (joins v) W m := by
  unfold parseJR parseJ
  rw [parseER_eq, parseER_eq, Bool.and_comm (!decide ((joins v).1 = []))]
theorem parseR_eq (s : Str) : parseR s = parse s := by
  unfold parseR parse
  split
  · rfl
  · rename_i c1
    have hl : (words s).length ≠ 0 := by simpa using c1
    split
    · rfl
    · generalize (verb ((words s).getD 0 [])).1 = v
      unfold parseV
      rw [saidR_eq]
      split
      · rfl
      · rename_i c3
        have hg : ((words s).drop 1).getD 0 [] = (words s).getD 1 [] := by
          rw [List.getD_eq_getElem?_getD, List.getElem?_drop, ← List.getD_eq_getElem?_getD]
        have hal : alone v = (decide (v ≤ 6) || decide (19 ≤ v)) := by
          unfold alone
          rw [show decide (v < 7) = decide (v ≤ 6) from decide_eq_decide.2 ⟨fun _ => by omega, fun _ => by omega⟩, show decide (18 < v) = decide (19 ≤ v) from decide_eq_decide.2 ⟨fun _ => by omega, fun _ => by omega⟩]
        rw [hal, hg]
        cases ha : (decide (v ≤ 6) || decide (19 ≤ v)) with
        | true =>
          by_cases h1 : (words s).length = 1
          · simp [h1]
          · have q0 : decide (((words s).length : Int) = 1) = false := decide_eq_false (by omega)
            have q1 : decide (0 < (((words s).length - 1 : Nat) : Int)) = true := decide_eq_true (by omega)
            rw [q0, q1]
            rfl
        | false =>
          by_cases h1 : (words s).length = 1
          · simp [h1]
          · have h2 : ¬ (words s).length - 1 = 0 := by omega
            have e0 : decide (((words s).length : Int) = 1) = false := decide_eq_false (by omega)
            have e00 : ¬ decide ((((words s).length - 1 : Nat) : Int) = 0) = true := by simp; omega
            rw [e0]
            simp only [bne_self_eq_false, Bool.false_eq_true, if_false]
            rw [if_neg e00]
            have hN : (if (!decide ((noun ((words s).getD 1 [])).2.2.2 = 0) || ((noun ((words s).getD 1 [])).2.2.1 && !decide (v = 7) && !decide (v = 8) && !decide (v = 9))) = true then ((default : Order), (1 : Int))
                else parseJR ⟨v, (noun ((words s).getD 1 [])).1, (noun ((words s).getD 1 [])).2.2.1, (noun ((words s).getD 1 [])).2.1, [], []⟩ v ((words s).drop 2) ((words s).length - 2)) = parseN v ((words s).drop 1) ((words s).length - 1) := by
              unfold parseN
              rw [hg, parseJR_eq, List.drop_drop, show (words s).length - 1 - 1 = (words s).length - 2 by omega]
              have e : ((noun ((words s).getD 1 [])).2.2.1 && !decide (v = 7) && !decide (v = 8) && !decide (v = 9)) = ((noun ((words s).getD 1 [])).2.2.1 && !many v) := by
                unfold many
                cases decide (v = 7) <;> cases decide (v = 8) <;> cases decide (v = 9) <;> simp
              rw [e]
            rw [hN]
            by_cases hd : (decide (v = 12) || decide (v = 13)) = true
            · rw [if_pos hd, hd, Bool.true_and]
              have e2 : decide (((words s).length : Int) = 2) = decide ((((words s).length - 1 : Nat) : Int) = 1) := decide_eq_decide.2 ⟨fun _ => by omega, fun _ => by omega⟩
              rw [e2]
              have e3 : (decide ((((words s).length - 1 : Nat) : Int) = 1) && decide ((verb ((words s).getD 1 [])).2 = 0) && decide ((verb ((words s).getD 1 [])).1 < 6)) = (decide ((verb ((words s).getD 1 [])).2 = 0) && decide ((verb ((words s).getD 1 [])).1 < 6) && decide ((((words s).length - 1 : Nat) : Int) = 1)) := by
                cases decide ((((words s).length - 1 : Nat) : Int) = 1) <;> simp
              rw [e3]
            · rw [if_neg hd]
              have hd' : (decide (v = 12) || decide (v = 13)) = false := by simpa using hd
              rw [hd']
              simp
theorem two_of {v : Int} {n : Nat} (h1 : ((decide (v < 7) || decide (18 < v)) != decide ((n : Int) = 1)) = false) (h2 : (decide (v < 7) || decide (18 < v)) = false) (h0 : ¬ n = 0) : 2 ≤ n := by
  rw [h2] at h1
  have : decide ((n : Int) = 1) = false := by simpa using h1
  have := of_decide_eq_false this
  omega
theorem words_count (s : Str) : (words s).length ≤ s.length + 1 := by
  unfold words
  rw [List.length_map]
  refine Nat.le_trans (List.length_filter_le _ _) ?_
  rw [pieces_len]
  have := List.count_le_length (a := (32 : UInt8)) (l := s)
  omega
end Words
end Go.Ing
