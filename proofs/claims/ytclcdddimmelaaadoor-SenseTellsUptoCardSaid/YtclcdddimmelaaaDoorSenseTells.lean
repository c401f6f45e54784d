/- For every input the law SenseTells returns true. No condition. -/
import Derived.Test.YtclcdddimmelaaaDoorCards
import Derived.Test.YtclcdddimmelaaaDoorTie
import Derived.Deep.DeepHandedRow
import Derived.Test.YtclcdddimmelaaaDoorRows
import Derived.Test.YtclcdddimmelaaaDoorSenseTellsWalks
import Derived.Test.YtclcdddimmelaaaDoorSenseTellsWalks2
import Derived.Test.YtclcdddimmelaaaDoorSenseTellsWalks3
import Derived.Test.YtclcdddimmelaaaDoorEc3
import Derived.Test.YtclcdddimmelaaaDoorSenseTellsPlain
set_option linter.unusedSimpArgs false
set_option linter.unusedVariables false
set_option maxRecDepth 100000
namespace Go.Proofs.YtclcdddimmelaaaDoor
open Go Go.Ing Go.RowKit Go.ChangeShapes Go.WideShapes Go.ChangeAt
theorem own : ownKnob Tryd.prog.godebug = none := by kernel_rfl
theorem laidOut : laidOutB Tryd.prog = true := by kernel_rfl
theorem bulk_one {H : Type} (d : DataW H) : 1 ≤ Rows.uptoBulk d := by
  cases d with
  | lit l => cases l <;> simp [Rows.uptoBulk]
  | nil => simp [Rows.uptoBulk]
  | ptr d => simp [Rows.uptoBulk]
  | slice elems spare => simp [Rows.uptoBulk]
  | agg parts => simp [Rows.uptoBulk]
  | iface t d => simp [Rows.uptoBulk]
  | map entries => simp [Rows.uptoBulk]
  | held h => simp [Rows.uptoBulk]
theorem bulk_part {H : Type} {d : DataW H} {l : List (DataW H)} (h : d ∈ l) : Rows.uptoBulk d ≤ Rows.uptoBulkAll l := by
  induction l with
  | nil => cases h
  | cons x r ih =>
    simp only [Rows.uptoBulkAll]
    cases List.mem_cons.1 h with
    | inl e => subst e; omega
    | inr e => have := ih e; omega
theorem bulk_len {H : Type} (l : List (DataW H)) : l.length ≤ Rows.uptoBulkAll l := by
  induction l with
  | nil => simp [Rows.uptoBulkAll]
  | cons x r ih => have := bulk_one x; simp only [Rows.uptoBulkAll, List.length_cons]; omega
theorem bulk_lit {H : Type} {d : DataW H} {s : Str} (h : ∃ parts, d = .agg parts ∧ DataW.lit (.string s) ∈ parts) : s.length ≤ Rows.uptoBulk d := by
  obtain ⟨parts, rfl, h1⟩ := h
  have h4 := bulk_part h1
  simp only [Rows.uptoBulk] at h4 ⊢
  omega
theorem bulk_str {H : Type} {d : DataW H} {qs : List Str} (h : qs = [] ∨ ∃ parts elems rest, d = .agg parts ∧ DataW.slice elems rest ∈ parts ∧ elems.length = qs.length ∧ ∀ s ∈ qs, DataW.lit (.string s) ∈ elems) : qs.length ≤ Rows.uptoBulk d ∧ ∀ s ∈ qs, s.length ≤ Rows.uptoBulk d := by
  rcases h with rfl | ⟨parts, elems, rest, rfl, h1, h2, h3⟩
  · exact ⟨Nat.zero_le _, fun s hs => by simp at hs⟩
  · have h4 := bulk_part h1
    have h5 := bulk_len elems
    simp only [Rows.uptoBulk] at h4 ⊢
    refine ⟨by omega, fun s hs => ?_⟩
    have h6 := bulk_part (h3 s hs)
    simp only [Rows.uptoBulk] at h6
    omega
theorem ld_laid_internal_strconv_uint64pow10 : (Rows.laid_internal_strconv_uint64pow10 : DataW Unit) = Lib.tabData .u64 Lib.pow10Tab := by kernel_rfl
theorem mem_laid_internal_strconv_uint64pow10 : ("internal/strconv.uint64pow10", (Lib.tabData .u64 Lib.pow10Tab : DataW Unit)) ∈ Rows.senseTellsUptoRow.laid := ld_laid_internal_strconv_uint64pow10 ▸ (.tail _ (.tail _ (.head _)))
theorem ld_laid_inglenook_words_verbs : (Rows.laid_inglenook_words_verbs : DataW Unit) = strData Land.verbs := by kernel_rfl
theorem mem_laid_inglenook_words_verbs : ("inglenook/words.verbs", (strData Land.verbs : DataW Unit)) ∈ Rows.senseTellsUptoRow.laid := ld_laid_inglenook_words_verbs ▸ (.tail _ (.tail _ (.tail _ (.tail _ (.head _)))))
theorem ld_laid_inglenook_inglenookref_verbs : (Rows.laid_inglenook_inglenookref_verbs : DataW Unit) = strData Land.verbs := by kernel_rfl
theorem mem_laid_inglenook_inglenookref_verbs : ("inglenook/inglenookref.verbs", (strData Land.verbs : DataW Unit)) ∈ Rows.senseTellsUptoRow.laid := ld_laid_inglenook_inglenookref_verbs ▸ (.tail _ (.tail _ (.tail _ (.head _))))
theorem dc3 {H : Type} {enc : TypeId × Value → H} {w : World} : Dc H enc Tryd.prog w (encI) wfI 3 := Dc_int Tryd.underlying3
theorem dc9 {H : Type} {enc : TypeId × Value → H} {w : World} : Dc H enc Tryd.prog w (encS) wfS 9 := Dc_string Tryd.underlying9
theorem dc22 {H : Type} {enc : TypeId × Value → H} {w : World} : Dc H enc Tryd.prog w (encA (n := 6) encI) (wfA wfI) 22 := Dc_arr (sz := 1) Tryd.underlying22 (by kernel_rfl) (by kernel_rfl) dc3
theorem dc36 {H : Type} {enc : TypeId × Value → H} {w : World} : Dc H enc Tryd.prog w (Ing.Event.enc) Ing.Event.wf 36 := Ing.Event.dc Tryd.underlying36 (by kernel_rfl) rfl (by kernel_rfl) dc3 rfl (by kernel_rfl) dc3 rfl (by kernel_rfl) dc3 rfl (by kernel_rfl) dc3 rfl (by kernel_rfl) dc3 rfl (by kernel_rfl) dc3 rfl (by kernel_rfl) dc9 rfl (by kernel_rfl) dc9 rfl (by kernel_rfl) dc9 rfl (by kernel_rfl) dc9 rfl (by kernel_rfl) dc22
theorem law_SenseTells_spec (e : Ing.Event) (b : Int) (hs : Land.Small e) (w : World) (gl0 : GV 2 pow10V w) (gl1 : GV 0 Land.verbsV w) (gl2 : GV 1 Land.verbsV w) : Ret Tryd.prog 4 #[.agg e.enc.toArray, .int .i64 b] w fun v w' => v = .bool true ∧ Keep w w' := by
  refine Ret_body [] [] Tryd.func4 rfl rfl rfl (St.start w []) ?_
  refine G_seq ?_
  refine G_region ?_
  refine GL_box rfl rfl rfl (fun b1 => ?_)
  refine GL_step rfl (PS_assign rfl) ?_
  refine GL_nil ?_
  refine GQ_sub (.cons (k := 1) rfl (.cons (k := 2) rfl (.nil _))) ?_
  refine GQ_then ?_
  refine G_seq ?_
  refine G_region ?_
  refine GL_step rfl (PS_loadA rfl tya36 (.head _) (Lens.id Ing.Event.fl.len Ing.Event.fl.one) rfl) ?_
  refine GL_step rfl (PS_move rfl) ?_
  refine GL_pure rfl cf19 (.cons rfl (.cons rfl .nil)) (fun w hS => sense_Tell_spec _ _ (by first | assumption | omega) w (gl0.st hS) (gl1.st hS)) ?_
  refine GL_step rfl (PS_move rfl) ?_
  refine GL_step rfl (PS_extract rfl rfl) ?_
  refine GL_step rfl (PS_extract rfl rfl) ?_
  refine GL_step rfl (PS_assign rfl) ?_
  refine GL_step rfl (PS_assign rfl) ?_
  refine GL_nil ?_
  refine GQ_sub (.cons (k := 1) rfl (.cons (k := 2) rfl (.cons (k := 5) rfl (.cons (k := 6) rfl (.nil _))))) ?_
  refine GQ_then ?_
  refine G_seq ?_
  refine G_region ?_
  refine GL_step rfl (PS_loadA rfl tya36 (.head _) (Lens.id Ing.Event.fl.len Ing.Event.fl.one) rfl) ?_
  refine GL_step rfl (PS_move rfl) ?_
  refine GL_pure rfl cf20 (.cons rfl (.cons rfl .nil)) (fun w hS => ref_TellOf_spec _ _ (by first | assumption | omega) w (gl0.st hS) (gl2.st hS)) ?_
  refine GL_step rfl (PS_move rfl) ?_
  refine GL_step rfl (PS_extract rfl rfl) ?_
  refine GL_step rfl (PS_extract rfl rfl) ?_
  refine GL_step rfl (PS_assign rfl) ?_
  refine GL_step rfl (PS_assign rfl) ?_
  refine GL_nil ?_
  refine GQ_sub (.cons (k := 5) rfl (.cons (k := 6) rfl (.cons (k := 7) rfl (.cons (k := 8) rfl (.nil _))))) ?_
  refine GQ_then ?_
  refine G_seq ?_
  refine G_region ?_
  refine GL_step rfl (PS_move rfl) ?_
  refine GL_step rfl (PS_move rfl) ?_
  refine GL_step rfl (PS_eql_str rfl rfl) ?_
  refine GL_step rfl (PS_move rfl) ?_
  refine GL_gt (t := 24) rfl rfl rfl (fun q => PS_move rfl) ?_
  refine GL_gt (t := 24) rfl rfl rfl (fun q => PS_move rfl) ?_
  refine GL_gt (t := 24) rfl rfl rfl (fun q => PS_eql_bool Tryd.underlying4 (cvE rfl q) (cvE rfl q)) ?_
  refine GL_step rfl (PS_and rfl rfl (fun h => h)) ?_
  refine GL_step rfl (PS_move rfl) ?_
  refine GL_pgt (t := 29) rfl rfl rfl (fun q => PC_of cf18 .nil (fun w hS => law_senses_spec w (gl0.st hS) (gl1.st hS))) ?_
  refine GL_step rfl (PS_and rfl rfl (fun h => h)) ?_
  refine GL_step rfl (PS_assign rfl) ?_
  refine GL_nil ?_
  refine GQ_sub (.cons (k := 4) rfl (.nil _)) ?_
  refine GQ_then ?_
  refine G_ret ?_
  refine GQ_ret rfl (.tmp rfl .nil) ?_
  intro w1 hS; refine ⟨?_, hS.toKeep⟩; exact congrArg Value.bool (by rw [Land.tellR_eq]; simp)
mutual
def cellsD {H : Type} : DataW H → List Value
  | .lit (.int k n) => [.int k n]
  | .lit (.string bs) => [.string ⟨bs.toArray⟩]
  | .lit (.bool b) => [.bool b]
  | .agg ps => cellsDs ps
  | _ => []
def cellsDs {H : Type} : List (DataW H) → List Value
  | [] => []
  | d :: r => cellsD d ++ cellsDs r
end
/-- A world in which the listed variables hold what is listed. -/
noncomputable def laidWorld (os : Os) : World := { World.holding Tryd.prog os ⟨#[], #[], []⟩ with heap := ((((((World.holding Tryd.prog os ⟨#[], #[], []⟩).heap.modify 3 fun o => match o with | .cells _ t frozen => .cells (cellsD (Rows.laid_math_bits_deBruijn32tab : DataW Unit)).toArray t frozen | o => o).modify 4 fun o => match o with | .cells _ t frozen => .cells (cellsD (Rows.laid_math_bits_deBruijn64tab : DataW Unit)).toArray t frozen | o => o).modify 2 fun o => match o with | .cells _ t frozen => .cells (cellsD (Rows.laid_internal_strconv_uint64pow10 : DataW Unit)).toArray t frozen | o => o).modify 1 fun o => match o with | .cells _ t frozen => .cells (cellsD (Rows.laid_inglenook_inglenookref_verbs : DataW Unit)).toArray t frozen | o => o).modify 0 fun o => match o with | .cells _ t frozen => .cells (cellsD (Rows.laid_inglenook_words_verbs : DataW Unit)).toArray t frozen | o => o) }
set_option maxRecDepth 100000 in
theorem laid_met (os : Os) : laidMet Tryd.prog Rows.senseTellsUptoRow.laid ((laidWorld os).forCall (fun _ _ => 0) ⟨#[], #[.agg (Ing.Event.enc (default : Ing.Event)).toArray, .int .i64 0], []⟩).memory :=
  laidMet_of_run' 8 (by kernel_rfl) (by kernel_rfl)
set_option maxRecDepth 100000 in
theorem reads (os : Os) {H : Type} (enc : TypeId × Value → H) : ∃ places, DataW.whole enc Tryd.prog ((laidWorld os).forCall (fun _ _ => 0) ⟨#[], #[.agg (Ing.Event.enc (default : Ing.Event)).toArray, .int .i64 0], []⟩).memory Tryd.f4.params.toList Rows.senseTellsSpec.vars false (#[.agg (Ing.Event.enc (default : Ing.Event)).toArray, .int .i64 0] : Array Value).toList 8 = some ([.agg [.lit (.int .i64 0), .lit (.int .i64 0), .lit (.int .i64 0), .lit (.int .i64 0), .lit (.int .i64 0), .lit (.int .i64 0), .lit (.string []), .lit (.string []), .lit (.string []), .lit (.string []), .agg (List.replicate 6 (.lit (.int .i64 0)))], .lit (.int .i64 0)], [], places) := ⟨[], by kernel_rfl⟩
set_option maxRecDepth 100000 in
theorem senseTells_lifted (os : Os) (started : os.Started) (H : Type) (enc : TypeId × Value → H) (F : Stop.Interp) :
    ReturnsInHanded {} Tryd.checked os 4 .any ((Rows.OpenSpec.upto Rows.senseTellsSpec).preRow enc Tryd.prog Tryd.f4 Rows.senseTellsUptoRow.domain false Rows.senseTellsUptoRow.laid) (((Rows.OpenSpec.upto Rows.senseTellsSpec).at F).post enc Tryd.prog Tryd.f4 false true false false) := by
  obtain ⟨places, hx⟩ := reads os enc
  refine returnsInHanded_of_row (C := Tryd.checked) (s := (Rows.OpenSpec.upto Rows.senseTellsSpec)) own started (by kernel_rfl) Tryd.func4
    (witness_row_at (enc := enc) (C := Tryd.checked) false (laidWorld os) #[.agg (Ing.Event.enc (default : Ing.Event)).toArray, .int .i64 0] rfl (by kernel_rfl) (by kernel_rfl) (by kernel_rfl)
      (OpenSpec.preRow_of_cond 8 hx (by kernel_rfl) (fun k hk => by cases hk; kernel_rfl) (by kernel_rfl) (laid_met os))) ?_
  intro W base args ds gs before hval hW _ hcond hsz hL _ _
  have hu : Rows.uptoBulkAll (ds ++ gs) ≤ 1048576 := of_decide_eq_true (hcond _ rfl)
  refine law_post (B := 4) laidOut (by kernel_rfl) Tryd.underlying4 (by kernel_rfl) rfl (fun ds h => by rw [Tryd.params4] at h; match ds, h with | [d1, d2], _ => rfl) hW ?_
  obtain ⟨p, q, hA, hV, _, _, _⟩ := hW
  rw [Tryd.params4] at hA
  obtain ⟨v0, vs0, d0, ds0, p0, q0, hv0, rfl, rfl, hd0, hA⟩ := trodAll_cons hA
  obtain ⟨v1, vs1, d1, ds1, p1, q1, hv1, rfl, rfl, hd1, hA⟩ := trodAll_cons hA
  obtain ⟨hvn, rfl, rfl⟩ := trodAll_nil hA
  obtain rfl : args = #[v0, v1] := by cases args; simp_all
  obtain ⟨e, rfl, w0⟩ := open_ag (P := Tryd.prog) (t := 36) (by rw [Tryd.underlying36]) (hval 0 _ _ rfl rfl) dc36 hd0
  obtain ⟨b, rfl, rfl, rfl, w1⟩ := open_int Tryd.underlying3 (hval 1 _ _ rfl rfl) hd1
  have w1 := bounds_i64 w1
  simp only [List.cons_append, List.nil_append, Rows.uptoBulkAll, Rows.uptoBulk, Array.length_toList] at hu
  exact law_SenseTells_spec _ _ (by have a6 := bulk_lit (str_field (i := 6) (o := 6) (s := e.who) Tryd.underlying36 rfl Tryd.underlying9 (by kernel_rfl) hd0 rfl); have a7 := bulk_lit (str_field (i := 7) (o := 7) (s := e.whom) Tryd.underlying36 rfl Tryd.underlying9 (by kernel_rfl) hd0 rfl); have a8 := bulk_lit (str_field (i := 8) (o := 8) (s := e.thing) Tryd.underlying36 rfl Tryd.underlying9 (by kernel_rfl) hd0 rfl); have a9 := bulk_lit (str_field (i := 9) (o := 9) (s := e.text) Tryd.underlying36 rfl Tryd.underlying9 (by kernel_rfl) hd0 rfl); exact ⟨by omega, by omega, by omega, by omega, w0.2.2.2.2.2.1.1, w0.2.2.2.2.2.1.2⟩) W (gv_ints hL mem_laid_internal_strconv_uint64pow10 (by kernel_rfl) (by kernel_rfl) Tryd.underlying84 Tryd.underlying77 (by kernel_rfl) (by kernel_rfl)) (gv_strs hL mem_laid_inglenook_words_verbs (by kernel_rfl) (by kernel_rfl) Tryd.underlying70 Tryd.underlying9 (by kernel_rfl) (by kernel_rfl)) (gv_strs hL mem_laid_inglenook_inglenookref_verbs (by kernel_rfl) (by kernel_rfl) Tryd.underlying70 Tryd.underlying9 (by kernel_rfl) (by kernel_rfl))
theorem senseTells_said : Rows.SenseTellsUptoSaid :=
  OpenClaim.holds_of_cond 4 Tryd.f4 rfl rfl rfl rfl rfl rfl rfl ⟨rfl, rfl, rfl, rfl, rfl⟩ rfl rfl rfl rfl rfl (by kernel_rfl) Tryd.func4 (by kernel_rfl)
    (of_decide_eq_true (by kernel_rfl)) (by unfold Func.isWrapper; first | (rw [if_pos (by decide +kernel)]; kernel_rfl) | (rw [if_neg (by decide +kernel)]; exact ⟨rfl, rfl⟩))
    (fun os started H enc _ F => by rw [OpenClaim.pre_eq_preRow]; exact senseTells_lifted os started H enc F)
theorem plainArgs (f : FuncId) (fn : Func) (hf : Tryd.pinned.checked.prog.funcNamed "inglenook/inglenooklaw.SenseTells" = some f) (hfn : Tryd.pinned.checked.prog.funcs[f]? = some fn) :
    false = Tryd.pinned.checked.prog.looks [] ∧ ∀ (j : Nat) t, fn.params[j]? = some t → Tryd.pinned.checked.prog.wantsStandIn t = false := by
  obtain rfl : f = 4 := Option.some.inj ((show Tryd.prog.funcNamed "inglenook/inglenooklaw.SenseTells" = some 4 by kernel_rfl).symm.trans hf) |>.symm
  obtain rfl : fn = Tryd.f4 := (Option.some.inj (Tryd.func4.symm.trans hfn)).symm
  refine ⟨by kernel_rfl, fun j t ht => ?_⟩
  rw [Tryd.params4] at ht
  have hm : t ∈ [36, 3] := by simpa using Array.mem_of_getElem? ht
  have hall : ([36, 3].all fun u => !Tryd.prog.wantsStandIn u) = true := by kernel_rfl
  exact (show Tryd.prog.wantsStandIn t = false by simpa using List.all_eq_true.1 hall t hm)
theorem senseTells_holds : Rows.SenseTellsUptoCardSaid :=
  Claim7.holds_tied_plain_at .later [] _ _ _ _ senseTells_said (fun _ h => by cases h) (by kernel_rfl) (fun _ h => by cases h) senseTellsUpto_row_tie rfl ⟨rfl, rfl⟩ (by kernel_rfl) rfl plainArgs (by kernel_rfl)
end Go.Proofs.YtclcdddimmelaaaDoor
