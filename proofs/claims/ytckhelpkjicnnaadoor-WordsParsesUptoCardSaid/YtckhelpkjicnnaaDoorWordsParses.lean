/- For every input the law WordsParses returns true. No condition. -/
import Derived.Test.YtckhelpkjicnnaaDoorCards
import Derived.Test.YtckhelpkjicnnaaDoorTie
import Derived.Deep.DeepHandedRow
import Derived.Test.YtckhelpkjicnnaaDoorRows
import Derived.Test.YtckhelpkjicnnaaDoorWordsParsesWalks
import Derived.Test.YtckhelpkjicnnaaDoorWordsParsesWalks2
import Derived.Test.YtckhelpkjicnnaaDoorEc3
import Derived.Test.YtckhelpkjicnnaaDoorWa1
set_option linter.unusedSimpArgs false
set_option linter.unusedVariables false
set_option maxRecDepth 100000
namespace Go.Proofs.YtckhelpkjicnnaaDoor
open Go Go.Ing Go.RowKit Go.ChangeShapes Go.WideShapes Go.ChangeAt
theorem own : ownKnob Tryd.prog.godebug = none := by kernel_rfl
theorem laidOut : laidOutB Tryd.prog = true := by kernel_rfl
theorem bulk_one {H : Type} (d : DataW H) : 1 ≤ Rows.uptoBulk d := by
  cases d with
  | lit l => cases l <;> simp [Rows.uptoBulk]
  | nil => simp [Rows.uptoBulk]
  | ptr d => simp [Rows.uptoBulk]
  | slice elems spare => simp [Rows.uptoBulk]
  | agg parts => simp [Rows.uptoBulk]
  | iface t d => simp [Rows.uptoBulk]
  | map entries => simp [Rows.uptoBulk]
  | held h => simp [Rows.uptoBulk]
theorem bulk_part {H : Type} {d : DataW H} {l : List (DataW H)} (h : d ∈ l) : Rows.uptoBulk d ≤ Rows.uptoBulkAll l := by
  induction l with
  | nil => cases h
  | cons x r ih =>
    simp only [Rows.uptoBulkAll]
    cases List.mem_cons.1 h with
    | inl e => subst e; omega
    | inr e => have := ih e; omega
theorem bulk_len {H : Type} (l : List (DataW H)) : l.length ≤ Rows.uptoBulkAll l := by
  induction l with
  | nil => simp [Rows.uptoBulkAll]
  | cons x r ih => have := bulk_one x; simp only [Rows.uptoBulkAll, List.length_cons]; omega
theorem bulk_lit {H : Type} {d : DataW H} {s : Str} (h : ∃ parts, d = .agg parts ∧ DataW.lit (.string s) ∈ parts) : s.length ≤ Rows.uptoBulk d := by
  obtain ⟨parts, rfl, h1⟩ := h
  have h4 := bulk_part h1
  simp only [Rows.uptoBulk] at h4 ⊢
  omega
theorem bulk_str {H : Type} {d : DataW H} {qs : List Str} (h : qs = [] ∨ ∃ parts elems rest, d = .agg parts ∧ DataW.slice elems rest ∈ parts ∧ elems.length = qs.length ∧ ∀ s ∈ qs, DataW.lit (.string s) ∈ elems) : qs.length ≤ Rows.uptoBulk d ∧ ∀ s ∈ qs, s.length ≤ Rows.uptoBulk d := by
  rcases h with rfl | ⟨parts, elems, rest, rfl, h1, h2, h3⟩
  · exact ⟨Nat.zero_le _, fun s hs => by simp at hs⟩
  · have h4 := bulk_part h1
    have h5 := bulk_len elems
    simp only [Rows.uptoBulk] at h4 ⊢
    refine ⟨by omega, fun s hs => ?_⟩
    have h6 := bulk_part (h3 s hs)
    simp only [Rows.uptoBulk] at h6
    omega
theorem ld_laid_inglenook_words_verbs : (Rows.laid_inglenook_words_verbs : DataW Unit) = strData Land.verbs := by kernel_rfl
theorem mem_laid_inglenook_words_verbs : ("inglenook/words.verbs", (strData Land.verbs : DataW Unit)) ∈ Rows.wordsParsesUptoRow.laid := ld_laid_inglenook_words_verbs ▸ (.tail _ (.tail _ (.tail _ (.tail _ (.tail _ (.tail _ (.tail _ (.head _))))))))
theorem mem_laid_strconv_ErrSyntax : ("strconv.ErrSyntax", (Rows.laid_strconv_ErrSyntax : DataW Unit)) ∈ Rows.wordsParsesUptoRow.laid := .tail _ (.tail _ (.tail _ (.tail _ (.tail _ (.head _)))))
theorem mem_laid_strconv_ErrRange : ("strconv.ErrRange", (Rows.laid_strconv_ErrRange : DataW Unit)) ∈ Rows.wordsParsesUptoRow.laid := .tail _ (.tail _ (.tail _ (.tail _ (.head _))))
theorem ld_laid_inglenook_inglenookref_verbs : (Rows.laid_inglenook_inglenookref_verbs : DataW Unit) = strData Land.verbs := by kernel_rfl
theorem mem_laid_inglenook_inglenookref_verbs : ("inglenook/inglenookref.verbs", (strData Land.verbs : DataW Unit)) ∈ Rows.wordsParsesUptoRow.laid := ld_laid_inglenook_inglenookref_verbs ▸ (.tail _ (.tail _ (.tail _ (.tail _ (.tail _ (.tail _ (.head _)))))))

theorem law_WordsParses_spec (s : Str) (hs : s.length ≤ 1048576) (w : World) (gl0 : GV 0 Land.verbsV w) (gl1 : GVE 3 w) (gl2 : GVE 4 w) (gl3 : GV 1 Land.verbsV w) : Ret Tryd.prog 3 #[vstr s] w fun v w' => v = .bool true ∧ Keep w w' := by
  refine Ret_body [] [] Tryd.func3 rfl rfl rfl (St.start w []) ?_
  refine G_seq ?_
  refine G_region ?_
  refine GL_step rfl (PS_assign rfl) ?_
  refine GL_nil ?_
  refine GQ_sub (.cons (k := 0) rfl (.nil _)) ?_
  refine GQ_then ?_
  refine G_seq ?_
  refine G_region ?_
  refine GL_step rfl (PS_move rfl) ?_
  refine GL_pure rfl cf8 (.cons rfl .nil) (fun w hS => words_Parse_spec _ (by omega) w (gl0.st hS) (gl1.st hS) (gl2.st hS)) ?_
  refine GL_step rfl (PS_move rfl) ?_
  refine GL_step rfl (PS_extract rfl rfl) ?_
  refine GL_step rfl (PS_extract rfl rfl) ?_
  refine GL_alloc rfl zv23 rfl (fun b1 => ?_)
  refine GL_unit (PU_store (Lens.id Order.fl.len Order.fl.one) rfl rfl rfl sz23 rfl .head) ?_
  refine GL_step rfl (PS_assign rfl) ?_
  refine GL_nil ?_
  refine GQ_sub (.cons (k := 0) rfl (.cons (k := 3) rfl (.cons (k := 4) rfl (.nil _)))) ?_
  refine GQ_then ?_
  refine G_seq ?_
  refine G_region ?_
  refine GL_step rfl (PS_move rfl) ?_
  refine GL_pure rfl cf9 (.cons rfl .nil) (fun w hS => ref_ParseOrder_spec _ (by omega) w (gl3.st hS)) ?_
  refine GL_step rfl (PS_move rfl) ?_
  refine GL_step rfl (PS_extract rfl rfl) ?_
  refine GL_step rfl (PS_extract rfl rfl) ?_
  refine GL_alloc rfl zv23 rfl (fun b2 => ?_)
  refine GL_unit (PU_store (Lens.id Order.fl.len Order.fl.one) rfl rfl rfl sz23 rfl .head) ?_
  refine GL_step rfl (PS_assign rfl) ?_
  refine GL_nil ?_
  refine GQ_sub (.cons (k := 0) rfl (.cons (k := 3) rfl (.cons (k := 4) rfl (.cons (k := 5) rfl (.cons (k := 6) rfl (.nil _)))))) ?_
  refine GQ_then ?_
  refine G_seq ?_
  refine G_region ?_
  refine GL_step rfl (PS_loadA rfl tya23 (.tail _ (.head _)) (Lens.id Order.fl.len Order.fl.one) rfl) ?_
  refine GL_step rfl (PS_loadA rfl tya23 (.head _) (Lens.id Order.fl.len Order.fl.one) rfl) ?_
  refine GL_step rfl (PS_eql_agg eq23 (by decide) (by kernel_rfl) rfl rfl) ?_
  refine GL_step rfl (PS_move rfl) ?_
  refine GL_gt (t := 20) rfl rfl rfl (fun q => PS_move rfl) ?_
  refine GL_gt (t := 20) rfl rfl rfl (fun q => PS_move rfl) ?_
  refine GL_gt (t := 20) rfl rfl rfl (fun q => PS_eql (cvE rfl q) (cvE rfl q)) ?_
  refine GL_step rfl (PS_and rfl rfl (fun h => h)) ?_
  refine GL_step rfl (PS_move rfl) ?_
  refine GL_gt (t := 25) rfl rfl rfl (fun q => PS_move rfl) ?_
  refine GL_fork 25 rfl (fun c1 => ?_) (fun c1 => ?_)
  · skip
    have c1p := c1
    try simp only [decide_eq_true_eq, decide_eq_false_iff_not, Bool.not_eq_true', Bool.not_eq_false', Bool.or_eq_true, Bool.and_eq_true, Bool.or_eq_false_iff, Bool.and_eq_false_iff, Int.not_lt, Int.not_le] at c1p
    refine GL_callL_g (t := 25) rfl (by first | rfl | exact lkE rfl c1) rfl cf11 (.cons (cvE rfl c1) .nil) .nil (words_Split_spec _ (by omega)) (fun v1 B hv => ?_)
    obtain ⟨y2, rfl, y3, rfl⟩ := hv
    refine GL_guard (t := 25) rfl rfl rfl (PS_move rfl) ?_
    refine GL_callL_g (t := 25) rfl (by first | rfl | exact lkE rfl c1) rfl cf12 (.cons rfl .nil) .nil (ref_WordsOf_spec _ (by omega)) (fun v5 B hv => ?_)
    obtain ⟨y6, rfl, y7, rfl⟩ := hv
    refine GL_pure_g (t := 25) rfl rfl rfl cf10 (.cons rfl (.cons rfl .nil)) (fun w hS => ref_SameTexts_spec _ _ _ _ (by have := Words.words_count s; omega) w ((Kn.own (.tail _ (.head _))) w hS) ((Kn.own (.head _)) w hS)) ?_
    refine GL_step rfl (PS_pick_true rfl rfl) ?_
    refine GL_step rfl (PS_move rfl) ?_
    refine GL_pgt (t := 32) rfl rfl rfl (fun q => PC_of cf13 .nil (fun w hS => law_means_spec w (gl0.st hS) (gl1.st hS) (gl2.st hS))) ?_
    refine GL_step rfl (PS_and rfl rfl (fun h => h)) ?_
    refine GL_step rfl (PS_assign rfl) ?_
    refine GL_nil ?_
    refine GQ_sub (.cons (k := 2) rfl (.nil _)) ?_
    refine GQ_then ?_
    refine G_ret ?_
    refine GQ_ret rfl (.tmp rfl .nil) ?_
    intro w1 hS; refine ⟨?_, hS.toKeep⟩; exact congrArg Value.bool (by simp)
  · exact absurd c1 (by simp)
mutual
def cellsD {H : Type} : DataW H → List Value
  | .lit (.int k n) => [.int k n]
  | .lit (.string bs) => [.string ⟨bs.toArray⟩]
  | .lit (.bool b) => [.bool b]
  | .agg ps => cellsDs ps
  | _ => []
def cellsDs {H : Type} : List (DataW H) → List Value
  | [] => []
  | d :: r => cellsD d ++ cellsDs r
end
def cellsE {H : Type} : DataW H → List Value
  | .iface _ (.ptr (.agg ps)) => cellsDs ps
  | _ => []
/-- Where what the errors point to lies. -/
noncomputable def low : Nat := (World.holding Tryd.prog default ⟨#[], #[], []⟩).heap.size
/-- A world in which the listed variables hold what is listed. -/
noncomputable def laidWorld (os : Os) : World := { World.holding Tryd.prog os ⟨#[.cells (cellsE (Rows.laid_strconv_ErrRange : DataW Unit)).toArray 103, .cells (cellsE (Rows.laid_strconv_ErrSyntax : DataW Unit)).toArray 103], #[], []⟩ with heap := ((((((((((World.holding Tryd.prog os ⟨#[.cells (cellsE (Rows.laid_strconv_ErrRange : DataW Unit)).toArray 103, .cells (cellsE (Rows.laid_strconv_ErrSyntax : DataW Unit)).toArray 103], #[], []⟩).heap.modify 4 fun o => match o with | .cells _ t frozen => .cells #[.iface 101 (.pointer (some ⟨low + 0, 0, none⟩))] t frozen | o => o).modify 3 fun o => match o with | .cells _ t frozen => .cells #[.iface 101 (.pointer (some ⟨low + 1, 0, none⟩))] t frozen | o => o).modify 8 fun o => match o with | .cells _ t frozen => .cells (cellsD (Rows.laid_math_bits_deBruijn32tab : DataW Unit)).toArray t frozen | o => o).modify 9 fun o => match o with | .cells _ t frozen => .cells (cellsD (Rows.laid_math_bits_deBruijn64tab : DataW Unit)).toArray t frozen | o => o).modify 7 fun o => match o with | .cells _ t frozen => .cells (cellsD (Rows.laid_internal_strconv_uint64pow10 : DataW Unit)).toArray t frozen | o => o).modify 6 fun o => match o with | .cells _ t frozen => .cells (cellsD (Rows.laid_unicode_utf8_acceptRanges : DataW Unit)).toArray t frozen | o => o).modify 1 fun o => match o with | .cells _ t frozen => .cells (cellsD (Rows.laid_inglenook_inglenookref_verbs : DataW Unit)).toArray t frozen | o => o).modify 0 fun o => match o with | .cells _ t frozen => .cells (cellsD (Rows.laid_inglenook_words_verbs : DataW Unit)).toArray t frozen | o => o).modify 5 fun o => match o with | .cells _ t frozen => .cells (cellsD (Rows.laid_unicode_utf8_first : DataW Unit)).toArray t frozen | o => o) }
set_option maxRecDepth 100000 in
theorem laid_met (os : Os) : laidMet Tryd.prog Rows.wordsParsesUptoRow.laid ((laidWorld os).forCall (fun _ _ => 0) ⟨#[], #[vstr []], []⟩).memory :=
  laidMet_of_run' 8 (by kernel_rfl) (by kernel_rfl)
set_option maxRecDepth 100000 in
theorem reads (os : Os) {H : Type} (enc : TypeId × Value → H) : ∃ places, DataW.whole enc Tryd.prog ((laidWorld os).forCall (fun _ _ => 0) ⟨#[], #[vstr []], []⟩).memory Tryd.f3.params.toList Rows.wordsParsesSpec.vars false (#[vstr []] : Array Value).toList 8 = some ([.lit (.string [])], [], places) := ⟨[], by kernel_rfl⟩
set_option maxRecDepth 100000 in
theorem wordsParses_lifted (os : Os) (started : os.Started) (H : Type) (enc : TypeId × Value → H) (F : Stop.Interp) :
    ReturnsInHanded {} Tryd.checked os 3 .any ((Rows.OpenSpec.upto Rows.wordsParsesSpec).preRow enc Tryd.prog Tryd.f3 Rows.wordsParsesUptoRow.domain false Rows.wordsParsesUptoRow.laid) (((Rows.OpenSpec.upto Rows.wordsParsesSpec).at F).post enc Tryd.prog Tryd.f3 false true false false) := by
  obtain ⟨places, hx⟩ := reads os enc
  refine returnsInHanded_of_row (C := Tryd.checked) (s := (Rows.OpenSpec.upto Rows.wordsParsesSpec)) own started (by kernel_rfl) Tryd.func3
    (witness_row_at (enc := enc) (C := Tryd.checked) false (laidWorld os) #[vstr []] rfl (by kernel_rfl) (by kernel_rfl) (by kernel_rfl)
      (OpenSpec.preRow_of_cond 8 hx (by kernel_rfl) (fun k hk => by cases hk; kernel_rfl) (by kernel_rfl) (laid_met os))) ?_
  intro W base args ds gs before hval hW _ hcond hsz hL _ _
  have hu : Rows.uptoBulkAll (ds ++ gs) ≤ 1048576 := of_decide_eq_true (hcond _ rfl)
  refine law_post (B := 4) laidOut (by kernel_rfl) Tryd.underlying4 (by kernel_rfl) rfl (fun ds h => by rw [Tryd.params3] at h; match ds, h with | [d1], _ => rfl) hW ?_
  obtain ⟨p, q, hA, hV, _, _, _⟩ := hW
  rw [Tryd.params3] at hA
  obtain ⟨v0, vs0, d0, ds0, p0, q0, hv0, rfl, rfl, hd0, hA⟩ := trodAll_cons hA
  obtain ⟨hvn, rfl, rfl⟩ := trodAll_nil hA
  obtain rfl : args = #[v0] := by cases args; simp_all
  obtain ⟨s, rfl, rfl, rfl, w0⟩ := open_str Tryd.underlying9 (hval 0 _ _ rfl rfl) hd0
  simp only [List.cons_append, List.nil_append, Rows.uptoBulkAll, Rows.uptoBulk, Array.length_toList] at hu
  exact law_WordsParses_spec _ (by omega) W (gv_strs hL mem_laid_inglenook_words_verbs (by kernel_rfl) (by kernel_rfl) Tryd.underlying46 Tryd.underlying9 (by kernel_rfl) (by kernel_rfl)) (gve hL mem_laid_strconv_ErrSyntax rfl (by kernel_rfl) (by kernel_rfl) Tryd.underlying57) (gve hL mem_laid_strconv_ErrRange rfl (by kernel_rfl) (by kernel_rfl) Tryd.underlying57) (gv_strs hL mem_laid_inglenook_inglenookref_verbs (by kernel_rfl) (by kernel_rfl) Tryd.underlying46 Tryd.underlying9 (by kernel_rfl) (by kernel_rfl))
theorem wordsParses_said : Rows.WordsParsesUptoSaid :=
  OpenClaim.holds_of_cond 3 Tryd.f3 rfl rfl rfl rfl rfl rfl rfl ⟨rfl, rfl, rfl, rfl, rfl⟩ rfl rfl rfl rfl rfl (by kernel_rfl) Tryd.func3 (by kernel_rfl)
    (of_decide_eq_true (by kernel_rfl)) (by unfold Func.isWrapper; first | (rw [if_pos (by decide +kernel)]; kernel_rfl) | (rw [if_neg (by decide +kernel)]; exact ⟨rfl, rfl⟩))
    (fun os started H enc _ F => by rw [OpenClaim.pre_eq_preRow]; exact wordsParses_lifted os started H enc F)
theorem plainArgs (f : FuncId) (fn : Func) (hf : Tryd.pinned.checked.prog.funcNamed "inglenook/inglenooklaw.WordsParses" = some f) (hfn : Tryd.pinned.checked.prog.funcs[f]? = some fn) :
    true = Tryd.pinned.checked.prog.looks [] ∧ ∀ (j : Nat) t, fn.params[j]? = some t → Tryd.pinned.checked.prog.wantsStandIn t = false := by
  obtain rfl : f = 3 := Option.some.inj ((show Tryd.prog.funcNamed "inglenook/inglenooklaw.WordsParses" = some 3 by kernel_rfl).symm.trans hf) |>.symm
  obtain rfl : fn = Tryd.f3 := (Option.some.inj (Tryd.func3.symm.trans hfn)).symm
  refine ⟨by kernel_rfl, fun j t ht => ?_⟩
  rw [Tryd.params3] at ht
  have hm : t ∈ [9] := by simpa using Array.mem_of_getElem? ht
  have hall : ([9].all fun u => !Tryd.prog.wantsStandIn u) = true := by kernel_rfl
  exact (show Tryd.prog.wantsStandIn t = false by simpa using List.all_eq_true.1 hall t hm)
theorem wordsParses_holds : Rows.WordsParsesUptoCardSaid :=
  Claim7.holds_tied_plain_at .later [] _ _ _ _ wordsParses_said (fun _ h => by cases h) (by kernel_rfl) (fun _ h => by cases h) wordsParsesUpto_row_tie rfl ⟨rfl, rfl⟩ (by kernel_rfl) rfl plainArgs (by kernel_rfl)
end Go.Proofs.YtckhelpkjicnnaaDoor
