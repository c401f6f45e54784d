/- For every input the law WordsSpaces returns true. No condition. -/
import Derived.Test.YtckhelpkjicnnaaDoorCards
import Derived.Test.YtckhelpkjicnnaaDoorTie
import Derived.Deep.DeepHandedRow
import Derived.Test.YtckhelpkjicnnaaDoorRows
import Derived.Test.YtckhelpkjicnnaaDoorEc3
import Derived.Test.YtckhelpkjicnnaaDoorWa1
set_option linter.unusedSimpArgs false
set_option linter.unusedVariables false
set_option maxRecDepth 100000
namespace Go.Proofs.YtckhelpkjicnnaaDoor
open Go Go.Ing Go.RowKit Go.ChangeShapes Go.WideShapes Go.ChangeAt
theorem own : ownKnob Tryd.prog.godebug = none := by kernel_rfl
theorem laidOut : laidOutB Tryd.prog = true := by kernel_rfl
theorem bulk_one {H : Type} (d : DataW H) : 1 ≤ Rows.uptoBulk d := by
  cases d with
  | lit l => cases l <;> simp [Rows.uptoBulk]
  | nil => simp [Rows.uptoBulk]
  | ptr d => simp [Rows.uptoBulk]
  | slice elems spare => simp [Rows.uptoBulk]
  | agg parts => simp [Rows.uptoBulk]
  | iface t d => simp [Rows.uptoBulk]
  | map entries => simp [Rows.uptoBulk]
  | held h => simp [Rows.uptoBulk]
theorem bulk_part {H : Type} {d : DataW H} {l : List (DataW H)} (h : d ∈ l) : Rows.uptoBulk d ≤ Rows.uptoBulkAll l := by
  induction l with
  | nil => cases h
  | cons x r ih =>
    simp only [Rows.uptoBulkAll]
    cases List.mem_cons.1 h with
    | inl e => subst e; omega
    | inr e => have := ih e; omega
theorem bulk_len {H : Type} (l : List (DataW H)) : l.length ≤ Rows.uptoBulkAll l := by
  induction l with
  | nil => simp [Rows.uptoBulkAll]
  | cons x r ih => have := bulk_one x; simp only [Rows.uptoBulkAll, List.length_cons]; omega
theorem bulk_lit {H : Type} {d : DataW H} {s : Str} (h : ∃ parts, d = .agg parts ∧ DataW.lit (.string s) ∈ parts) : s.length ≤ Rows.uptoBulk d := by
  obtain ⟨parts, rfl, h1⟩ := h
  have h4 := bulk_part h1
  simp only [Rows.uptoBulk] at h4 ⊢
  omega
theorem bulk_str {H : Type} {d : DataW H} {qs : List Str} (h : qs = [] ∨ ∃ parts elems rest, d = .agg parts ∧ DataW.slice elems rest ∈ parts ∧ elems.length = qs.length ∧ ∀ s ∈ qs, DataW.lit (.string s) ∈ elems) : qs.length ≤ Rows.uptoBulk d ∧ ∀ s ∈ qs, s.length ≤ Rows.uptoBulk d := by
  rcases h with rfl | ⟨parts, elems, rest, rfl, h1, h2, h3⟩
  · exact ⟨Nat.zero_le _, fun s hs => by simp at hs⟩
  · have h4 := bulk_part h1
    have h5 := bulk_len elems
    simp only [Rows.uptoBulk] at h4 ⊢
    refine ⟨by omega, fun s hs => ?_⟩
    have h6 := bulk_part (h3 s hs)
    simp only [Rows.uptoBulk] at h6
    omega
theorem zv23 : ZV Tryd.prog 23 (.agg (Order.enc (default : Order)).toArray) := ZV_of (by kernel_rfl)
theorem sz3 : Sz Tryd.prog 3 1 := Sz_of (by kernel_rfl)
theorem sz4 : Sz Tryd.prog 4 1 := Sz_of (by kernel_rfl)
theorem sz9 : Sz Tryd.prog 9 1 := Sz_of (by kernel_rfl)
theorem pl23 : Places Tryd.prog 23 [(0, 1), (1, 1), (2, 1), (3, 1), (4, 1), (5, 1)] := ⟨_, Tryd.underlying23, fun w => by simp [sz3 w, sz4 w, sz9 w]⟩
theorem sz23 : Sz Tryd.prog 23 6 := Sz_of (by kernel_rfl)
theorem tya23 : TyA Tryd.prog 23 6 := TyA_of Tryd.underlying23 rfl sz23
theorem cf46 : CF Tryd.prog 46 := Tryd.call46
theorem cf52 : CF Tryd.prog 52 := Tryd.call52
theorem cf58 : CF Tryd.prog 58 := Tryd.call58
theorem zv9 : ZV Tryd.prog 9 (vstr []) := ZV_of (by kernel_rfl)
theorem by9 : BY Tryd.prog 9 16 := BY_of (by kernel_rfl)
theorem cf49 : CF Tryd.prog 49 := Tryd.call49
theorem is28 : IS Tryd.prog 28 1 := IS_of Tryd.underlying28 sz9
theorem cf45 : CF Tryd.prog 45 := Tryd.call45
theorem sz5 : Sz Tryd.prog 5 1 := Sz_of (by kernel_rfl)
theorem is53 : IS Tryd.prog 53 1 := IS_of Tryd.underlying53 sz5
theorem tys5 : TyS Tryd.prog 5 := TyS_of Tryd.underlying5 rfl
theorem cf30 : CF Tryd.prog 30 := Tryd.call30
theorem tys9 : TyS Tryd.prog 9 := TyS_of Tryd.underlying9 rfl
theorem cf31 : CF Tryd.prog 31 := Tryd.call31
theorem cf47 : CF Tryd.prog 47 := Tryd.call47
theorem sz46 : Sz Tryd.prog 46 21 := Sz_of (by kernel_rfl)
theorem tya46 : TyA Tryd.prog 46 21 := TyA_of Tryd.underlying46 rfl sz46
theorem cf33 : CF Tryd.prog 33 := Tryd.call33
theorem cf38 : CF Tryd.prog 38 := Tryd.call38
theorem mix : Tryd.prog.follows .mixedOrders = true := by kernel_rfl
theorem cf37 : CF Tryd.prog 37 := Tryd.call37
theorem cf42 : CF Tryd.prog 42 := Tryd.call42
theorem cf48 : CF Tryd.prog 48 := Tryd.call48
theorem cf34 : CF Tryd.prog 34 := Tryd.call34
theorem cf35 : CF Tryd.prog 35 := Tryd.call35
theorem cf25 : CF Tryd.prog 25 := Tryd.call25
theorem cf36 : CF Tryd.prog 36 := Tryd.call36
theorem cf11 : CF Tryd.prog 11 := Tryd.call11
theorem cf24 : CF Tryd.prog 24 := Tryd.call24
theorem cf14 : CF Tryd.prog 14 := Tryd.call14
theorem cf26 : CF Tryd.prog 26 := Tryd.call26
theorem cf27 : CF Tryd.prog 27 := Tryd.call27
theorem fa23_5 : FA Tryd.prog 23 5 5 := FA_of Tryd.underlying23 rfl sz9
theorem ia46 : IA Tryd.prog 46 21 1 := IA_of Tryd.underlying46 sz9
theorem fa23_3 : FA Tryd.prog 23 3 3 := FA_of Tryd.underlying23 rfl sz9
theorem fa23_1 : FA Tryd.prog 23 1 1 := FA_of Tryd.underlying23 rfl sz3
theorem cf18 : CF Tryd.prog 18 := Tryd.call18
theorem fa23_2 : FA Tryd.prog 23 2 2 := FA_of Tryd.underlying23 rfl sz4
theorem tys4 : TyS Tryd.prog 4 := TyS_of Tryd.underlying4 rfl
theorem cf28 : CF Tryd.prog 28 := Tryd.call28
theorem cf29 : CF Tryd.prog 29 := Tryd.call29
theorem fa23_4 : FA Tryd.prog 23 4 4 := FA_of Tryd.underlying23 rfl sz9
theorem cf8 : CF Tryd.prog 8 := Tryd.call8
theorem fa23_0 : FA Tryd.prog 23 0 0 := FA_of Tryd.underlying23 rfl sz3
theorem tys3 : TyS Tryd.prog 3 := TyS_of Tryd.underlying3 rfl
theorem cf15 : CF Tryd.prog 15 := Tryd.call15
theorem eq3 : EqV Tryd.prog 1 3 (fun n : Int => .int .i64 n) := EqV_int Tryd.underlying3
theorem eq4 : EqV Tryd.prog 1 4 (fun b : Bool => .bool b) := EqV_bool Tryd.underlying4
theorem eq9 : EqV Tryd.prog 1 9 (fun s : Str => vstr s) := EqV_str Tryd.underlying9
theorem eq23 : EqV Tryd.prog 2 23 (fun x : Order => .agg (Order.enc x).toArray) := EqV_struct Tryd.underlying23 (by kernel_rfl) (.cons (by decide) rfl (.inr ⟨tys3, rfl, fun _ => rfl⟩) Order.l0 eq3 (by decide) (.cons (by decide) rfl (.inr ⟨tys3, rfl, fun _ => rfl⟩) Order.l1 eq3 (by decide) (.cons (by decide) rfl (.inr ⟨tys4, rfl, fun _ => rfl⟩) Order.l2 eq4 (by decide) (.cons (by decide) rfl (.inr ⟨tys9, rfl, fun _ => rfl⟩) Order.l3 eq9 (by decide) (.cons (by decide) rfl (.inr ⟨tys9, rfl, fun _ => rfl⟩) Order.l4 eq9 (by decide) (.cons (by decide) rfl (.inr ⟨tys9, rfl, fun _ => rfl⟩) Order.l5 eq9 (by decide) .nil)))))) (fun x y => by rw [Bool.eq_iff_iff]; cases x; cases y; simp)
theorem ld_laid_inglenook_words_verbs : (Rows.laid_inglenook_words_verbs : DataW Unit) = strData Land.verbs := by kernel_rfl
theorem mem_laid_inglenook_words_verbs : ("inglenook/words.verbs", (strData Land.verbs : DataW Unit)) ∈ Rows.wordsSpacesUptoRow.laid := ld_laid_inglenook_words_verbs ▸ (.tail _ (.tail _ (.tail _ (.tail _ (.tail _ (.tail _ (.head _)))))))
theorem mem_laid_strconv_ErrSyntax : ("strconv.ErrSyntax", (Rows.laid_strconv_ErrSyntax : DataW Unit)) ∈ Rows.wordsSpacesUptoRow.laid := .tail _ (.tail _ (.tail _ (.tail _ (.tail _ (.head _)))))
theorem mem_laid_strconv_ErrRange : ("strconv.ErrRange", (Rows.laid_strconv_ErrRange : DataW Unit)) ∈ Rows.wordsSpacesUptoRow.laid := .tail _ (.tail _ (.tail _ (.tail _ (.head _))))

theorem words_Parse_1_spec (z : Int) : Ctr Tryd.prog 24 #[.int .i64 z] [] (fun v B => v = .tuple #[.agg (Order.enc default).toArray, .int .i64 z] ∧ B = []) := by
  intro w hS0
  refine Ret_body _ _ Tryd.func24 rfl rfl rfl (hS0) ?_
  refine G_seq ?_
  refine G_region ?_
  refine GL_alloc rfl zv23 rfl (fun b1 => ?_)
  refine GL_step rfl (PS_assign rfl) ?_
  refine GL_nil ?_
  refine GQ_sub (.cons (k := 0) rfl (.cons (k := 2) rfl (.nil _))) ?_
  refine GQ_then ?_
  refine G_seq ?_
  refine G_region ?_
  refine GL_step rfl (PS_build pl23 zv23 rfl .nil) ?_
  refine GL_step rfl (PS_move rfl) ?_
  refine GL_unit (PU_store (Lens.id Order.fl.len Order.fl.one) rfl rfl rfl sz23 rfl .head) ?_
  refine GL_step rfl (PS_assign rfl) ?_
  refine GL_nil ?_
  refine GQ_sub (.cons (k := 2) rfl (.cons (k := 3) rfl (.nil _))) ?_
  refine GQ_then ?_
  refine G_ret ?_
  refine GQ_ret rfl (.cell rfl (.head _) (.inl ⟨(by rw [Order.fl.len]; exact tya23), rfl⟩) (.tmp rfl .nil)) ?_
  intro w1 hS
  have hS := (hS.perm (Pulls.perm .nil)).headL
  exact ⟨_, ⟨rfl, rfl⟩, hS⟩
theorem internal_stringslite_IndexByte_spec (s : Str) (c : UInt8) (w : World) : Ret Tryd.prog 46 #[vstr s, .int .u8 (c.toNat : Int)] w fun v w' => v = .int .i64 (Lib.indexByte s c) ∧ Keep w w' := by
  refine Ret_body [] [] Tryd.func46 rfl rfl rfl (St.start w []) ?_
  refine G_seq ?_
  refine G_region ?_
  refine GL_step rfl (PS_assign rfl) ?_
  refine GL_nil ?_
  refine GQ_sub (.cons (k := 0) rfl (.cons (k := 1) rfl (.nil _))) ?_
  refine GQ_then ?_
  refine G_seq ?_
  refine G_region ?_
  refine GL_step rfl (PS_move rfl) ?_
  refine GL_step rfl (PS_move rfl) ?_
  refine GL_step rfl (PS_indexByteString Tryd.func59 (by kernel_rfl) (by kernel_rfl) (by kernel_rfl) (by kernel_rfl) rfl rfl) ?_
  refine GL_step rfl (PS_assign rfl) ?_
  refine GL_nil ?_
  refine GQ_sub (.cons (k := 4) rfl (.nil _)) ?_
  refine GQ_then ?_
  refine G_ret ?_
  refine GQ_ret rfl (.tmp rfl .nil) ?_
  intro w1 hS; refine ⟨?_, hS.toKeep⟩; rfl
theorem internal_stringslite_Index_spec (s : Str) (c : UInt8) (w : World) : Ret Tryd.prog 52 #[vstr s, vstr [c]] w fun v w' => v = .int .i64 (Lib.indexByte s c) ∧ Keep w w' := by
  refine Ret_body [] [] Tryd.func52 rfl rfl rfl (St.start w []) ?_
  refine G_seq ?_
  refine G_region ?_
  refine GL_step rfl (PS_assign rfl) ?_
  refine GL_nil ?_
  refine GQ_sub (.cons (k := 0) rfl (.cons (k := 1) rfl (.nil _))) ?_
  refine GQ_then ?_
  refine G_seq ?_
  refine G_region ?_
  refine GL_step rfl (PS_move rfl) ?_
  refine GL_step rfl (PS_len_str rfl Tryd.underlying9 rfl) ?_
  refine GL_step rfl (PS_assign rfl) ?_
  refine GL_nil ?_
  refine GQ_sub (.cons (k := 0) rfl (.cons (k := 1) rfl (.cons (k := 5) rfl (.nil _)))) ?_
  refine GQ_then ?_
  refine G_seq ?_
  refine G_block ?_
  refine G_seq ?_
  refine G_region ?_
  refine GL_step rfl (PS_move rfl) ?_
  refine GL_step rfl (PS_eql rfl rfl) ?_
  refine GL_step rfl (PS_move rfl) ?_
  refine GL_gf (t := 19) rfl rfl rfl (fun q => PS_move rfl) ?_
  refine GL_gf (t := 19) rfl rfl rfl (fun q => PS_move rfl) ?_
  refine GL_gf (t := 19) rfl rfl rfl (fun q => PS_eql_str (cvE rfl (by rw [q]; rfl)) (cvE rfl (by rw [q]; rfl))) ?_
  refine GL_step rfl (PS_or rfl rfl (fun h => by rw [h]; rfl)) ?_
  refine GL_step rfl (PS_assign rfl) ?_
  refine GL_nil ?_
  refine GQ_sub (.cons (k := 0) rfl (.cons (k := 1) rfl (.cons (k := 5) rfl (.cons (k := 16) rfl (.nil _))))) ?_
  refine GQ_then ?_
  refine G_cond rfl (fun c1 => ?_) (fun c1 => ?_)
  · skip
    have c1p := c1
    try simp only [decide_eq_true_eq, decide_eq_false_iff_not, Bool.not_eq_true', Bool.not_eq_false', Bool.or_eq_true, Bool.and_eq_true, Bool.or_eq_false_iff, Bool.and_eq_false_iff, Int.not_lt, Int.not_le] at c1p
    refine G_seq ?_
    refine G_region ?_
    refine GL_step rfl (PS_assign rfl) ?_
    refine GL_nil ?_
    refine GQ_sub (.cons (k := 4) rfl (.nil _)) ?_
    refine GQ_then ?_
    refine G_ret ?_
    refine GQ_block_ret ?_
    refine GQ_then_ret ?_
    refine GQ_ret rfl (.tmp rfl .nil) ?_
    intro w1 hS; refine ⟨?_, hS.toKeep⟩; have e : [c] = s := by simpa using c1
    rw [← e, Page.index_one]; rfl
  · skip
    have c1p := c1
    try simp only [decide_eq_true_eq, decide_eq_false_iff_not, Bool.not_eq_true', Bool.not_eq_false', Bool.or_eq_true, Bool.and_eq_true, Bool.or_eq_false_iff, Bool.and_eq_false_iff, Int.not_lt, Int.not_le] at c1p
    refine G_seq ?_
    refine G_region ?_
    refine GL_step rfl (PS_move rfl) ?_
    refine GL_step rfl (PS_eql rfl rfl) ?_
    refine GL_step rfl (PS_assign rfl) ?_
    refine GL_nil ?_
    refine GQ_sub (.cons (k := 0) rfl (.cons (k := 1) rfl (.cons (k := 5) rfl (.cons (k := 24) rfl (.nil _))))) ?_
    refine GQ_then ?_
    refine G_true rfl (by simp) ?_
    refine G_seq ?_
    refine G_region ?_
    refine GL_step rfl (PS_move rfl) ?_
    refine GL_step rfl (PS_move rfl) ?_
    refine GL_step rfl (PS_index_str Tryd.underlying9 rfl rfl (by decide) (by first | omega | simp)) ?_
    refine GL_pure rfl cf46 (.cons rfl (.cons rfl .nil)) (fun w hS => internal_stringslite_IndexByte_spec _ _ w) ?_
    refine GL_step rfl (PS_assign rfl) ?_
    refine GL_nil ?_
    refine GQ_sub (.cons (k := 4) rfl (.nil _)) ?_
    refine GQ_then ?_
    refine G_ret ?_
    refine GQ_block_ret ?_
    refine GQ_then_ret ?_
    refine GQ_ret rfl (.tmp rfl .nil) ?_
    intro w1 hS; refine ⟨?_, hS.toKeep⟩; rfl
theorem strings_Index_spec (s : Str) (c : UInt8) (w : World) : Ret Tryd.prog 49 #[vstr s, vstr [c]] w fun v w' => v = .int .i64 (Lib.indexByte s c) ∧ Keep w w' := by
  refine Ret_body [] [] Tryd.func49 rfl rfl rfl (St.start w []) ?_
  refine G_seq ?_
  refine G_region ?_
  refine GL_step rfl (PS_assign rfl) ?_
  refine GL_nil ?_
  refine GQ_sub (.cons (k := 0) rfl (.cons (k := 1) rfl (.nil _))) ?_
  refine GQ_then ?_
  refine G_seq ?_
  refine G_region ?_
  refine GL_step rfl (PS_move rfl) ?_
  refine GL_step rfl (PS_move rfl) ?_
  refine GL_pure rfl cf52 (.cons rfl (.cons rfl .nil)) (fun w hS => internal_stringslite_Index_spec _ _ w) ?_
  refine GL_step rfl (PS_assign rfl) ?_
  refine GL_nil ?_
  refine GQ_sub (.cons (k := 4) rfl (.nil _)) ?_
  refine GQ_then ?_
  refine G_ret ?_
  refine GQ_ret rfl (.tmp rfl .nil) ?_
  intro w1 hS; refine ⟨?_, hS.toKeep⟩; rfl
theorem strings_Count_spec (s : Str) (c : UInt8) (w : World) : Ret Tryd.prog 58 #[vstr s, vstr [c]] w fun v w' => v = .int .i64 ((s.count c : Nat) : Int) ∧ Keep w w' := by
  refine Ret_body [] [] Tryd.func58 rfl rfl rfl (St.start w []) ?_
  refine G_seq ?_
  refine G_region ?_
  refine GL_step rfl (PS_assign rfl) ?_
  refine GL_nil ?_
  refine GQ_sub (.cons (k := 0) rfl (.cons (k := 1) rfl (.nil _))) ?_
  refine GQ_then ?_
  refine G_seq ?_
  refine G_seq ?_
  refine G_region ?_
  refine GL_step rfl (PS_move rfl) ?_
  refine GL_step rfl (PS_len_str rfl Tryd.underlying9 rfl) ?_
  refine GL_step rfl (PS_eql rfl rfl) ?_
  refine GL_nil ?_
  refine GQ_sub (.cons (k := 0) rfl (.cons (k := 1) rfl (.cons (k := 9) rfl (.nil _)))) ?_
  refine GQ_then ?_
  refine G_false rfl (by simp) ?_
  refine G_skip ?_
  refine GQ_sub (.cons (k := 0) rfl (.cons (k := 1) rfl (.nil _))) ?_
  refine GQ_then ?_
  refine G_seq ?_
  refine G_seq ?_
  refine G_region ?_
  refine GL_step rfl (PS_move rfl) ?_
  refine GL_step rfl (PS_len_str rfl Tryd.underlying9 rfl) ?_
  refine GL_step rfl (PS_eql rfl rfl) ?_
  refine GL_nil ?_
  refine GQ_sub (.cons (k := 0) rfl (.cons (k := 1) rfl (.cons (k := 15) rfl (.nil _)))) ?_
  refine GQ_then ?_
  refine G_true rfl (by simp) ?_
  refine G_seq ?_
  refine G_region ?_
  refine GL_step rfl (PS_move rfl) ?_
  refine GL_step rfl (PS_move rfl) ?_
  refine GL_step rfl (PS_index_str Tryd.underlying9 rfl rfl (by decide) (by first | omega | simp)) ?_
  refine GL_step rfl (PS_countString Tryd.func72 (by kernel_rfl) (by kernel_rfl) (by kernel_rfl) (by kernel_rfl) rfl rfl) ?_
  refine GL_step rfl (PS_assign rfl) ?_
  refine GL_nil ?_
  refine GQ_sub (.cons (k := 4) rfl (.nil _)) ?_
  refine GQ_then ?_
  refine G_ret ?_
  refine GQ_then_ret ?_
  refine GQ_ret rfl (.tmp rfl .nil) ?_
  intro w1 hS; refine ⟨?_, hS.toKeep⟩; rfl
theorem strings_genSplit_spec (s : Str) (c : UInt8) (hs : s.length ≤ 10000000) : Ctr Tryd.prog 45 #[vstr s, vstr [c], .int .i64 0, .int .i64 (-1)] [] (fun v B => ∃ h' : Hd, v = h'.val ∧ h'.len = (Words.pieces c s).length ∧ B = [Res.own h' 9 1 ((Words.pieces c s).flatMap encS)]) := by
  intro w hS0
  have hcl := List.count_le_length (a := c) (l := s)
  have hpl := Words.pieces_len c s
  refine Ret_body _ _ Tryd.func45 rfl rfl rfl (hS0) ?_
  refine G_seq ?_
  refine G_region ?_
  refine GL_step rfl (PS_assign rfl) ?_
  refine GL_nil ?_
  refine GQ_sub (.cons (k := 0) rfl (.cons (k := 1) rfl (.cons (k := 2) rfl (.cons (k := 3) rfl (.nil _))))) ?_
  refine GQ_then ?_
  refine G_seq ?_
  refine G_seq ?_
  refine G_region ?_
  refine GL_step rfl (PS_move rfl) ?_
  refine GL_step rfl (PS_eql rfl rfl) ?_
  refine GL_nil ?_
  refine GQ_sub (.cons (k := 0) rfl (.cons (k := 1) rfl (.cons (k := 2) rfl (.cons (k := 3) rfl (.cons (k := 13) rfl (.nil _)))))) ?_
  refine GQ_then ?_
  refine G_false rfl (by simp) ?_
  refine G_skip ?_
  refine GQ_sub (.cons (k := 0) rfl (.cons (k := 1) rfl (.cons (k := 2) rfl (.cons (k := 3) rfl (.nil _))))) ?_
  refine GQ_then ?_
  refine G_seq ?_
  refine G_seq ?_
  refine G_region ?_
  refine GL_step rfl (PS_move rfl) ?_
  refine GL_step rfl (PS_eql_str rfl rfl) ?_
  refine GL_nil ?_
  refine GQ_sub (.cons (k := 0) rfl (.cons (k := 1) rfl (.cons (k := 2) rfl (.cons (k := 3) rfl (.cons (k := 15) rfl (.nil _)))))) ?_
  refine GQ_then ?_
  refine G_false rfl (by simp) ?_
  refine G_skip ?_
  refine GQ_sub (.cons (k := 0) rfl (.cons (k := 1) rfl (.cons (k := 2) rfl (.cons (k := 3) rfl (.nil _))))) ?_
  refine GQ_then ?_
  refine G_seq ?_
  refine G_seq ?_
  refine G_region ?_
  refine GL_step rfl (PS_move rfl) ?_
  refine GL_step rfl (PS_lss rfl rfl) ?_
  refine GL_nil ?_
  refine GQ_sub (.cons (k := 0) rfl (.cons (k := 1) rfl (.cons (k := 2) rfl (.cons (k := 3) rfl (.cons (k := 20) rfl (.nil _)))))) ?_
  refine GQ_then ?_
  refine G_true rfl (by simp) ?_
  refine G_region ?_
  refine GL_step rfl (PS_move rfl) ?_
  refine GL_step rfl (PS_move rfl) ?_
  refine GL_pure rfl cf58 (.cons rfl (.cons rfl .nil)) (fun w hS => strings_Count_spec _ c w) ?_
  refine GL_step rfl (PS_add rfl rfl (IntWalk.i64_in _ (by (try simp only [List.length_cons, List.length_nil]); omega))) ?_
  refine GL_step rfl (PS_assign rfl) ?_
  refine GL_nil ?_
  refine GQ_sub (.cons (k := 0) rfl (.cons (k := 1) rfl (.cons (k := 2) rfl (.cons (k := 3) rfl (.nil _))))) ?_
  refine GQ_then ?_
  refine G_seq ?_
  refine G_region ?_
  refine GL_step rfl (PS_move rfl) ?_
  refine GL_step rfl (PS_move rfl) ?_
  refine GL_step rfl (PS_len_str rfl Tryd.underlying9 rfl) ?_
  refine GL_step rfl (PS_add rfl rfl (IntWalk.i64_in _ (by (try simp only [List.length_cons, List.length_nil]); omega))) ?_
  refine GL_step rfl (PS_min2 rfl rfl) ?_
  refine GL_step rfl (PS_assign rfl) ?_
  refine GL_nil ?_
  refine GQ_sub (.cons (k := 0) rfl (.cons (k := 1) rfl (.cons (k := 2) rfl (.cons (k := 3) rfl (.nil _))))) ?_
  refine GQ_then ?_
  refine G_seq ?_
  refine G_region ?_
  refine GL_step rfl (PS_move rfl) ?_
  refine GL_mkStrs rfl Tryd.underlying28 sz9 zv9 by9 rfl rfl (by (try simp only [List.length_cons, List.length_nil]); omega) (by (try simp only [List.length_cons, List.length_nil]); omega) (fun b1 => ?_)
  refine GL_step rfl (PS_assign rfl) ?_
  refine GL_nil ?_
  refine GQ_sub (.cons (k := 0) rfl (.cons (k := 1) rfl (.cons (k := 2) rfl (.cons (k := 3) rfl (.cons (k := 9) rfl (.nil _)))))) ?_
  refine GQ_then ?_
  refine G_seq ?_
  refine G_region ?_
  refine GL_step rfl (PS_move rfl) ?_
  refine GL_step rfl (PS_sub rfl rfl (IntWalk.i64_in _ (by (try simp only [List.length_cons, List.length_nil]); omega))) ?_
  refine GL_step rfl (PS_assign rfl) ?_
  refine GL_nil ?_
  refine GQ_sub (.cons (k := 0) rfl (.cons (k := 1) rfl (.cons (k := 2) rfl (.cons (k := 3) rfl (.cons (k := 9) rfl (.nil _)))))) ?_
  refine GQ_then ?_
  refine G_seq ?_
  refine G_region ?_
  refine GL_step rfl (PS_assign rfl) ?_
  refine GL_nil ?_
  refine GQ_then ?_
  refine G_seq ?_
  refine G_block ?_
  refine G_subF (.cons (k := 0) rfl (.cons (k := 10) rfl (.cons (k := 1) rfl (.cons (k := 2) rfl (.cons (k := 3) rfl (.cons (k := 9) rfl (.nil _))))))) ?_
  refine G_loop3_ (fun (i : Int) (r : Str) (xs : List Str) => Words.SplI c s i r xs) (fun (i : Int) (r : Str) (xs : List Str) => ((s.count c : Int) - i).toNat) (fun (i : Int) (r : Str) (xs : List Str) => [(0, vstr r), (10, .int .i64 i)]) (fun (i : Int) (r : Str) (xs : List Str) => [Res.own ⟨some ⟨b1, 0, none⟩, (min (((s.count c : Nat) : Int) + 1) ((s.length : Int) + 1)).toNat, (min (((s.count c : Nat) : Int) + 1) ((s.length : Int) + 1)).toNat⟩ 9 1 (xs.flatMap encS)]) (0) (s) (_) ?_ rfl rfl (fun i r xs hI1 => ?_)
  · exact Words.SplI.start c s _ (by omega)
  have hI11 := hI1; have hi0 := hI1.i0; have hi1 := hI1.i1; have hrl := hI1.rl; have hxl := hI1.len
  refine G_seq ?_
  refine G_seq ?_
  refine G_region ?_
  refine GL_step rfl (PS_move rfl) ?_
  refine GL_step rfl (PS_move rfl) ?_
  refine GL_step rfl (PS_lss rfl rfl) ?_
  refine GL_nil ?_
  refine GQ_sub (.cons (k := 0) rfl (.cons (k := 1) rfl (.cons (k := 2) rfl (.cons (k := 3) rfl (.cons (k := 9) rfl (.cons (k := 10) rfl (.cons (k := 36) rfl (.nil _)))))))) ?_
  refine GQ_then ?_
  refine G_cond rfl (fun c1 => ?_) (fun c1 => ?_)
  · skip
    have c1p := c1
    try simp only [decide_eq_true_eq, decide_eq_false_iff_not, Bool.not_eq_true', Bool.not_eq_false', Bool.or_eq_true, Bool.and_eq_true, Bool.or_eq_false_iff, Bool.and_eq_false_iff, Int.not_lt, Int.not_le] at c1p
    refine G_skip ?_
    refine GQ_sub (.cons (k := 0) rfl (.cons (k := 1) rfl (.cons (k := 2) rfl (.cons (k := 3) rfl (.cons (k := 9) rfl (.cons (k := 10) rfl (.nil _))))))) ?_
    refine GQ_then ?_
    refine G_block ?_
    refine G_seq ?_
    refine G_region ?_
    refine GL_step rfl (PS_move rfl) ?_
    refine GL_step rfl (PS_move rfl) ?_
    refine GL_pure rfl cf49 (.cons rfl (.cons rfl .nil)) (fun w hS => strings_Index_spec _ c w) ?_
    refine GL_step rfl (PS_assign rfl) ?_
    refine GL_nil ?_
    refine GQ_sub (.cons (k := 0) rfl (.cons (k := 1) rfl (.cons (k := 2) rfl (.cons (k := 3) rfl (.cons (k := 9) rfl (.cons (k := 10) rfl (.cons (k := 11) rfl (.nil _)))))))) ?_
    refine GQ_then ?_
    refine G_seq ?_
    refine G_seq ?_
    refine G_region ?_
    refine GL_step rfl (PS_move rfl) ?_
    refine GL_step rfl (PS_lss rfl rfl) ?_
    refine GL_nil ?_
    refine GQ_sub (.cons (k := 0) rfl (.cons (k := 1) rfl (.cons (k := 2) rfl (.cons (k := 3) rfl (.cons (k := 9) rfl (.cons (k := 10) rfl (.cons (k := 11) rfl (.cons (k := 41) rfl (.nil _))))))))) ?_
    refine GQ_then ?_
    refine G_cond rfl (fun c2 => ?_) (fun c2 => ?_)
    · skip
      have c2p := c2
      try simp only [decide_eq_true_eq, decide_eq_false_iff_not, Bool.not_eq_true', Bool.not_eq_false', Bool.or_eq_true, Bool.and_eq_true, Bool.or_eq_false_iff, Bool.and_eq_false_iff, Int.not_lt, Int.not_le] at c2p
      refine G_exit ?_
      refine GQ_then_exit ?_
      refine GQ_block_other rfl ?_
      refine GQ_then_exit ?_
      refine GQ_block_exit ?_
      refine GQ_sub (.cons (k := 0) rfl (.cons (k := 9) rfl (.cons (k := 10) rfl (.nil _)))) ?_
      refine GQ_then ?_
      refine G_seq ?_
      refine G_region ?_
      refine GL_step rfl (PS_move rfl) ?_
      refine GL_step rfl (PS_move rfl) ?_
      refine GL_step rfl (PS_move rfl) ?_
      refine GL_step rfl (PS_idxS is28 (by decide) (Kn.own (.head _)) rfl rfl (by omega) (by (try dsimp only); omega)) ?_
      refine GL_unit (PU_stStr rfl rfl sz9 (by have := hI11.len; omega) .head) ?_
      refine GL_nil ?_
      refine GQ_sub (.cons (k := 9) rfl (.cons (k := 10) rfl (.nil _))) ?_
      refine GQ_then ?_
      refine G_seq ?_
      refine G_region ?_
      refine GL_step rfl (PS_move rfl) ?_
      refine GL_step rfl (PS_move rfl) ?_
      refine GL_step rfl (PS_add rfl rfl (IntWalk.i64_in _ (by (try simp only [List.length_cons, List.length_nil]); omega))) ?_
      refine GL_cutToF flS rfl Tryd.underlying28 sz9 rfl rfl (by (try simp only [List.length_cons, List.length_nil]); omega) (by (try simp only [List.length_cons, List.length_nil]); omega) (fun _ => .head) ?_
      refine GL_step rfl (PS_assign rfl) ?_
      refine GL_nil ?_
      refine GQ_sub (.cons (k := 8) rfl (.nil _)) ?_
      refine GQ_then ?_
      refine G_ret ?_
      refine GQ_ret rfl (.tmp rfl .nil) ?_
      intro w1 hS
      have hS := (hS.perm (Pulls.perm (.cons .head .nil))).headL
      have hd := hI11.done (by first | (right; simpa using c2) | (left; omega))
      exact ⟨_, ⟨_, rfl, by rw [hd.2] at *; (try simp only [Hd.cut] at *); omega, by rw [hd.2]⟩, hS⟩
    · skip
      have c2p := c2
      try simp only [decide_eq_true_eq, decide_eq_false_iff_not, Bool.not_eq_true', Bool.not_eq_false', Bool.or_eq_true, Bool.and_eq_true, Bool.or_eq_false_iff, Bool.and_eq_false_iff, Int.not_lt, Int.not_le] at c2p
      obtain ⟨hm0, hm1, hnx⟩ := hI11.next rfl (by simpa using c2)
      refine G_skip ?_
      refine GQ_sub (.cons (k := 0) rfl (.cons (k := 1) rfl (.cons (k := 2) rfl (.cons (k := 3) rfl (.cons (k := 9) rfl (.cons (k := 10) rfl (.cons (k := 11) rfl (.nil _)))))))) ?_
      refine GQ_then ?_
      refine G_seq ?_
      refine G_region ?_
      refine GL_step rfl (PS_move rfl) ?_
      refine GL_step rfl (PS_move rfl) ?_
      refine GL_step rfl (PS_move rfl) ?_
      refine GL_step rfl (PS_move rfl) ?_
      refine GL_step rfl (PS_move rfl) ?_
      refine GL_step rfl (PS_add rfl rfl (IntWalk.i64_in _ (by (try simp only [List.length_cons, List.length_nil]); omega))) ?_
      refine GL_step rfl (PS_subSh Tryd.underlying9 rfl rfl (by (try simp only [List.length_cons, List.length_nil]); omega) (by (try simp only [List.length_cons, List.length_nil]); omega)) ?_
      refine GL_step rfl (PS_idxS is28 (by decide) (Kn.own (.head _)) rfl rfl (by omega) (by (try dsimp only); omega)) ?_
      refine GL_unit (PU_stStr rfl rfl sz9 (by have := hI11.len; omega) .head) ?_
      refine GL_nil ?_
      refine GQ_sub (.cons (k := 0) rfl (.cons (k := 1) rfl (.cons (k := 2) rfl (.cons (k := 3) rfl (.cons (k := 9) rfl (.cons (k := 10) rfl (.cons (k := 11) rfl (.nil _)))))))) ?_
      refine GQ_then ?_
      refine G_seq ?_
      refine G_region ?_
      refine GL_step rfl (PS_move rfl) ?_
      refine GL_step rfl (PS_move rfl) ?_
      refine GL_step rfl (PS_move rfl) ?_
      refine GL_step rfl (PS_len_str rfl Tryd.underlying9 rfl) ?_
      refine GL_step rfl (PS_add rfl rfl (IntWalk.i64_in _ (by (try simp only [List.length_cons, List.length_nil]); omega))) ?_
      refine GL_step rfl (PS_subSl Tryd.underlying9 rfl rfl (by (try simp only [List.length_cons, List.length_nil]); omega) (by (try simp only [List.length_cons, List.length_nil]); omega)) ?_
      refine GL_step rfl (PS_assign rfl) ?_
      refine GL_nil ?_
      refine GQ_sub (.cons (k := 0) rfl (.cons (k := 1) rfl (.cons (k := 2) rfl (.cons (k := 3) rfl (.cons (k := 9) rfl (.cons (k := 10) rfl (.nil _))))))) ?_
      refine GQ_then ?_
      refine G_region ?_
      refine GL_step rfl (PS_move rfl) ?_
      refine GL_step rfl (PS_add rfl rfl (IntWalk.i64_in _ (by (try simp only [List.length_cons, List.length_nil]); omega))) ?_
      refine GL_step rfl (PS_assign rfl) ?_
      refine GL_nil ?_
      refine GQ_sub (.cons (k := 0) rfl (.cons (k := 1) rfl (.cons (k := 2) rfl (.cons (k := 3) rfl (.cons (k := 9) rfl (.cons (k := 10) rfl (.nil _))))))) ?_
      refine GQ_block ?_
      refine GQ_next3_ (i + 1) _ _ ?_ ?_ (.cons (k := 0) rfl (.cons (k := 10) rfl (.cons (k := 1) rfl (.cons (k := 2) rfl (.cons (k := 3) rfl (.cons (k := 9) rfl (.nil _))))))) (.refl _)
      · rw [Int.add_zero]
        exact hnx
      · omega
  · skip
    have c1p := c1
    try simp only [decide_eq_true_eq, decide_eq_false_iff_not, Bool.not_eq_true', Bool.not_eq_false', Bool.or_eq_true, Bool.and_eq_true, Bool.or_eq_false_iff, Bool.and_eq_false_iff, Int.not_lt, Int.not_le] at c1p
    refine G_exit ?_
    refine GQ_then_exit ?_
    refine GQ_then_exit ?_
    refine GQ_block_exit ?_
    refine GQ_sub (.cons (k := 0) rfl (.cons (k := 9) rfl (.cons (k := 10) rfl (.nil _)))) ?_
    refine GQ_then ?_
    refine G_seq ?_
    refine G_region ?_
    refine GL_step rfl (PS_move rfl) ?_
    refine GL_step rfl (PS_move rfl) ?_
    refine GL_step rfl (PS_move rfl) ?_
    refine GL_step rfl (PS_idxS is28 (by decide) (Kn.own (.head _)) rfl rfl (by omega) (by (try dsimp only); omega)) ?_
    refine GL_unit (PU_stStr rfl rfl sz9 (by have := hI11.len; omega) .head) ?_
    refine GL_nil ?_
    refine GQ_sub (.cons (k := 9) rfl (.cons (k := 10) rfl (.nil _))) ?_
    refine GQ_then ?_
    refine G_seq ?_
    refine G_region ?_
    refine GL_step rfl (PS_move rfl) ?_
    refine GL_step rfl (PS_move rfl) ?_
    refine GL_step rfl (PS_add rfl rfl (IntWalk.i64_in _ (by (try simp only [List.length_cons, List.length_nil]); omega))) ?_
    refine GL_cutToF flS rfl Tryd.underlying28 sz9 rfl rfl (by (try simp only [List.length_cons, List.length_nil]); omega) (by (try simp only [List.length_cons, List.length_nil]); omega) (fun _ => .head) ?_
    refine GL_step rfl (PS_assign rfl) ?_
    refine GL_nil ?_
    refine GQ_sub (.cons (k := 8) rfl (.nil _)) ?_
    refine GQ_then ?_
    refine G_ret ?_
    refine GQ_ret rfl (.tmp rfl .nil) ?_
    intro w1 hS
    have hS := (hS.perm (Pulls.perm (.cons .head .nil))).headL
    have hd := hI11.done (by first | (right; simpa using c1) | (left; omega))
    exact ⟨_, ⟨_, rfl, by rw [hd.2] at *; (try simp only [Hd.cut] at *); omega, by rw [hd.2]⟩, hS⟩
theorem strings_Split_spec (s : Str) (c : UInt8) (hs : s.length ≤ 10000000) : Ctr Tryd.prog 30 #[vstr s, vstr [c]] [] (fun v B => ∃ h' : Hd, v = h'.val ∧ h'.len = (Words.pieces c s).length ∧ B = [Res.own h' 9 1 ((Words.pieces c s).flatMap encS)]) := by
  intro w hS0
  refine Ret_body _ _ Tryd.func30 rfl rfl rfl (hS0) ?_
  refine G_seq ?_
  refine G_region ?_
  refine GL_step rfl (PS_assign rfl) ?_
  refine GL_nil ?_
  refine GQ_sub (.cons (k := 0) rfl (.cons (k := 1) rfl (.nil _))) ?_
  refine GQ_then ?_
  refine G_seq ?_
  refine G_region ?_
  refine GL_step rfl (PS_move rfl) ?_
  refine GL_step rfl (PS_move rfl) ?_
  refine GL_callL rfl cf45 (.cons rfl (.cons rfl (.cons rfl (.cons rfl .nil)))) .nil (strings_genSplit_spec _ c hs) (fun v1 B hv => ?_)
  obtain ⟨y2, rfl, y3, rfl⟩ := hv
  refine GL_step rfl (PS_assign rfl) ?_
  refine GL_nil ?_
  refine GQ_sub (.cons (k := 4) rfl (.nil _)) ?_
  refine GQ_then ?_
  refine G_ret ?_
  refine GQ_ret rfl (.tmp rfl .nil) ?_
  intro w1 hS
  have hS := (hS.perm (Pulls.perm (.cons .head .nil))).headL
  exact ⟨_, ⟨_, rfl, by assumption, rfl⟩, hS⟩
theorem words_low_spec (u : Str) (hu : u.length ≤ 10000000) (w : World) : Ret Tryd.prog 31 #[vstr u] w fun v w' => v = vstr (Words.low u) ∧ Keep w w' := by
  refine Ret_body [] [] Tryd.func31 rfl rfl rfl (St.start w []) ?_
  refine G_seq ?_
  refine G_region ?_
  refine GL_step rfl (PS_assign rfl) ?_
  refine GL_nil ?_
  refine GQ_sub (.cons (k := 0) rfl (.nil _)) ?_
  refine GQ_then ?_
  refine G_seq ?_
  refine G_region ?_
  refine GL_step rfl (PS_move rfl) ?_
  refine GL_bytes rfl Tryd.underlying9 Tryd.underlying53 Tryd.underlying5 rfl (fun h1 h1l => ?_)
  refine GL_step rfl (PS_assign rfl) ?_
  refine GL_nil ?_
  refine GQ_sub (.cons (k := 3) rfl (.nil _)) ?_
  refine GQ_then ?_
  refine G_seq ?_
  refine G_seq ?_
  refine G_region ?_
  refine GL_step rfl (PS_move rfl) ?_
  refine GL_step rfl (PS_len_slice rfl Tryd.underlying53 rfl) ?_
  refine GL_step rfl (PS_move rfl) ?_
  refine GL_nil ?_
  refine GQ_then ?_
  refine G_block ?_
  refine G_subF (.cons (k := 10) rfl (.cons (k := 3) rfl (.cons (k := 8) rfl (.cons (k := 9) rfl (.nil _))))) ?_
  refine G_loop1_ (fun (k : Int) => 0 ≤ k ∧ k ≤ u.length) (fun (k : Int) => ((u.length : Int) - k).toNat) (fun (k : Int) => [(10, .int .i64 k)]) (fun (k : Int) => [Res.own h1 5 1 ((Words.lowK u k.toNat).flatMap encY)]) (0) ?_ rfl rfl (fun k hI1 => ?_)
  · exact ⟨by omega, by omega⟩
  obtain ⟨hI11, hI12⟩ := hI1
  refine G_seq ?_
  refine G_region ?_
  refine GL_step rfl (PS_lss rfl rfl) ?_
  refine GL_nil ?_
  refine GQ_then ?_
  refine G_seq ?_
  refine G_cond rfl (fun c1 => ?_) (fun c1 => ?_)
  · skip
    have c1p := c1
    try simp only [decide_eq_true_eq, decide_eq_false_iff_not, Bool.not_eq_true', Bool.not_eq_false', Bool.or_eq_true, Bool.and_eq_true, Bool.or_eq_false_iff, Bool.and_eq_false_iff, Int.not_lt, Int.not_le] at c1p
    have hat := Words.lowK_at (w := u) hI11 (by omega)
    have hc8 := (u.getD k.toNat 0).toNat_lt
    refine G_skip ?_
    refine GQ_sub (.cons (k := 3) rfl (.cons (k := 8) rfl (.cons (k := 9) rfl (.cons (k := 10) rfl (.nil _))))) ?_
    refine GQ_then ?_
    refine G_seq ?_
    refine G_block ?_
    refine G_seq ?_
    refine G_region ?_
    refine GL_step rfl (PS_move rfl) ?_
    refine GL_step rfl (PS_idxS is53 (by decide) (Kn.own (.head _)) rfl rfl (by omega) (by omega)) ?_
    refine GL_step rfl (PS_ldY rfl tys5 (Kn.own (.head _)) (by rw [Words.lowK_len]; omega)) ?_
    refine GL_step rfl (PS_assign rfl) ?_
    refine GL_step rfl (PS_assign rfl) ?_
    refine GL_nil ?_
    refine GQ_sub (.cons (k := 3) rfl (.cons (k := 4) rfl (.cons (k := 5) rfl (.cons (k := 8) rfl (.cons (k := 9) rfl (.cons (k := 10) rfl (.nil _))))))) ?_
    refine GQ_then ?_
    refine G_seq ?_
    refine G_region ?_
    refine GL_step rfl (PS_move rfl) ?_
    refine GL_step rfl (PS_geq rfl rfl) ?_
    refine GL_step rfl (PS_move rfl) ?_
    refine GL_gt (t := 17) rfl rfl rfl (fun q => PS_move rfl) ?_
    refine GL_gt (t := 17) rfl rfl rfl (fun q => PS_leq (cvE rfl q) rfl) ?_
    refine GL_step rfl (PS_and rfl rfl (fun h => h)) ?_
    refine GL_nil ?_
    refine GQ_sub (.cons (k := 3) rfl (.cons (k := 4) rfl (.cons (k := 5) rfl (.cons (k := 8) rfl (.cons (k := 9) rfl (.cons (k := 10) rfl (.cons (k := 20) rfl (.nil _)))))))) ?_
    refine GQ_then ?_
    refine G_cond rfl (fun c2 => ?_) (fun c2 => ?_)
    · skip
      have c2p := c2
      try simp only [decide_eq_true_eq, decide_eq_false_iff_not, Bool.not_eq_true', Bool.not_eq_false', Bool.or_eq_true, Bool.and_eq_true, Bool.or_eq_false_iff, Bool.and_eq_false_iff, Int.not_lt, Int.not_le] at c2p
      rw [hat] at c2
      have hset := Words.lowK_set (w := u) hI11 (by omega)
      rw [← Words.lowB_up c2] at hset
      refine G_region ?_
      refine GL_step rfl (PS_move rfl) ?_
      refine GL_step rfl (PS_move rfl) ?_
      refine GL_step rfl (PS_move rfl) ?_
      refine GL_step rfl (PS_add rfl rfl (IntWalk.u8_in _ (by (try simp only [hat] at c2p ⊢); omega))) ?_
      refine GL_step rfl (PS_sub rfl rfl (IntWalk.u8_in _ (by (try simp only [hat] at c2p ⊢); omega))) ?_
      refine GL_step rfl (PS_idxS is53 (by decide) (Kn.own (.head _)) rfl rfl (by omega) (by omega)) ?_
      refine GL_unit (PU_stY rfl rfl (by simp only [hat] at c2p ⊢; omega) sz5 (by rw [Words.lowK_len]; omega) .head) ?_
      refine GL_nil ?_
      refine GQ_sub (.cons (k := 3) rfl (.cons (k := 8) rfl (.cons (k := 9) rfl (.cons (k := 10) rfl (.nil _))))) ?_
      refine GQ_block ?_
      refine GQ_then ?_
      refine G_region ?_
      refine GL_step rfl (PS_add rfl rfl (IntWalk.i64_in _ (by (try simp only [hat] at c2p ⊢); omega))) ?_
      refine GL_step rfl (PS_move rfl) ?_
      refine GL_nil ?_
      refine GQ_sub (.cons (k := 3) rfl (.cons (k := 8) rfl (.cons (k := 9) rfl (.cons (k := 10) rfl (.nil _))))) ?_
      refine GQ_next1_ (k + 1) ?_ ?_ (.cons (k := 10) rfl (.cons (k := 3) rfl (.cons (k := 8) rfl (.cons (k := 9) rfl (.nil _))))) (by rw [← hset]; first | exact (.refl _) | (rw [← hat]; exact (.refl _)))
      · exact ⟨by omega, by omega⟩
      · omega
    · skip
      have c2p := c2
      try simp only [decide_eq_true_eq, decide_eq_false_iff_not, Bool.not_eq_true', Bool.not_eq_false', Bool.or_eq_true, Bool.and_eq_true, Bool.or_eq_false_iff, Bool.and_eq_false_iff, Int.not_lt, Int.not_le] at c2p
      rw [hat] at c2
      have hset := Words.lowK_same (w := u) hI11 (by omega) (Words.lowB_no c2)
      refine G_skip ?_
      refine GQ_sub (.cons (k := 3) rfl (.cons (k := 8) rfl (.cons (k := 9) rfl (.cons (k := 10) rfl (.nil _))))) ?_
      refine GQ_block ?_
      refine GQ_then ?_
      refine G_region ?_
      refine GL_step rfl (PS_add rfl rfl (IntWalk.i64_in _ (by (try simp only [hat] at c2p ⊢); omega))) ?_
      refine GL_step rfl (PS_move rfl) ?_
      refine GL_nil ?_
      refine GQ_sub (.cons (k := 3) rfl (.cons (k := 8) rfl (.cons (k := 9) rfl (.cons (k := 10) rfl (.nil _))))) ?_
      refine GQ_next1_ (k + 1) ?_ ?_ (.cons (k := 10) rfl (.cons (k := 3) rfl (.cons (k := 8) rfl (.cons (k := 9) rfl (.nil _))))) (by rw [← hset]; first | exact (.refl _) | (rw [← hat]; exact (.refl _)))
      · exact ⟨by omega, by omega⟩
      · omega
  · skip
    have c1p := c1
    try simp only [decide_eq_true_eq, decide_eq_false_iff_not, Bool.not_eq_true', Bool.not_eq_false', Bool.or_eq_true, Bool.and_eq_true, Bool.or_eq_false_iff, Bool.and_eq_false_iff, Int.not_lt, Int.not_le] at c1p
    refine G_exit ?_
    refine GQ_then_exit ?_
    refine GQ_then_exit ?_
    refine GQ_block_exit ?_
    refine GQ_sub (.cons (k := 3) rfl (.nil _)) ?_
    refine GQ_then ?_
    refine G_seq ?_
    refine G_region ?_
    refine GL_step rfl (PS_move rfl) ?_
    refine GL_step rfl (PS_string Tryd.underlying53 Tryd.underlying9 Tryd.underlying5 rfl (Kn.own (.head _))) ?_
    refine GL_step rfl (PS_assign rfl) ?_
    refine GL_nil ?_
    refine GQ_sub (.cons (k := 2) rfl (.nil _)) ?_
    refine GQ_then ?_
    refine G_ret ?_
    refine GQ_ret rfl (.tmp rfl .nil) ?_
    intro w1 hS; refine ⟨?_, hS.toKeep⟩; obtain rfl : k = u.length := by omega
    rw [show (u.length : Int).toNat = u.length by omega, Words.lowK_all]; rfl
theorem words_Split_spec (s : Str) (hs : s.length ≤ 4000000) : Ctr Tryd.prog 11 #[vstr s] [] (fun v B => ∃ h' : Hd, v = h'.val ∧ h'.len = (Words.words s).length ∧ B = [Res.own h' 9 1 ((Words.words s).flatMap encS)]) := by
  intro w hS0
  have hpl := Words.pieces_len 32 s
  have hcl := List.count_le_length (a := (32 : UInt8)) (l := s)
  refine Ret_body _ _ Tryd.func11 rfl rfl rfl (hS0) ?_
  refine G_seq ?_
  refine G_region ?_
  refine GL_step rfl (PS_assign rfl) ?_
  refine GL_nil ?_
  refine GQ_sub (.cons (k := 0) rfl (.nil _)) ?_
  refine GQ_then ?_
  refine G_seq ?_
  refine G_region ?_
  refine GL_step rfl (PS_assign rfl) ?_
  refine GL_nil ?_
  refine GQ_then ?_
  refine G_seq ?_
  refine G_seq ?_
  refine G_region ?_
  refine GL_step rfl (PS_move rfl) ?_
  refine GL_callL rfl cf30 (.cons rfl (.cons rfl .nil)) .nil (strings_Split_spec _ 32 (by omega)) (fun v1 B hv => ?_)
  obtain ⟨y2, rfl, y3, rfl⟩ := hv
  refine GL_step rfl (PS_len_slice rfl Tryd.underlying28 rfl) ?_
  refine GL_step rfl (PS_move rfl) ?_
  refine GL_nil ?_
  refine GQ_sub (.cons (k := 3) rfl (.cons (k := 7) rfl (.cons (k := 8) rfl (.cons (k := 9) rfl (.nil _))))) ?_
  refine GQ_then ?_
  refine G_block ?_
  refine G_subF (.cons (k := 3) rfl (.cons (k := 9) rfl (.cons (k := 7) rfl (.cons (k := 8) rfl (.nil _))))) ?_
  refine G_nilF encS 9 1 ?_
  refine G_loop3_ (fun (k : Int) (xs : List Str) (g : Hd) => 0 ≤ k ∧ k ≤ ((Words.pieces 32 s).length : Int) ∧ xs = Words.wordsK s k.toNat ∧ g.len = xs.length ∧ xs.length ≤ k.toNat) (fun (k : Int) (xs : List Str) (g : Hd) => (((Words.pieces 32 s).length : Int) - k).toNat) (fun (k : Int) (xs : List Str) (g : Hd) => [(3, g.val), (9, .int .i64 k)]) (fun (k : Int) (xs : List Str) (g : Hd) => [Res.own g 9 1 (xs.flatMap encS)]) (0) ([]) (_) ?_ rfl rfl (fun k xs g hI1 => ?_)
  · exact ⟨by omega, by omega, rfl, rfl, by simp⟩
  obtain ⟨hI11, hI12, hI13, hI14, hI15⟩ := hI1
  refine G_seq ?_
  refine G_region ?_
  refine GL_step rfl (PS_lss rfl rfl) ?_
  refine GL_nil ?_
  refine GQ_then ?_
  refine G_seq ?_
  refine G_cond rfl (fun c1 => ?_) (fun c1 => ?_)
  · skip
    have c1p := c1
    try simp only [decide_eq_true_eq, decide_eq_false_iff_not, Bool.not_eq_true', Bool.not_eq_false', Bool.or_eq_true, Bool.and_eq_true, Bool.or_eq_false_iff, Bool.and_eq_false_iff, Int.not_lt, Int.not_le] at c1p
    refine G_skip ?_
    refine GQ_sub (.cons (k := 3) rfl (.cons (k := 7) rfl (.cons (k := 8) rfl (.cons (k := 9) rfl (.nil _))))) ?_
    refine GQ_then ?_
    refine G_seq ?_
    refine G_block ?_
    refine G_seq ?_
    refine G_region ?_
    refine GL_step rfl (PS_idxS is28 (by decide) (Kn.own (.tail _ (.head _))) rfl rfl (by omega) (by omega)) ?_
    refine GL_step rfl (PS_ldStr rfl tys9 (Kn.own (.tail _ (.head _))) (by omega)) ?_
    refine GL_step rfl (PS_assign rfl) ?_
    refine GL_nil ?_
    refine GQ_sub (.cons (k := 3) rfl (.cons (k := 5) rfl (.cons (k := 7) rfl (.cons (k := 8) rfl (.cons (k := 9) rfl (.nil _)))))) ?_
    refine GQ_then ?_
    refine G_seq ?_
    refine G_region ?_
    refine GL_step rfl (PS_move rfl) ?_
    refine GL_step rfl (PS_neq_str rfl rfl) ?_
    refine GL_nil ?_
    refine GQ_sub (.cons (k := 3) rfl (.cons (k := 5) rfl (.cons (k := 7) rfl (.cons (k := 8) rfl (.cons (k := 9) rfl (.cons (k := 14) rfl (.nil _))))))) ?_
    refine GQ_then ?_
    refine G_cond rfl (fun c2 => ?_) (fun c2 => ?_)
    · skip
      have c2p := c2
      try simp only [decide_eq_true_eq, decide_eq_false_iff_not, Bool.not_eq_true', Bool.not_eq_false', Bool.or_eq_true, Bool.and_eq_true, Bool.or_eq_false_iff, Bool.and_eq_false_iff, Int.not_lt, Int.not_le] at c2p
      refine G_region ?_
      refine GL_step rfl (PS_move rfl) ?_
      refine GL_step rfl (PS_move rfl) ?_
      refine GL_pure rfl cf31 (.cons rfl .nil) (fun w hS => words_low_spec _ (by have := Words.pieces_le (c := 32) (s := s) k.toNat; omega) w) ?_
      refine GL_bs1F encS flS rfl Tryd.underlying28 sz9 zv9 rfl (by decide) (by decide) rfl rfl (fun b1 => ?_)
      refine GL_appendF flS rfl Tryd.underlying28 sz9 zv9 rfl by9 (by decide) (by decide) rfl rfl (fun w hS => Src.sliceT Tryd.underlying28 ((Kn.own (.head _)) w hS)) (by (try dsimp only); omega) (fun _ => (.tail .head)) (fun h5 h5l h5z => ?_)
      refine GL_step rfl (PS_assign rfl) ?_
      refine GL_nil ?_
      refine GQ_sub (.cons (k := 3) rfl (.cons (k := 7) rfl (.cons (k := 8) rfl (.cons (k := 9) rfl (.nil _))))) ?_
      refine GQ_block ?_
      refine GQ_then ?_
      refine G_region ?_
      refine GL_step rfl (PS_add rfl rfl (IntWalk.i64_in _ (by omega))) ?_
      refine GL_step rfl (PS_move rfl) ?_
      refine GL_nil ?_
      refine GQ_sub (.cons (k := 3) rfl (.cons (k := 7) rfl (.cons (k := 8) rfl (.cons (k := 9) rfl (.nil _))))) ?_
      refine GQ_next3_ (k + 1) _ _ ?_ ?_ (.cons (k := 3) rfl (.cons (k := 9) rfl (.cons (k := 7) rfl (.cons (k := 8) rfl (.nil _))))) (.cons _ (.refl _))
      · exact ⟨by omega, by omega, by rw [Words.wordsK_t hI11 (by omega) c2, ← hI13], (by (try dsimp only at *) <;> (try simp only [List.length_append, List.length_cons, List.length_nil]) <;> omega), (by (try simp only [List.length_append, List.length_cons, List.length_nil]); omega)⟩
      · omega
    · skip
      have c2p := c2
      try simp only [decide_eq_true_eq, decide_eq_false_iff_not, Bool.not_eq_true', Bool.not_eq_false', Bool.or_eq_true, Bool.and_eq_true, Bool.or_eq_false_iff, Bool.and_eq_false_iff, Int.not_lt, Int.not_le] at c2p
      refine G_skip ?_
      refine GQ_sub (.cons (k := 3) rfl (.cons (k := 7) rfl (.cons (k := 8) rfl (.cons (k := 9) rfl (.nil _))))) ?_
      refine GQ_block ?_
      refine GQ_then ?_
      refine G_region ?_
      refine GL_step rfl (PS_add rfl rfl (IntWalk.i64_in _ (by omega))) ?_
      refine GL_step rfl (PS_move rfl) ?_
      refine GL_nil ?_
      refine GQ_sub (.cons (k := 3) rfl (.cons (k := 7) rfl (.cons (k := 8) rfl (.cons (k := 9) rfl (.nil _))))) ?_
      refine GQ_next3_ (k + 1) _ _ ?_ ?_ (.cons (k := 3) rfl (.cons (k := 9) rfl (.cons (k := 7) rfl (.cons (k := 8) rfl (.nil _))))) (.refl _)
      · exact ⟨by omega, by omega, by rw [Words.wordsK_f hI11 (by omega) c2, ← hI13], (by (try dsimp only at *) <;> (try simp only [List.length_append, List.length_cons, List.length_nil]) <;> omega), (by (try simp only [List.length_append, List.length_cons, List.length_nil]); omega)⟩
      · omega
  · skip
    have c1p := c1
    try simp only [decide_eq_true_eq, decide_eq_false_iff_not, Bool.not_eq_true', Bool.not_eq_false', Bool.or_eq_true, Bool.and_eq_true, Bool.or_eq_false_iff, Bool.and_eq_false_iff, Int.not_lt, Int.not_le] at c1p
    obtain rfl : k = ((Words.pieces 32 s).length : Int) := by omega
    refine G_exit ?_
    refine GQ_then_exit ?_
    refine GQ_then_exit ?_
    refine GQ_block_exit ?_
    refine GQ_sub (.cons (k := 3) rfl (.nil _)) ?_
    refine GQ_then ?_
    refine G_seq ?_
    refine G_region ?_
    refine GL_step rfl (PS_move rfl) ?_
    refine GL_step rfl (PS_assign rfl) ?_
    refine GL_nil ?_
    refine GQ_sub (.cons (k := 2) rfl (.nil _)) ?_
    refine GQ_then ?_
    refine G_ret ?_
    refine GQ_ret rfl (.tmp rfl .nil) ?_
    intro w1 hS
    have hS := (hS.perm (Pulls.perm (.cons .head .nil))).headL
    exact ⟨_, ⟨_, rfl, by rw [Words.wordsK_all, ← hI13]; assumption, by rw [Words.wordsK_all, ← hI13]⟩, hS⟩
theorem internal_stringslite_HasPrefix_spec (s p : Str) (w : World) : Ret Tryd.prog 47 #[vstr s, vstr p] w fun v w' => v = .bool (decide ((p.length : Int) ≤ (s.length : Int)) && decide (s.take p.length = p)) ∧ Keep w w' := by
  refine Ret_body [] [] Tryd.func47 rfl rfl rfl (St.start w []) ?_
  refine G_seq ?_
  refine G_region ?_
  refine GL_step rfl (PS_assign rfl) ?_
  refine GL_nil ?_
  refine GQ_sub (.cons (k := 0) rfl (.cons (k := 1) rfl (.nil _))) ?_
  refine GQ_then ?_
  refine G_seq ?_
  refine G_region ?_
  refine GL_step rfl (PS_move rfl) ?_
  refine GL_step rfl (PS_len_str rfl Tryd.underlying9 rfl) ?_
  refine GL_step rfl (PS_move rfl) ?_
  refine GL_step rfl (PS_len_str rfl Tryd.underlying9 rfl) ?_
  refine GL_step rfl (PS_geq rfl rfl) ?_
  refine GL_step rfl (PS_move rfl) ?_
  refine GL_gt (t := 10) rfl rfl rfl (fun q => PS_move rfl) ?_
  refine GL_gt (t := 10) rfl rfl rfl (fun q => PS_move rfl) ?_
  refine GL_gt (t := 10) rfl rfl rfl (fun q => PS_len_str rfl Tryd.underlying9 (cvE rfl q)) ?_
  refine GL_gt (t := 10) rfl rfl rfl (fun q => by have q1 := q; (try simp at q1); exact PS_subSh Tryd.underlying9 (cvE rfl q) (cvE rfl q) (by omega) (by omega)) ?_
  refine GL_gt (t := 10) rfl rfl rfl (fun q => PS_move rfl) ?_
  refine GL_gt (t := 10) rfl rfl rfl (fun q => PS_eql_str (cvE rfl q) (cvE rfl q)) ?_
  refine GL_step rfl (PS_and rfl rfl (fun h => h)) ?_
  refine GL_step rfl (PS_assign rfl) ?_
  refine GL_nil ?_
  refine GQ_sub (.cons (k := 4) rfl (.nil _)) ?_
  refine GQ_then ?_
  refine G_ret ?_
  refine GQ_ret rfl (.tmp rfl .nil) ?_
  intro w1 hS; refine ⟨?_, hS.toKeep⟩; rfl
theorem strings_HasPrefix_spec (s p : Str) (w : World) : Ret Tryd.prog 33 #[vstr s, vstr p] w fun v w' => v = .bool (decide ((p.length : Int) ≤ (s.length : Int)) && decide (s.take p.length = p)) ∧ Keep w w' := by
  refine Ret_body [] [] Tryd.func33 rfl rfl rfl (St.start w []) ?_
  refine G_seq ?_
  refine G_region ?_
  refine GL_step rfl (PS_assign rfl) ?_
  refine GL_nil ?_
  refine GQ_sub (.cons (k := 0) rfl (.cons (k := 1) rfl (.nil _))) ?_
  refine GQ_then ?_
  refine G_seq ?_
  refine G_region ?_
  refine GL_step rfl (PS_move rfl) ?_
  refine GL_step rfl (PS_move rfl) ?_
  refine GL_pure rfl cf47 (.cons rfl (.cons rfl .nil)) (fun w hS => internal_stringslite_HasPrefix_spec _ _ w) ?_
  refine GL_step rfl (PS_assign rfl) ?_
  refine GL_nil ?_
  refine GQ_sub (.cons (k := 4) rfl (.nil _)) ?_
  refine GQ_then ?_
  refine G_ret ?_
  refine GQ_ret rfl (.tmp rfl .nil) ?_
  intro w1 hS; refine ⟨?_, hS.toKeep⟩; rfl
theorem words_Verb_spec (u : Str) (w : World) (gl0 : GV 0 Land.verbsV w) : Ret Tryd.prog 14 #[vstr u] w fun v w' => v = .tuple #[.int .i64 (Words.verb u).1, .int .i64 (Words.verb u).2] ∧ Keep w w' := by
  refine Ret_body [] [] Tryd.func14 rfl rfl rfl (St.start w []) ?_
  refine G_seq ?_
  refine G_region ?_
  refine GL_step rfl (PS_assign rfl) ?_
  refine GL_step rfl (PS_assign rfl) ?_
  refine GL_nil ?_
  refine GQ_sub (.cons (k := 0) rfl (.nil _)) ?_
  refine GQ_then ?_
  refine G_seq ?_
  refine G_seq ?_
  refine G_region ?_
  refine GL_step rfl (PS_move rfl) ?_
  refine GL_step rfl (PS_neq_str rfl rfl) ?_
  refine GL_nil ?_
  refine GQ_sub (.cons (k := 0) rfl (.cons (k := 7) rfl (.nil _))) ?_
  refine GQ_then ?_
  refine G_cond rfl (fun c1 => ?_) (fun c1 => ?_)
  · skip
    have c1p := c1
    try simp only [decide_eq_true_eq, decide_eq_false_iff_not, Bool.not_eq_true', Bool.not_eq_false', Bool.or_eq_true, Bool.and_eq_true, Bool.or_eq_false_iff, Bool.and_eq_false_iff, Int.not_lt, Int.not_le] at c1p
    refine G_seq ?_
    refine G_region ?_
    refine GL_step rfl (PS_ldGVA gl0 Words.verbsA_enc rfl tya46 rfl) ?_
    refine GL_step rfl (PS_move rfl) ?_
    refine GL_nil ?_
    refine GQ_sub (.cons (k := 0) rfl (.cons (k := 8) rfl (.cons (k := 9) rfl (.nil _)))) ?_
    refine GQ_then ?_
    refine G_block ?_
    refine G_subF (.cons (k := 9) rfl (.cons (k := 0) rfl (.cons (k := 8) rfl (.nil _)))) ?_
    refine G_loop1_ (fun (k : Int) => 0 ≤ k ∧ k ≤ 21 ∧ Words.verbF u 21 = Words.verbF u (21 - k).toNat) (fun (k : Int) => (21 - k).toNat) (fun (k : Int) => [(9, .int .i64 k)]) (fun (k : Int) => []) (0) ?_ rfl rfl (fun k hI1 => ?_)
    · exact ⟨by omega, by omega, rfl⟩
    obtain ⟨hI11, hI12, hI13⟩ := hI1
    refine G_seq ?_
    refine G_region ?_
    refine GL_step rfl (PS_lss rfl rfl) ?_
    refine GL_nil ?_
    refine GQ_then ?_
    refine G_seq ?_
    refine G_cond rfl (fun c2 => ?_) (fun c2 => ?_)
    · skip
      have c2p := c2
      try simp only [decide_eq_true_eq, decide_eq_false_iff_not, Bool.not_eq_true', Bool.not_eq_false', Bool.or_eq_true, Bool.and_eq_true, Bool.or_eq_false_iff, Bool.and_eq_false_iff, Int.not_lt, Int.not_le] at c2p
      rw [Words.verbF_step hI11 (by omega)] at hI13
      refine G_skip ?_
      refine GQ_sub (.cons (k := 0) rfl (.cons (k := 8) rfl (.cons (k := 9) rfl (.nil _)))) ?_
      refine GQ_then ?_
      refine G_seq ?_
      refine G_block ?_
      refine G_seq ?_
      refine G_region ?_
      refine GL_step rfl (PS_move rfl) ?_
      refine GL_step rfl (PS_indexA flS Tryd.underlying46 sz9 tys9 rfl rfl (by omega) (by omega) rfl) ?_
      refine GL_step rfl (PS_assign rfl) ?_
      refine GL_step rfl (PS_assign rfl) ?_
      refine GL_nil ?_
      refine GQ_sub (.cons (k := 0) rfl (.cons (k := 4) rfl (.cons (k := 5) rfl (.cons (k := 8) rfl (.cons (k := 9) rfl (.nil _)))))) ?_
      refine GQ_then ?_
      refine G_seq ?_
      refine G_region ?_
      refine GL_step rfl (PS_move rfl) ?_
      refine GL_step rfl (PS_move rfl) ?_
      refine GL_pure rfl cf33 (.cons rfl (.cons rfl .nil)) (fun w hS => strings_HasPrefix_spec _ _ w) ?_
      refine GL_nil ?_
      refine GQ_sub (.cons (k := 0) rfl (.cons (k := 4) rfl (.cons (k := 8) rfl (.cons (k := 9) rfl (.cons (k := 15) rfl (.nil _)))))) ?_
      refine GQ_then ?_
      refine G_cond rfl (fun c3 => ?_) (fun c3 => ?_)
      · skip
        have c3p := c3
        try simp only [decide_eq_true_eq, decide_eq_false_iff_not, Bool.not_eq_true', Bool.not_eq_false', Bool.or_eq_true, Bool.and_eq_true, Bool.or_eq_false_iff, Bool.and_eq_false_iff, Int.not_lt, Int.not_le] at c3p
        have cp : Words.pre (Land.verbs.getD k.toNat []) u = true := c3
        refine G_seq ?_
        refine G_region ?_
        refine GL_step rfl (PS_move rfl) ?_
        refine GL_step rfl (PS_assign rfl) ?_
        refine GL_step rfl (PS_assign rfl) ?_
        refine GL_nil ?_
        refine GQ_sub (.cons (k := 2) rfl (.cons (k := 3) rfl (.nil _))) ?_
        refine GQ_then ?_
        refine G_ret ?_
        refine GQ_block_ret ?_
        refine GQ_then_ret ?_
        refine GQ_then_ret ?_
        refine GQ_block_ret ?_
        refine GQ_then_ret ?_
        refine GQ_ret rfl (.tmp rfl (.tmp rfl .nil)) ?_
        intro w1 hS; refine ⟨?_, hS.toKeep⟩; rw [show Words.verb u = _ from if_t c1, hI13, if_t cp]; rfl
      · skip
        have c3p := c3
        try simp only [decide_eq_true_eq, decide_eq_false_iff_not, Bool.not_eq_true', Bool.not_eq_false', Bool.or_eq_true, Bool.and_eq_true, Bool.or_eq_false_iff, Bool.and_eq_false_iff, Int.not_lt, Int.not_le] at c3p
        have cp : Words.pre (Land.verbs.getD k.toNat []) u = false := c3
        refine G_skip ?_
        refine GQ_sub (.cons (k := 0) rfl (.cons (k := 8) rfl (.cons (k := 9) rfl (.nil _)))) ?_
        refine GQ_block ?_
        refine GQ_then ?_
        refine G_region ?_
        refine GL_step rfl (PS_add rfl rfl (IntWalk.i64_in _ (by omega))) ?_
        refine GL_step rfl (PS_move rfl) ?_
        refine GL_nil ?_
        refine GQ_sub (.cons (k := 0) rfl (.cons (k := 8) rfl (.cons (k := 9) rfl (.nil _)))) ?_
        refine GQ_next1_ (k + 1) ?_ ?_ (.cons (k := 9) rfl (.cons (k := 0) rfl (.cons (k := 8) rfl (.nil _)))) (.refl _)
        · exact ⟨by omega, by omega, by rw [hI13, if_f cp]⟩
        · omega
    · skip
      have c2p := c2
      try simp only [decide_eq_true_eq, decide_eq_false_iff_not, Bool.not_eq_true', Bool.not_eq_false', Bool.or_eq_true, Bool.and_eq_true, Bool.or_eq_false_iff, Bool.and_eq_false_iff, Int.not_lt, Int.not_le] at c2p
      obtain rfl : k = 21 := by omega
      refine G_exit ?_
      refine GQ_then_exit ?_
      refine GQ_then_exit ?_
      refine GQ_block_exit ?_
      refine GQ_sub (.nil _) ?_
      refine GQ_then ?_
      refine G_seq ?_
      refine G_region ?_
      refine GL_step rfl (PS_assign rfl) ?_
      refine GL_step rfl (PS_assign rfl) ?_
      refine GL_nil ?_
      refine GQ_then ?_
      refine G_ret ?_
      refine GQ_ret rfl (.tmp rfl (.tmp rfl .nil)) ?_
      intro w1 hS; refine ⟨?_, hS.toKeep⟩; rw [show Words.verb u = _ from if_t c1, hI13]; rfl
  · skip
    have c1p := c1
    try simp only [decide_eq_true_eq, decide_eq_false_iff_not, Bool.not_eq_true', Bool.not_eq_false', Bool.or_eq_true, Bool.and_eq_true, Bool.or_eq_false_iff, Bool.and_eq_false_iff, Int.not_lt, Int.not_le] at c1p
    refine G_skip ?_
    refine GQ_sub (.nil _) ?_
    refine GQ_then ?_
    refine G_seq ?_
    refine G_region ?_
    refine GL_step rfl (PS_assign rfl) ?_
    refine GL_step rfl (PS_assign rfl) ?_
    refine GL_nil ?_
    refine GQ_then ?_
    refine G_ret ?_
    refine GQ_ret rfl (.tmp rfl (.tmp rfl .nil)) ?_
    intro w1 hS; refine ⟨?_, hS.toKeep⟩; rw [show Words.verb u = _ from if_f c1]; rfl
theorem strings_trimLeftByte_spec (s : Str) (c : UInt8) (hs : s.length ≤ 10000000) (w : World) : Ret Tryd.prog 38 #[vstr s, .int .u8 (c.toNat : Int)] w fun v w' => v = vstr (Words.trL c s) ∧ Keep w w' := by
  refine Ret_body [] [] Tryd.func38 rfl rfl rfl (St.start w []) ?_
  refine G_seq ?_
  refine G_region ?_
  refine GL_step rfl (PS_assign rfl) ?_
  refine GL_nil ?_
  refine GQ_sub (.cons (k := 0) rfl (.cons (k := 1) rfl (.nil _))) ?_
  refine GQ_then ?_
  refine G_seq ?_
  refine G_block ?_
  refine G_subF (.cons (k := 0) rfl (.cons (k := 1) rfl (.nil _))) ?_
  refine G_loop1_ (fun (r : Str) => Words.trL c s = Words.trL c r ∧ r.length ≤ s.length) (fun (r : Str) => r.length) (fun (r : Str) => [(0, vstr r)]) (fun (r : Str) => []) (s) ?_ rfl rfl (fun r hI1 => ?_)
  · exact ⟨rfl, Nat.le_refl _⟩
  obtain ⟨hI11, hI12⟩ := hI1
  refine G_seq ?_
  refine G_seq ?_
  refine G_region ?_
  refine GL_step rfl (PS_move rfl) ?_
  refine GL_step rfl (PS_len_str rfl Tryd.underlying9 rfl) ?_
  refine GL_step rfl (PS_gtr rfl rfl) ?_
  refine GL_step rfl (PS_move rfl) ?_
  refine GL_gt (t := 8) rfl rfl rfl (fun q => PS_move rfl) ?_
  refine GL_gt (t := 8) rfl rfl rfl (fun q => by have q1 := q; (try simp at q1); exact PS_index_str Tryd.underlying9 (cvE rfl q) rfl (by decide) (by omega)) ?_
  refine GL_gt (t := 8) rfl rfl rfl (fun q => PS_move rfl) ?_
  refine GL_gt (t := 8) rfl rfl rfl (fun q => PS_eql (cvE rfl q) (cvE rfl q)) ?_
  refine GL_step rfl (PS_and rfl rfl (fun h => h)) ?_
  refine GL_nil ?_
  refine GQ_sub (.cons (k := 0) rfl (.cons (k := 1) rfl (.cons (k := 13) rfl (.nil _)))) ?_
  refine GQ_then ?_
  refine G_cond rfl (fun c1 => ?_) (fun c1 => ?_)
  · skip
    have c1p := c1
    try simp only [decide_eq_true_eq, decide_eq_false_iff_not, Bool.not_eq_true', Bool.not_eq_false', Bool.or_eq_true, Bool.and_eq_true, Bool.or_eq_false_iff, Bool.and_eq_false_iff, Int.not_lt, Int.not_le] at c1p
    have hlt : 0 < r.length := by simp at c1; omega
    refine G_skip ?_
    refine GQ_sub (.cons (k := 0) rfl (.cons (k := 1) rfl (.nil _))) ?_
    refine GQ_then ?_
    refine G_block ?_
    refine G_region ?_
    refine GL_step rfl (PS_move rfl) ?_
    refine GL_step rfl (PS_subSl Tryd.underlying9 rfl rfl (by decide) (by omega)) ?_
    refine GL_step rfl (PS_assign rfl) ?_
    refine GL_nil ?_
    refine GQ_sub (.cons (k := 0) rfl (.cons (k := 1) rfl (.nil _))) ?_
    refine GQ_block ?_
    refine GQ_next1_ _ ?_ ?_ (.cons (k := 0) rfl (.cons (k := 1) rfl (.nil _))) (.refl _)
    · exact ⟨by rw [hI11, Words.trL_t c1] <;> rfl, by first | (simp; done) | (simp; omega)⟩
    · first | (simp; done) | (simp; omega)
  · skip
    have c1p := c1
    try simp only [decide_eq_true_eq, decide_eq_false_iff_not, Bool.not_eq_true', Bool.not_eq_false', Bool.or_eq_true, Bool.and_eq_true, Bool.or_eq_false_iff, Bool.and_eq_false_iff, Int.not_lt, Int.not_le] at c1p
    refine G_exit ?_
    refine GQ_then_exit ?_
    refine GQ_then_exit ?_
    refine GQ_block_exit ?_
    refine GQ_sub (.cons (k := 0) rfl (.nil _)) ?_
    refine GQ_then ?_
    refine G_seq ?_
    refine G_region ?_
    refine GL_step rfl (PS_move rfl) ?_
    refine GL_step rfl (PS_assign rfl) ?_
    refine GL_nil ?_
    refine GQ_sub (.cons (k := 4) rfl (.nil _)) ?_
    refine GQ_then ?_
    refine G_ret ?_
    refine GQ_ret rfl (.tmp rfl .nil) ?_
    intro w1 hS; refine ⟨?_, hS.toKeep⟩; rw [hI11, Words.trL_f c1]; rfl
theorem strings_TrimLeft_spec (s : Str) (hs : s.length ≤ 10000000) (w : World) : Ret Tryd.prog 26 #[vstr s, vstr [32]] w fun v w' => v = vstr (Words.trL 32 s) ∧ Keep w w' := by
  refine Ret_body [] [] Tryd.func26 rfl rfl rfl (St.start w []) ?_
  refine G_seq ?_
  refine G_region ?_
  refine GL_step rfl (PS_assign rfl) ?_
  refine GL_nil ?_
  refine GQ_sub (.cons (k := 0) rfl (.cons (k := 1) rfl (.nil _))) ?_
  refine GQ_then ?_
  refine G_seq ?_
  refine G_seq ?_
  refine G_region ?_
  refine GL_step rfl (PS_move rfl) ?_
  refine GL_step rfl (PS_eql_str rfl rfl) ?_
  refine GL_step rfl (PS_move rfl) ?_
  refine GL_gf (t := 9) rfl rfl rfl (fun q => PS_move rfl) ?_
  refine GL_gf (t := 9) rfl rfl rfl (fun q => PS_eql_str (cvE rfl (by rw [q]; rfl)) rfl) ?_
  refine GL_step rfl (PS_or rfl rfl (fun h => by rw [h]; rfl)) ?_
  refine GL_nil ?_
  refine GQ_sub (.cons (k := 0) rfl (.cons (k := 1) rfl (.cons (k := 12) rfl (.nil _)))) ?_
  refine GQ_then ?_
  refine G_cond rfl (fun c1 => ?_) (fun c1 => ?_)
  · skip
    have c1p := c1
    try simp only [decide_eq_true_eq, decide_eq_false_iff_not, Bool.not_eq_true', Bool.not_eq_false', Bool.or_eq_true, Bool.and_eq_true, Bool.or_eq_false_iff, Bool.and_eq_false_iff, Int.not_lt, Int.not_le] at c1p
    refine G_seq ?_
    refine G_region ?_
    refine GL_step rfl (PS_move rfl) ?_
    refine GL_step rfl (PS_assign rfl) ?_
    refine GL_nil ?_
    refine GQ_sub (.cons (k := 4) rfl (.nil _)) ?_
    refine GQ_then ?_
    refine G_ret ?_
    refine GQ_then_ret ?_
    refine GQ_ret rfl (.tmp rfl .nil) ?_
    intro w1 hS; refine ⟨?_, hS.toKeep⟩; have e : s = [] := by simpa using c1
    subst e; rfl
  · skip
    have c1p := c1
    try simp only [decide_eq_true_eq, decide_eq_false_iff_not, Bool.not_eq_true', Bool.not_eq_false', Bool.or_eq_true, Bool.and_eq_true, Bool.or_eq_false_iff, Bool.and_eq_false_iff, Int.not_lt, Int.not_le] at c1p
    refine G_skip ?_
    refine GQ_sub (.cons (k := 0) rfl (.cons (k := 1) rfl (.nil _))) ?_
    refine GQ_then ?_
    refine G_seq ?_
    refine G_seq ?_
    refine G_region ?_
    refine GL_step rfl (PS_move rfl) ?_
    refine GL_step rfl (PS_len_str rfl Tryd.underlying9 rfl) ?_
    refine GL_step rfl (PS_eql rfl rfl) ?_
    refine GL_step rfl (PS_move rfl) ?_
    refine GL_gt (t := 17) rfl rfl rfl (fun q => PS_move rfl) ?_
    refine GL_gt (t := 17) rfl rfl rfl (fun q => by have q1 := q; (try simp at q1); exact PS_index_str Tryd.underlying9 (cvE rfl q) rfl (by decide) (by (try simp only [List.length_cons, List.length_nil]); omega)) ?_
    refine GL_gt (t := 17) rfl rfl rfl (fun q => PS_lss (cvE rfl q) rfl) ?_
    refine GL_step rfl (PS_and rfl rfl (fun h => h)) ?_
    refine GL_nil ?_
    refine GQ_sub (.cons (k := 0) rfl (.cons (k := 1) rfl (.cons (k := 21) rfl (.nil _)))) ?_
    refine GQ_then ?_
    refine G_true rfl rfl ?_
    refine G_seq ?_
    refine G_region ?_
    refine GL_step rfl (PS_move rfl) ?_
    refine GL_step rfl (PS_move rfl) ?_
    refine GL_step rfl (PS_index_str Tryd.underlying9 rfl rfl (by decide) (by (try simp only [List.length_cons, List.length_nil]); omega)) ?_
    refine GL_pure rfl cf38 (.cons rfl (.cons rfl .nil)) (fun w hS => strings_trimLeftByte_spec _ 32 hs w) ?_
    refine GL_step rfl (PS_assign rfl) ?_
    refine GL_nil ?_
    refine GQ_sub (.cons (k := 4) rfl (.nil _)) ?_
    refine GQ_then ?_
    refine G_ret ?_
    refine GQ_then_ret ?_
    refine GQ_ret rfl (.tmp rfl .nil) ?_
    intro w1 hS; refine ⟨?_, hS.toKeep⟩; rfl
theorem internal_stringslite_Cut_spec (s : Str) (c : UInt8) (hs : s.length ≤ 10000000) (w : World) : Ret Tryd.prog 37 #[vstr s, vstr [c]] w fun v w' => v = .tuple #[vstr (Words.cut c s).1, vstr (Words.cut c s).2.1, .bool (Words.cut c s).2.2] ∧ Keep w w' := by
  refine Ret_body [] [] Tryd.func37 rfl rfl rfl (St.start w []) ?_
  refine G_seq ?_
  refine G_region ?_
  refine GL_step rfl (PS_assign rfl) ?_
  refine GL_step rfl (PS_assign rfl) ?_
  refine GL_step rfl (PS_assign rfl) ?_
  refine GL_nil ?_
  refine GQ_sub (.cons (k := 0) rfl (.cons (k := 1) rfl (.nil _))) ?_
  refine GQ_then ?_
  refine G_seq ?_
  refine G_seq ?_
  refine G_region ?_
  refine GL_step rfl (PS_move rfl) ?_
  refine GL_step rfl (PS_move rfl) ?_
  refine GL_pure rfl cf52 (.cons rfl (.cons rfl .nil)) (fun w hS => internal_stringslite_Index_spec _ c w) ?_
  refine GL_step rfl (PS_assign rfl) ?_
  refine GL_nil ?_
  refine GQ_sub (.cons (k := 0) rfl (.cons (k := 1) rfl (.cons (k := 7) rfl (.nil _)))) ?_
  refine GQ_then ?_
  refine G_seq ?_
  refine G_region ?_
  refine GL_step rfl (PS_move rfl) ?_
  refine GL_step rfl (PS_geq rfl rfl) ?_
  refine GL_nil ?_
  refine GQ_sub (.cons (k := 0) rfl (.cons (k := 1) rfl (.cons (k := 7) rfl (.cons (k := 12) rfl (.nil _))))) ?_
  refine GQ_then ?_
  refine G_cond rfl (fun c1 => ?_) (fun c1 => ?_)
  · skip
    have c1p := c1
    try simp only [decide_eq_true_eq, decide_eq_false_iff_not, Bool.not_eq_true', Bool.not_eq_false', Bool.or_eq_true, Bool.and_eq_true, Bool.or_eq_false_iff, Bool.and_eq_false_iff, Int.not_lt, Int.not_le] at c1p
    have hm := Words.idx_lt (c := c) (s := s) (by simpa using c1)
    refine G_seq ?_
    refine G_planN (N := 12) [0, 0, 3, 0, 0, 0, 32, 112, 248, 7, 1023, 2047] mix (by kernel_rfl) rfl ?_
    refine Plan_float 0 rfl rfl (by kernel_rfl) (OK_s (EX_s (PS_move rfl))) ?_
    refine Plan_float 1 rfl rfl (by kernel_rfl) (OK_s (EX_s (PS_move rfl))) ?_
    refine Plan_float 3 rfl rfl (by kernel_rfl) (OK_s (EX_s (PS_move rfl))) ?_
    refine Plan_float 4 rfl rfl (by kernel_rfl) (OK_s (EX_s (PS_move rfl))) ?_
    refine Plan_float 5 rfl rfl (by kernel_rfl) (OK_s (EX_s (PS_move rfl))) ?_
    refine Plan_float 6 rfl rfl (by kernel_rfl) (OK_s (EX_s (PS_len_str rfl Tryd.underlying9 rfl))) ?_
    refine Plan_float 7 rfl rfl (by kernel_rfl) (OK_s (EX_s (PS_add rfl rfl (IntWalk.i64_in _ (by (try simp only [List.length_cons, List.length_nil]); omega))))) ?_
    refine Plan_two 2 8 rfl rfl (by kernel_rfl) ?_ ?_
    · skip
      refine GL_step rfl (PS_subSh Tryd.underlying9 rfl rfl (by (try simp only [List.length_cons, List.length_nil]); omega) (by (try simp only [List.length_cons, List.length_nil]); omega)) ?_
      refine GL_hand rfl ⟨?_, ?_⟩
      · exact (Pend_okv rfl (OK_s (EX_s (PS_add rfl rfl (IntWalk.i64_in _ (by (try simp only [List.length_cons, List.length_nil]); omega))))) rfl rfl (Pend_okv rfl (OK_s (EX_s (PS_len_str rfl Tryd.underlying9 rfl))) rfl rfl (Pend_okv rfl (OK_s (EX_s (PS_move rfl))) rfl rfl (Pend_okv rfl (OK_s (EX_s (PS_move rfl))) rfl rfl (Pend_okv rfl (OK_s (EX_s (PS_move rfl))) rfl rfl (Pend_skip (by kernel_rfl) (Pend_skip (by kernel_rfl) Pend_nil)))))))
      refine Plan_float 9 rfl rfl (by kernel_rfl) (OK_s (EX_s (PS_assign rfl))) ?_
      refine Plan_chain 8 rfl (by kernel_rfl) ?_
      refine GL_step rfl (PS_subSl Tryd.underlying9 rfl rfl (by (try simp only [List.length_cons, List.length_nil]); omega) (by (try simp only [List.length_cons, List.length_nil]); omega)) ?_
      refine GL_hand rfl ⟨?_, ?_⟩
      · exact (Pend_okv rfl (OK_s (EX_s (PS_assign rfl))) rfl rfl (Pend_skip (by kernel_rfl) (Pend_skip (by kernel_rfl) (Pend_skip (by kernel_rfl) (Pend_skip (by kernel_rfl) (Pend_skip (by kernel_rfl) (Pend_okv rfl (OK_s (EX_s (PS_move rfl))) rfl rfl (Pend_okv rfl (OK_s (EX_s (PS_move rfl))) rfl rfl Pend_nil))))))))
      refine Plan_float 10 rfl rfl (by kernel_rfl) (OK_s (EX_s (PS_assign rfl))) ?_
      refine Plan_float 11 rfl rfl (by kernel_rfl) (OK_s (EX_s (PS_assign rfl))) ?_
      refine Plan_end (by kernel_rfl) ?_
      refine GQ_sub (.cons (k := 4) rfl (.cons (k := 5) rfl (.cons (k := 6) rfl (.nil _)))) ?_
      refine GQ_then ?_
      refine G_ret ?_
      refine GQ_then_ret ?_
      refine GQ_ret rfl (.tmp rfl (.tmp rfl (.tmp rfl .nil))) ?_
      intro w1 hS; refine ⟨?_, hS.toKeep⟩; rw [show Words.cut c s = _ from (if_t c1)]; rfl
    · skip
      refine GL_step rfl (PS_subSl Tryd.underlying9 rfl rfl (by (try simp only [List.length_cons, List.length_nil]); omega) (by (try simp only [List.length_cons, List.length_nil]); omega)) ?_
      refine GL_hand rfl ⟨?_, ?_⟩
      · exact (Pend_skip (by kernel_rfl) (Pend_skip (by kernel_rfl) (Pend_skip (by kernel_rfl) (Pend_skip (by kernel_rfl) (Pend_skip (by kernel_rfl) (Pend_okv rfl (OK_s (EX_s (PS_move rfl))) rfl rfl (Pend_okv rfl (OK_s (EX_s (PS_move rfl))) rfl rfl Pend_nil)))))))
      refine Plan_chain 2 rfl (by kernel_rfl) ?_
      refine GL_step rfl (PS_subSh Tryd.underlying9 rfl rfl (by (try simp only [List.length_cons, List.length_nil]); omega) (by (try simp only [List.length_cons, List.length_nil]); omega)) ?_
      refine GL_hand rfl ⟨?_, ?_⟩
      · exact (Pend_okv rfl (OK_s (EX_s (PS_add rfl rfl (IntWalk.i64_in _ (by (try simp only [List.length_cons, List.length_nil]); omega))))) rfl rfl (Pend_okv rfl (OK_s (EX_s (PS_len_str rfl Tryd.underlying9 rfl))) rfl rfl (Pend_okv rfl (OK_s (EX_s (PS_move rfl))) rfl rfl (Pend_okv rfl (OK_s (EX_s (PS_move rfl))) rfl rfl (Pend_okv rfl (OK_s (EX_s (PS_move rfl))) rfl rfl (Pend_skip (by kernel_rfl) (Pend_skip (by kernel_rfl) Pend_nil)))))))
      refine Plan_float 9 rfl rfl (by kernel_rfl) (OK_s (EX_s (PS_assign rfl))) ?_
      refine Plan_float 10 rfl rfl (by kernel_rfl) (OK_s (EX_s (PS_assign rfl))) ?_
      refine Plan_float 11 rfl rfl (by kernel_rfl) (OK_s (EX_s (PS_assign rfl))) ?_
      refine Plan_end (by kernel_rfl) ?_
      refine GQ_sub (.cons (k := 4) rfl (.cons (k := 5) rfl (.cons (k := 6) rfl (.nil _)))) ?_
      refine GQ_then ?_
      refine G_ret ?_
      refine GQ_then_ret ?_
      refine GQ_ret rfl (.tmp rfl (.tmp rfl (.tmp rfl .nil))) ?_
      intro w1 hS; refine ⟨?_, hS.toKeep⟩; rw [show Words.cut c s = _ from (if_t c1)]; rfl
  · skip
    have c1p := c1
    try simp only [decide_eq_true_eq, decide_eq_false_iff_not, Bool.not_eq_true', Bool.not_eq_false', Bool.or_eq_true, Bool.and_eq_true, Bool.or_eq_false_iff, Bool.and_eq_false_iff, Int.not_lt, Int.not_le] at c1p
    refine G_skip ?_
    refine GQ_sub (.cons (k := 0) rfl (.nil _)) ?_
    refine GQ_then ?_
    refine G_seq ?_
    refine G_region ?_
    refine GL_step rfl (PS_move rfl) ?_
    refine GL_step rfl (PS_assign rfl) ?_
    refine GL_step rfl (PS_assign rfl) ?_
    refine GL_step rfl (PS_assign rfl) ?_
    refine GL_nil ?_
    refine GQ_sub (.cons (k := 4) rfl (.cons (k := 5) rfl (.cons (k := 6) rfl (.nil _)))) ?_
    refine GQ_then ?_
    refine G_ret ?_
    refine GQ_ret rfl (.tmp rfl (.tmp rfl (.tmp rfl .nil))) ?_
    intro w1 hS; refine ⟨?_, hS.toKeep⟩; rw [show Words.cut c s = _ from (if_f c1)]; rfl
theorem strings_Cut_spec (s : Str) (c : UInt8) (hs : s.length ≤ 10000000) (w : World) : Ret Tryd.prog 25 #[vstr s, vstr [c]] w fun v w' => v = .tuple #[vstr (Words.cut c s).1, vstr (Words.cut c s).2.1, .bool (Words.cut c s).2.2] ∧ Keep w w' := by
  refine Ret_body [] [] Tryd.func25 rfl rfl rfl (St.start w []) ?_
  refine G_seq ?_
  refine G_region ?_
  refine GL_step rfl (PS_assign rfl) ?_
  refine GL_step rfl (PS_assign rfl) ?_
  refine GL_step rfl (PS_assign rfl) ?_
  refine GL_nil ?_
  refine GQ_sub (.cons (k := 0) rfl (.cons (k := 1) rfl (.nil _))) ?_
  refine GQ_then ?_
  refine G_seq ?_
  refine G_region ?_
  refine GL_step rfl (PS_move rfl) ?_
  refine GL_step rfl (PS_move rfl) ?_
  refine GL_pure rfl cf37 (.cons rfl (.cons rfl .nil)) (fun w hS => internal_stringslite_Cut_spec _ c hs w) ?_
  refine GL_step rfl (PS_extract rfl rfl) ?_
  refine GL_step rfl (PS_extract rfl rfl) ?_
  refine GL_step rfl (PS_extract rfl rfl) ?_
  refine GL_step rfl (PS_assign rfl) ?_
  refine GL_step rfl (PS_assign rfl) ?_
  refine GL_step rfl (PS_assign rfl) ?_
  refine GL_nil ?_
  refine GQ_sub (.cons (k := 4) rfl (.cons (k := 5) rfl (.cons (k := 6) rfl (.nil _)))) ?_
  refine GQ_then ?_
  refine G_ret ?_
  refine GQ_ret rfl (.tmp rfl (.tmp rfl (.tmp rfl .nil))) ?_
  intro w1 hS; refine ⟨?_, hS.toKeep⟩; rfl
theorem strings_trimRightByte_spec (s : Str) (c : UInt8) (hs : s.length ≤ 10000000) (w : World) : Ret Tryd.prog 42 #[vstr s, .int .u8 (c.toNat : Int)] w fun v w' => v = vstr (Words.trR c s) ∧ Keep w w' := by
  refine Ret_body [] [] Tryd.func42 rfl rfl rfl (St.start w []) ?_
  refine G_seq ?_
  refine G_region ?_
  refine GL_step rfl (PS_assign rfl) ?_
  refine GL_nil ?_
  refine GQ_sub (.cons (k := 0) rfl (.cons (k := 1) rfl (.nil _))) ?_
  refine GQ_then ?_
  refine G_seq ?_
  refine G_block ?_
  refine G_subF (.cons (k := 0) rfl (.cons (k := 1) rfl (.nil _))) ?_
  refine G_loop1_ (fun (r : Str) => Words.trR c s = Words.trR c r ∧ r.length ≤ s.length) (fun (r : Str) => r.length) (fun (r : Str) => [(0, vstr r)]) (fun (r : Str) => []) (s) ?_ rfl rfl (fun r hI1 => ?_)
  · exact ⟨rfl, Nat.le_refl _⟩
  obtain ⟨hI11, hI12⟩ := hI1
  refine G_seq ?_
  refine G_seq ?_
  refine G_region ?_
  refine GL_step rfl (PS_move rfl) ?_
  refine GL_step rfl (PS_len_str rfl Tryd.underlying9 rfl) ?_
  refine GL_step rfl (PS_gtr rfl rfl) ?_
  refine GL_step rfl (PS_move rfl) ?_
  refine GL_gt (t := 8) rfl rfl rfl (fun q => PS_move rfl) ?_
  refine GL_gt (t := 8) rfl rfl rfl (fun q => PS_move rfl) ?_
  refine GL_gt (t := 8) rfl rfl rfl (fun q => PS_len_str rfl Tryd.underlying9 (cvE rfl q)) ?_
  refine GL_gt (t := 8) rfl rfl rfl (fun q => by have q1 := q; (try simp at q1); exact PS_sub (cvE rfl q) rfl (IntWalk.i64_in _ (by omega))) ?_
  refine GL_gt (t := 8) rfl rfl rfl (fun q => by have q1 := q; (try simp at q1); exact PS_index_str Tryd.underlying9 (cvE rfl q) (cvE rfl q) (by omega) (by omega)) ?_
  refine GL_gt (t := 8) rfl rfl rfl (fun q => PS_move rfl) ?_
  refine GL_gt (t := 8) rfl rfl rfl (fun q => PS_eql (cvE rfl q) (cvE rfl q)) ?_
  refine GL_step rfl (PS_and rfl rfl (fun h => h)) ?_
  refine GL_nil ?_
  refine GQ_sub (.cons (k := 0) rfl (.cons (k := 1) rfl (.cons (k := 16) rfl (.nil _)))) ?_
  refine GQ_then ?_
  refine G_cond rfl (fun c1 => ?_) (fun c1 => ?_)
  · skip
    have c1p := c1
    try simp only [decide_eq_true_eq, decide_eq_false_iff_not, Bool.not_eq_true', Bool.not_eq_false', Bool.or_eq_true, Bool.and_eq_true, Bool.or_eq_false_iff, Bool.and_eq_false_iff, Int.not_lt, Int.not_le] at c1p
    have hlt : 0 < r.length := by simp at c1; omega
    refine G_skip ?_
    refine GQ_sub (.cons (k := 0) rfl (.cons (k := 1) rfl (.nil _))) ?_
    refine GQ_then ?_
    refine G_block ?_
    refine G_region ?_
    refine GL_step rfl (PS_move rfl) ?_
    refine GL_step rfl (PS_move rfl) ?_
    refine GL_step rfl (PS_len_str rfl Tryd.underlying9 rfl) ?_
    refine GL_step rfl (PS_sub rfl rfl (IntWalk.i64_in _ (by omega))) ?_
    refine GL_step rfl (PS_subSh Tryd.underlying9 rfl rfl (by omega) (by omega)) ?_
    refine GL_step rfl (PS_assign rfl) ?_
    refine GL_nil ?_
    refine GQ_sub (.cons (k := 0) rfl (.cons (k := 1) rfl (.nil _))) ?_
    refine GQ_block ?_
    refine GQ_next1_ _ ?_ ?_ (.cons (k := 0) rfl (.cons (k := 1) rfl (.nil _))) (.refl _)
    · exact ⟨by rw [hI11, Words.trR_t c1] <;> rfl, by first | (simp; done) | (simp; omega)⟩
    · first | (simp; done) | (simp; omega)
  · skip
    have c1p := c1
    try simp only [decide_eq_true_eq, decide_eq_false_iff_not, Bool.not_eq_true', Bool.not_eq_false', Bool.or_eq_true, Bool.and_eq_true, Bool.or_eq_false_iff, Bool.and_eq_false_iff, Int.not_lt, Int.not_le] at c1p
    refine G_exit ?_
    refine GQ_then_exit ?_
    refine GQ_then_exit ?_
    refine GQ_block_exit ?_
    refine GQ_sub (.cons (k := 0) rfl (.nil _)) ?_
    refine GQ_then ?_
    refine G_seq ?_
    refine G_region ?_
    refine GL_step rfl (PS_move rfl) ?_
    refine GL_step rfl (PS_assign rfl) ?_
    refine GL_nil ?_
    refine GQ_sub (.cons (k := 4) rfl (.nil _)) ?_
    refine GQ_then ?_
    refine G_ret ?_
    refine GQ_ret rfl (.tmp rfl .nil) ?_
    intro w1 hS; refine ⟨?_, hS.toKeep⟩; rw [hI11, Words.trR_f c1]; rfl
theorem strings_Trim_spec (s : Str) (hs : s.length ≤ 10000000) (w : World) : Ret Tryd.prog 27 #[vstr s, vstr [32]] w fun v w' => v = vstr (Words.trL 32 (Words.trR 32 s)) ∧ Keep w w' := by
  refine Ret_body [] [] Tryd.func27 rfl rfl rfl (St.start w []) ?_
  refine G_seq ?_
  refine G_region ?_
  refine GL_step rfl (PS_assign rfl) ?_
  refine GL_nil ?_
  refine GQ_sub (.cons (k := 0) rfl (.cons (k := 1) rfl (.nil _))) ?_
  refine GQ_then ?_
  refine G_seq ?_
  refine G_seq ?_
  refine G_region ?_
  refine GL_step rfl (PS_move rfl) ?_
  refine GL_step rfl (PS_eql_str rfl rfl) ?_
  refine GL_step rfl (PS_move rfl) ?_
  refine GL_gf (t := 9) rfl rfl rfl (fun q => PS_move rfl) ?_
  refine GL_gf (t := 9) rfl rfl rfl (fun q => PS_eql_str (cvE rfl (by rw [q]; rfl)) rfl) ?_
  refine GL_step rfl (PS_or rfl rfl (fun h => by rw [h]; rfl)) ?_
  refine GL_nil ?_
  refine GQ_sub (.cons (k := 0) rfl (.cons (k := 1) rfl (.cons (k := 12) rfl (.nil _)))) ?_
  refine GQ_then ?_
  refine G_cond rfl (fun c1 => ?_) (fun c1 => ?_)
  · skip
    have c1p := c1
    try simp only [decide_eq_true_eq, decide_eq_false_iff_not, Bool.not_eq_true', Bool.not_eq_false', Bool.or_eq_true, Bool.and_eq_true, Bool.or_eq_false_iff, Bool.and_eq_false_iff, Int.not_lt, Int.not_le] at c1p
    refine G_seq ?_
    refine G_region ?_
    refine GL_step rfl (PS_move rfl) ?_
    refine GL_step rfl (PS_assign rfl) ?_
    refine GL_nil ?_
    refine GQ_sub (.cons (k := 4) rfl (.nil _)) ?_
    refine GQ_then ?_
    refine G_ret ?_
    refine GQ_then_ret ?_
    refine GQ_ret rfl (.tmp rfl .nil) ?_
    intro w1 hS; refine ⟨?_, hS.toKeep⟩; have e : s = [] := by simpa using c1
    subst e; rfl
  · skip
    have c1p := c1
    try simp only [decide_eq_true_eq, decide_eq_false_iff_not, Bool.not_eq_true', Bool.not_eq_false', Bool.or_eq_true, Bool.and_eq_true, Bool.or_eq_false_iff, Bool.and_eq_false_iff, Int.not_lt, Int.not_le] at c1p
    refine G_skip ?_
    refine GQ_sub (.cons (k := 0) rfl (.cons (k := 1) rfl (.nil _))) ?_
    refine GQ_then ?_
    refine G_seq ?_
    refine G_seq ?_
    refine G_region ?_
    refine GL_step rfl (PS_move rfl) ?_
    refine GL_step rfl (PS_len_str rfl Tryd.underlying9 rfl) ?_
    refine GL_step rfl (PS_eql rfl rfl) ?_
    refine GL_step rfl (PS_move rfl) ?_
    refine GL_gt (t := 17) rfl rfl rfl (fun q => PS_move rfl) ?_
    refine GL_gt (t := 17) rfl rfl rfl (fun q => by have q1 := q; (try simp at q1); exact PS_index_str Tryd.underlying9 (cvE rfl q) rfl (by decide) (by (try simp only [List.length_cons, List.length_nil]); omega)) ?_
    refine GL_gt (t := 17) rfl rfl rfl (fun q => PS_lss (cvE rfl q) rfl) ?_
    refine GL_step rfl (PS_and rfl rfl (fun h => h)) ?_
    refine GL_nil ?_
    refine GQ_sub (.cons (k := 0) rfl (.cons (k := 1) rfl (.cons (k := 21) rfl (.nil _)))) ?_
    refine GQ_then ?_
    refine G_true rfl rfl ?_
    refine G_seq ?_
    refine G_planN (N := 8) [0, 0, 2, 7, 0, 16, 63, 127] mix (by kernel_rfl) rfl ?_
    refine Plan_float 0 rfl rfl (by kernel_rfl) (OK_s (EX_s (PS_move rfl))) ?_
    refine Plan_float 1 rfl rfl (by kernel_rfl) (OK_s (EX_s (PS_move rfl))) ?_
    refine Plan_float 2 rfl rfl (by kernel_rfl) (OK_s (EX_s (PS_index_str Tryd.underlying9 rfl rfl (by decide) (by (try simp only [List.length_cons, List.length_nil]); omega)))) ?_
    refine Plan_float 3 rfl rfl (by kernel_rfl) (OK_s (EX_c (PC_of cf42 (.cons rfl (.cons rfl .nil)) (fun w hS => strings_trimRightByte_spec _ 32 hs w)))) ?_
    refine Plan_float 4 rfl rfl (by kernel_rfl) (OK_s (EX_s (PS_move rfl))) ?_
    refine Plan_float 5 rfl rfl (by kernel_rfl) (OK_s (EX_s (PS_index_str Tryd.underlying9 rfl rfl (by decide) (by (try simp only [List.length_cons, List.length_nil]); omega)))) ?_
    refine Plan_float 6 rfl rfl (by kernel_rfl) (OK_s (EX_c (PC_of cf38 (.cons rfl (.cons rfl .nil)) (fun w hS => strings_trimLeftByte_spec _ 32 (by have := Words.trR_len 32 s; omega) w)))) ?_
    refine Plan_float 7 rfl rfl (by kernel_rfl) (OK_s (EX_s (PS_assign rfl))) ?_
    refine Plan_end (by kernel_rfl) ?_
    refine GQ_sub (.cons (k := 4) rfl (.nil _)) ?_
    refine GQ_then ?_
    refine G_ret ?_
    refine GQ_then_ret ?_
    refine GQ_ret rfl (.tmp rfl .nil) ?_
    intro w1 hS; refine ⟨?_, hS.toKeep⟩; rfl
theorem internal_stringslite_CutPrefix_spec (s p : Str) (w : World) : Ret Tryd.prog 48 #[vstr s, vstr p] w fun v w' => v = .tuple #[vstr (Words.cutP s p).1, .bool (Words.cutP s p).2] ∧ Keep w w' := by
  refine Ret_body [] [] Tryd.func48 rfl rfl rfl (St.start w []) ?_
  refine G_seq ?_
  refine G_region ?_
  refine GL_step rfl (PS_assign rfl) ?_
  refine GL_step rfl (PS_assign rfl) ?_
  refine GL_nil ?_
  refine GQ_sub (.cons (k := 0) rfl (.cons (k := 1) rfl (.nil _))) ?_
  refine GQ_then ?_
  refine G_seq ?_
  refine G_seq ?_
  refine G_region ?_
  refine GL_step rfl (PS_move rfl) ?_
  refine GL_step rfl (PS_move rfl) ?_
  refine GL_pure rfl cf47 (.cons rfl (.cons rfl .nil)) (fun w hS => internal_stringslite_HasPrefix_spec _ _ w) ?_
  refine GL_step rfl (PS_not rfl) ?_
  refine GL_nil ?_
  refine GQ_sub (.cons (k := 0) rfl (.cons (k := 1) rfl (.cons (k := 9) rfl (.nil _)))) ?_
  refine GQ_then ?_
  refine G_cond rfl (fun c1 => ?_) (fun c1 => ?_)
  · skip
    have c1p := c1
    try simp only [decide_eq_true_eq, decide_eq_false_iff_not, Bool.not_eq_true', Bool.not_eq_false', Bool.or_eq_true, Bool.and_eq_true, Bool.or_eq_false_iff, Bool.and_eq_false_iff, Int.not_lt, Int.not_le] at c1p
    refine G_seq ?_
    refine G_region ?_
    refine GL_step rfl (PS_move rfl) ?_
    refine GL_step rfl (PS_assign rfl) ?_
    refine GL_step rfl (PS_assign rfl) ?_
    refine GL_nil ?_
    refine GQ_sub (.cons (k := 4) rfl (.cons (k := 5) rfl (.nil _))) ?_
    refine GQ_then ?_
    refine G_ret ?_
    refine GQ_then_ret ?_
    refine GQ_ret rfl (.tmp rfl (.tmp rfl .nil)) ?_
    intro w1 hS; refine ⟨?_, hS.toKeep⟩; rw [show Words.cutP s p = _ from (if_t c1)]; rfl
  · skip
    have c1p := c1
    try simp only [decide_eq_true_eq, decide_eq_false_iff_not, Bool.not_eq_true', Bool.not_eq_false', Bool.or_eq_true, Bool.and_eq_true, Bool.or_eq_false_iff, Bool.and_eq_false_iff, Int.not_lt, Int.not_le] at c1p
    have hle : p.length ≤ s.length := by simp at c1; omega
    refine G_skip ?_
    refine GQ_sub (.cons (k := 0) rfl (.cons (k := 1) rfl (.nil _))) ?_
    refine GQ_then ?_
    refine G_seq ?_
    refine G_region ?_
    refine GL_step rfl (PS_move rfl) ?_
    refine GL_step rfl (PS_move rfl) ?_
    refine GL_step rfl (PS_len_str rfl Tryd.underlying9 rfl) ?_
    refine GL_step rfl (PS_subSl Tryd.underlying9 rfl rfl (by omega) (by omega)) ?_
    refine GL_step rfl (PS_assign rfl) ?_
    refine GL_step rfl (PS_assign rfl) ?_
    refine GL_nil ?_
    refine GQ_sub (.cons (k := 4) rfl (.cons (k := 5) rfl (.nil _))) ?_
    refine GQ_then ?_
    refine G_ret ?_
    refine GQ_ret rfl (.tmp rfl (.tmp rfl .nil)) ?_
    intro w1 hS; refine ⟨?_, hS.toKeep⟩; rw [show Words.cutP s p = _ from (if_f c1)]; rfl
theorem strings_CutPrefix_spec (s p : Str) (w : World) : Ret Tryd.prog 34 #[vstr s, vstr p] w fun v w' => v = .tuple #[vstr (Words.cutP s p).1, .bool (Words.cutP s p).2] ∧ Keep w w' := by
  refine Ret_body [] [] Tryd.func34 rfl rfl rfl (St.start w []) ?_
  refine G_seq ?_
  refine G_region ?_
  refine GL_step rfl (PS_assign rfl) ?_
  refine GL_step rfl (PS_assign rfl) ?_
  refine GL_nil ?_
  refine GQ_sub (.cons (k := 0) rfl (.cons (k := 1) rfl (.nil _))) ?_
  refine GQ_then ?_
  refine G_seq ?_
  refine G_region ?_
  refine GL_step rfl (PS_move rfl) ?_
  refine GL_step rfl (PS_move rfl) ?_
  refine GL_pure rfl cf48 (.cons rfl (.cons rfl .nil)) (fun w hS => internal_stringslite_CutPrefix_spec _ _ w) ?_
  refine GL_step rfl (PS_extract rfl rfl) ?_
  refine GL_step rfl (PS_extract rfl rfl) ?_
  refine GL_step rfl (PS_assign rfl) ?_
  refine GL_step rfl (PS_assign rfl) ?_
  refine GL_nil ?_
  refine GQ_sub (.cons (k := 4) rfl (.cons (k := 5) rfl (.nil _))) ?_
  refine GQ_then ?_
  refine G_ret ?_
  refine GQ_ret rfl (.tmp rfl (.tmp rfl .nil)) ?_
  intro w1 hS; refine ⟨?_, hS.toKeep⟩; rfl
theorem strings_Contains_spec (s : Str) (c : UInt8) (w : World) : Ret Tryd.prog 35 #[vstr s, vstr [c]] w fun v w' => v = .bool (decide (0 ≤ Lib.indexByte s c)) ∧ Keep w w' := by
  refine Ret_body [] [] Tryd.func35 rfl rfl rfl (St.start w []) ?_
  refine G_seq ?_
  refine G_region ?_
  refine GL_step rfl (PS_assign rfl) ?_
  refine GL_nil ?_
  refine GQ_sub (.cons (k := 0) rfl (.cons (k := 1) rfl (.nil _))) ?_
  refine GQ_then ?_
  refine G_seq ?_
  refine G_region ?_
  refine GL_step rfl (PS_move rfl) ?_
  refine GL_step rfl (PS_move rfl) ?_
  refine GL_pure rfl cf49 (.cons rfl (.cons rfl .nil)) (fun w hS => strings_Index_spec _ c w) ?_
  refine GL_step rfl (PS_geq rfl rfl) ?_
  refine GL_step rfl (PS_assign rfl) ?_
  refine GL_nil ?_
  refine GQ_sub (.cons (k := 4) rfl (.nil _)) ?_
  refine GQ_then ?_
  refine G_ret ?_
  refine GQ_ret rfl (.tmp rfl .nil) ?_
  intro w1 hS; refine ⟨?_, hS.toKeep⟩; rfl
def laysAtoi_ren : Go.Shelf.Ren := ⟨fun | 172 => 36 | 244 => 50 | 245 => 51 | 247 => 60 | 279 => 61 | 280 => 62 | 281 => 63 | 282 => 64 | 287 => 73 | 316 => 74 | 171 => 76 | 205 => 75 | 321 => 79 | 322 => 80 | 243 => 81 | 246 => 82 | 283 => 83 | 284 => 84 | 285 => 85 | 286 => 86 | 129 => 88 | 317 => 87 | 318 => 89 | 319 => 90 | 320 => 91 | 337 => 92 | 338 => 93 | n => n, fun | 9 => 9 | 3 => 3 | 75 => 57 | 76 => 58 | 4 => 4 | 5 => 5 | 167 => 75 | 37 => 53 | 0 => 0 | 85 => 76 | 2 => 2 | 168 => 78 | 53 => 85 | 175 => 86 | 46 => 82 | 210 => 89 | 127 => 100 | 145 => 103 | 143 => 101 | 21 => 21 | 171 => 105 | 173 => 108 | 212 => 111 | 51 => 91 | 20 => 20 | 213 => 112 | 232 => 115 | 233 => 116 | 80 => 117 | n => n, fun | 15 => 3 | 16 => 4 | 17 => 7 | 18 => 8 | 19 => 9 | n => n⟩
theorem laysAtoi : LaysC.n172 Tryd.prog laysAtoi_ren where
  mixed := by kernel_rfl
  f129 := Tryd.func88.trans (congrArg some (by kernel_rfl))
  f171 := Tryd.func76.trans (congrArg some (by kernel_rfl))
  f172 := Tryd.func36.trans (congrArg some (by kernel_rfl))
  f205 := Tryd.func75.trans (congrArg some (by kernel_rfl))
  f243 := Tryd.func81.trans (congrArg some (by kernel_rfl))
  f244 := Tryd.func50.trans (congrArg some (by kernel_rfl))
  f245 := Tryd.func51.trans (congrArg some (by kernel_rfl))
  f246 := Tryd.func82.trans (congrArg some (by kernel_rfl))
  f247 := Tryd.func60.trans (congrArg some (by kernel_rfl))
  f279 := Tryd.func61.trans (congrArg some (by kernel_rfl))
  f280 := Tryd.func62.trans (congrArg some (by kernel_rfl))
  f281 := Tryd.func63.trans (congrArg some (by kernel_rfl))
  f282 := Tryd.func64.trans (congrArg some (by kernel_rfl))
  f283 := Tryd.func83.trans (congrArg some (by kernel_rfl))
  f284 := Tryd.func84.trans (congrArg some (by kernel_rfl))
  f285 := Tryd.func85.trans (congrArg some (by kernel_rfl))
  f286 := Tryd.func86.trans (congrArg some (by kernel_rfl))
  f287 := Tryd.func73.trans (congrArg some (by kernel_rfl))
  f316 := Tryd.func74.trans (congrArg some (by kernel_rfl))
  f317 := Tryd.func87.trans (congrArg some (by kernel_rfl))
  f318 := Tryd.func89.trans (congrArg some (by kernel_rfl))
  f319 := Tryd.func90.trans (congrArg some (by kernel_rfl))
  f320 := Tryd.func91.trans (congrArg some (by kernel_rfl))
  f321 := Tryd.func79.trans (congrArg some (by kernel_rfl))
  f322 := Tryd.func80.trans (congrArg some (by kernel_rfl))
  f337 := Tryd.func92.trans (congrArg some (by kernel_rfl))
  f338 := Tryd.func93.trans (congrArg some (by kernel_rfl))
  t0 := Tryd.underlying0
  a0 := Tryd.isAgg0
  z0 := Tryd.sizeOf0
  v0 := Tryd.zeroValue0
  t2 := Tryd.underlying2
  a2 := Tryd.isAgg2
  z2 := Tryd.sizeOf2
  v2 := Tryd.zeroValue2
  t3 := Tryd.underlying3
  a3 := Tryd.isAgg3
  z3 := Tryd.sizeOf3
  v3 := Tryd.zeroValue3
  t4 := Tryd.underlying4
  a4 := Tryd.isAgg4
  z4 := Tryd.sizeOf4
  v4 := Tryd.zeroValue4
  t5 := Tryd.underlying5
  a5 := Tryd.isAgg5
  z5 := Tryd.sizeOf5
  v5 := Tryd.zeroValue5
  t9 := Tryd.underlying9
  a9 := Tryd.isAgg9
  z9 := Tryd.sizeOf9
  v9 := Tryd.zeroValue9
  t20 := Tryd.underlying20
  a20 := Tryd.isAgg20
  z20 := Tryd.sizeOf20
  v20 := Tryd.zeroValue20
  t21 := Tryd.underlying21
  a21 := Tryd.isAgg21
  z21 := Tryd.sizeOf21
  v21 := Tryd.zeroValue21
  t37 := Tryd.underlying53
  a37 := Tryd.isAgg53
  z37 := Tryd.sizeOf53
  v37 := Tryd.zeroValue53
  t46 := Tryd.underlying82
  a46 := Tryd.isAgg82
  z46 := Tryd.sizeOf82
  v46 := Tryd.zeroValue82
  t51 := Tryd.underlying91
  a51 := Tryd.isAgg91
  z51 := Tryd.sizeOf91
  v51 := Tryd.zeroValue91
  t53 := Tryd.underlying85
  a53 := Tryd.isAgg85
  z53 := Tryd.sizeOf85
  v53 := Tryd.zeroValue85
  t75 := Tryd.underlying57
  a75 := Tryd.isAgg57
  z75 := Tryd.sizeOf57
  v75 := Tryd.zeroValue57
  t76 := Tryd.underlying58
  a76 := Tryd.isAgg58
  z76 := Tryd.sizeOf58
  v76 := Tryd.zeroValue58
  t85 := Tryd.underlying76
  a85 := Tryd.isAgg76
  z85 := Tryd.sizeOf76
  v85 := Tryd.zeroValue76
  t127 := Tryd.underlying100
  a127 := Tryd.isAgg100
  z127 := Tryd.sizeOf100
  v127 := Tryd.zeroValue100
  t143 := Tryd.underlying101
  a143 := Tryd.isAgg101
  z143 := Tryd.sizeOf101
  v143 := Tryd.zeroValue101
  t145 := Tryd.underlying103
  a145 := Tryd.isAgg103
  z145 := Tryd.sizeOf103
  v145 := Tryd.zeroValue103
  t167 := Tryd.underlying75
  a167 := Tryd.isAgg75
  z167 := Tryd.sizeOf75
  v167 := Tryd.zeroValue75
  t168 := Tryd.underlying78
  a168 := Tryd.isAgg78
  z168 := Tryd.sizeOf78
  v168 := Tryd.zeroValue78
  t171 := Tryd.underlying105
  a171 := Tryd.isAgg105
  z171 := Tryd.sizeOf105
  v171 := Tryd.zeroValue105
  t173 := Tryd.underlying108
  a173 := Tryd.isAgg108
  z173 := Tryd.sizeOf108
  v173 := Tryd.zeroValue108
  t175 := Tryd.underlying86
  a175 := Tryd.isAgg86
  z175 := Tryd.sizeOf86
  v175 := Tryd.zeroValue86
  t210 := Tryd.underlying89
  a210 := Tryd.isAgg89
  z210 := Tryd.sizeOf89
  v210 := Tryd.zeroValue89
  t212 := Tryd.underlying111
  a212 := Tryd.isAgg111
  z212 := Tryd.sizeOf111
  v212 := Tryd.zeroValue111
  t213 := Tryd.underlying112
  a213 := Tryd.isAgg112
  z213 := Tryd.sizeOf112
  t232 := Tryd.underlying115
  a232 := Tryd.isAgg115
  z232 := Tryd.sizeOf115
  v232 := Tryd.zeroValue115
  t233 := Tryd.underlying116
  a233 := Tryd.isAgg116
  z233 := Tryd.sizeOf116
  v233 := Tryd.zeroValue116
  g15 := by kernel_rfl
  g16 := by kernel_rfl
  g17 := by kernel_rfl
  g18 := by kernel_rfl
  g19 := by kernel_rfl
  t80 := Tryd.underlying117
  a80 := Tryd.isAgg117
  z80 := Tryd.sizeOf117
  v80 := Tryd.zeroValue117
  i0 := by kernel_rfl
  i2 := by kernel_rfl
  i3 := by kernel_rfl
  i4 := by kernel_rfl
  i5 := by kernel_rfl
  i9 := by kernel_rfl
  i20 := by kernel_rfl
  i21 := by kernel_rfl
  i37 := by kernel_rfl
  i46 := by kernel_rfl
  i51 := by kernel_rfl
  i53 := by kernel_rfl
  i75 := by kernel_rfl
  i76 := by kernel_rfl
  i80 := by kernel_rfl
  i85 := by kernel_rfl
  i127 := by kernel_rfl
  i143 := by kernel_rfl
  i145 := by kernel_rfl
  i167 := by kernel_rfl
  i168 := by kernel_rfl
  i171 := by kernel_rfl
  i173 := by kernel_rfl
  i175 := by kernel_rfl
  i210 := by kernel_rfl
  i212 := by kernel_rfl
  i232 := by kernel_rfl
  i233 := by kernel_rfl
  m15 := by kernel_rfl
  m16 := by kernel_rfl
  m17 := by kernel_rfl
  m18 := by kernel_rfl
  m19 := by kernel_rfl
  c0 := by kernel_rfl
  c2 := by kernel_rfl
  c3 := by kernel_rfl
  c4 := by kernel_rfl
  c5 := by kernel_rfl
  c9 := by kernel_rfl
  c20 := by kernel_rfl
  c21 := by kernel_rfl
  c37 := by kernel_rfl
  c46 := by kernel_rfl
  c51 := by kernel_rfl
  c53 := by kernel_rfl
  c75 := by kernel_rfl
  c76 := by kernel_rfl
  c80 := by kernel_rfl
  c85 := by kernel_rfl
  c127 := by kernel_rfl
  c143 := by kernel_rfl
  c145 := by kernel_rfl
  c167 := by kernel_rfl
  c168 := by kernel_rfl
  c171 := by kernel_rfl
  c173 := by kernel_rfl
  c175 := by kernel_rfl
  c210 := by kernel_rfl
  c212 := by kernel_rfl
  c213 := by kernel_rfl
  c232 := by kernel_rfl
  c233 := by kernel_rfl
theorem strconv_Atoi_spec (s : Str) (hs : s.length ≤ 10000000) : CtrR Tryd.prog 36 #[vstr s] [] (fun w => GVE 3 w ∧ GVE 4 w) (fun v B => (∃ k : Int, Lib.atoiAll s = .ok k ∧ v = .tuple #[.int .i64 k, .nilIface] ∧ B = []) ∨ (∃ (k : Int) (t : TypeId) (x : Value), (∀ j, Lib.atoiAll s ≠ .ok j) ∧ v = .tuple #[.int .i64 k, .iface t x] ∧ B = [])) :=
  atoi_ctr laysAtoi s hs (by kernel_rfl) (by kernel_rfl)
theorem words_Noun_spec (u : Str) (hu : u.length ≤ 5000000) (w : World) (gl0 : GVE 3 w) (gl1 : GVE 4 w) : Ret Tryd.prog 18 #[vstr u] w fun v w' => v = .tuple #[.int .i64 (Words.noun u).1, vstr (Words.noun u).2.1, .bool (Words.noun u).2.2.1, .int .i64 (Words.noun u).2.2.2] ∧ Keep w w' := by
  have hcut := Words.cut_len 46 u
  refine Ret_body [] [] Tryd.func18 rfl rfl rfl (St.start w []) ?_
  refine G_seq ?_
  refine G_region ?_
  refine GL_step rfl (PS_assign rfl) ?_
  refine GL_step rfl (PS_assign rfl) ?_
  refine GL_step rfl (PS_assign rfl) ?_
  refine GL_step rfl (PS_assign rfl) ?_
  refine GL_nil ?_
  refine GQ_sub (.cons (k := 0) rfl (.nil _)) ?_
  refine GQ_then ?_
  refine G_seq ?_
  refine G_seq ?_
  refine G_region ?_
  refine GL_step rfl (PS_move rfl) ?_
  refine GL_step rfl (PS_eql_str rfl rfl) ?_
  refine GL_nil ?_
  refine GQ_sub (.cons (k := 0) rfl (.cons (k := 14) rfl (.nil _))) ?_
  refine GQ_then ?_
  refine G_cond rfl (fun c1 => ?_) (fun c1 => ?_)
  · skip
    have c1p := c1
    try simp only [decide_eq_true_eq, decide_eq_false_iff_not, Bool.not_eq_true', Bool.not_eq_false', Bool.or_eq_true, Bool.and_eq_true, Bool.or_eq_false_iff, Bool.and_eq_false_iff, Int.not_lt, Int.not_le] at c1p
    refine G_seq ?_
    refine G_region ?_
    refine GL_step rfl (PS_assign rfl) ?_
    refine GL_step rfl (PS_assign rfl) ?_
    refine GL_step rfl (PS_assign rfl) ?_
    refine GL_step rfl (PS_assign rfl) ?_
    refine GL_nil ?_
    refine GQ_sub (.cons (k := 2) rfl (.cons (k := 3) rfl (.cons (k := 4) rfl (.cons (k := 5) rfl (.nil _))))) ?_
    refine GQ_then ?_
    refine G_ret ?_
    refine GQ_then_ret ?_
    refine GQ_ret rfl (.tmp rfl (.tmp rfl (.tmp rfl (.tmp rfl .nil)))) ?_
    intro w1 hS; refine ⟨?_, hS.toKeep⟩; rw [show Words.noun u = _ from (if_t c1)]; rfl
  · skip
    have c1p := c1
    try simp only [decide_eq_true_eq, decide_eq_false_iff_not, Bool.not_eq_true', Bool.not_eq_false', Bool.or_eq_true, Bool.and_eq_true, Bool.or_eq_false_iff, Bool.and_eq_false_iff, Int.not_lt, Int.not_le] at c1p
    refine G_skip ?_
    refine GQ_sub (.cons (k := 0) rfl (.nil _)) ?_
    refine GQ_then ?_
    refine G_seq ?_
    refine G_seq ?_
    refine G_region ?_
    refine GL_step rfl (PS_move rfl) ?_
    refine GL_pure rfl cf34 (.cons rfl (.cons rfl .nil)) (fun w hS => strings_CutPrefix_spec _ _ w) ?_
    refine GL_step rfl (PS_move rfl) ?_
    refine GL_step rfl (PS_extract rfl rfl) ?_
    refine GL_step rfl (PS_extract rfl rfl) ?_
    refine GL_step rfl (PS_assign rfl) ?_
    refine GL_step rfl (PS_assign rfl) ?_
    refine GL_nil ?_
    refine GQ_sub (.cons (k := 0) rfl (.cons (k := 6) rfl (.cons (k := 7) rfl (.nil _)))) ?_
    refine GQ_then ?_
    refine G_seq ?_
    refine G_region ?_
    refine GL_step rfl (PS_move rfl) ?_
    refine GL_step rfl (PS_move rfl) ?_
    refine GL_gt (t := 21) rfl rfl rfl (fun q => PS_move rfl) ?_
    refine GL_gt (t := 21) rfl rfl rfl (fun q => PS_neq_str (cvE rfl q) rfl) ?_
    refine GL_step rfl (PS_and rfl rfl (fun h => h)) ?_
    refine GL_step rfl (PS_move rfl) ?_
    refine GL_gt (t := 25) rfl rfl rfl (fun q => PS_move rfl) ?_
    refine GL_pgt (t := 25) rfl rfl rfl (fun q => PC_of cf35 (.cons (cvE rfl q) (.cons rfl .nil)) (fun w hS => strings_Contains_spec _ 46 w)) ?_
    refine GL_gt (t := 25) rfl rfl rfl (fun q => PS_not (cvE rfl q)) ?_
    refine GL_step rfl (PS_and rfl rfl (fun h => h)) ?_
    refine GL_nil ?_
    refine GQ_sub (.cons (k := 0) rfl (.cons (k := 6) rfl (.cons (k := 29) rfl (.nil _)))) ?_
    refine GQ_then ?_
    refine G_cond rfl (fun c2 => ?_) (fun c2 => ?_)
    · skip
      have c2p := c2
      try simp only [decide_eq_true_eq, decide_eq_false_iff_not, Bool.not_eq_true', Bool.not_eq_false', Bool.or_eq_true, Bool.and_eq_true, Bool.or_eq_false_iff, Bool.and_eq_false_iff, Int.not_lt, Int.not_le] at c2p
      refine G_seq ?_
      refine G_region ?_
      refine GL_step rfl (PS_move rfl) ?_
      refine GL_step rfl (PS_assign rfl) ?_
      refine GL_step rfl (PS_assign rfl) ?_
      refine GL_step rfl (PS_assign rfl) ?_
      refine GL_step rfl (PS_assign rfl) ?_
      refine GL_nil ?_
      refine GQ_sub (.cons (k := 2) rfl (.cons (k := 3) rfl (.cons (k := 4) rfl (.cons (k := 5) rfl (.nil _))))) ?_
      refine GQ_then ?_
      refine G_ret ?_
      refine GQ_then_ret ?_
      refine GQ_ret rfl (.tmp rfl (.tmp rfl (.tmp rfl (.tmp rfl .nil)))) ?_
      intro w1 hS; refine ⟨?_, hS.toKeep⟩; rw [show Words.noun u = _ from ((if_f c1).trans (if_t c2))]; rfl
    · skip
      have c2p := c2
      try simp only [decide_eq_true_eq, decide_eq_false_iff_not, Bool.not_eq_true', Bool.not_eq_false', Bool.or_eq_true, Bool.and_eq_true, Bool.or_eq_false_iff, Bool.and_eq_false_iff, Int.not_lt, Int.not_le] at c2p
      refine G_skip ?_
      refine GQ_sub (.cons (k := 0) rfl (.nil _)) ?_
      refine GQ_then ?_
      refine G_seq ?_
      refine G_region ?_
      refine GL_step rfl (PS_move rfl) ?_
      refine GL_pure rfl cf25 (.cons rfl (.cons rfl .nil)) (fun w hS => strings_Cut_spec _ 46 (by omega) w) ?_
      refine GL_step rfl (PS_move rfl) ?_
      refine GL_step rfl (PS_extract rfl rfl) ?_
      refine GL_step rfl (PS_extract rfl rfl) ?_
      refine GL_step rfl (PS_extract rfl rfl) ?_
      refine GL_step rfl (PS_assign rfl) ?_
      refine GL_step rfl (PS_assign rfl) ?_
      refine GL_step rfl (PS_assign rfl) ?_
      refine GL_nil ?_
      refine GQ_sub (.cons (k := 0) rfl (.cons (k := 8) rfl (.cons (k := 9) rfl (.cons (k := 10) rfl (.nil _))))) ?_
      refine GQ_then ?_
      refine G_seq ?_
      refine G_seq ?_
      refine G_region ?_
      refine GL_step rfl (PS_move rfl) ?_
      refine GL_step rfl (PS_not rfl) ?_
      refine GL_nil ?_
      refine GQ_sub (.cons (k := 0) rfl (.cons (k := 8) rfl (.cons (k := 9) rfl (.cons (k := 38) rfl (.nil _))))) ?_
      refine GQ_then ?_
      refine G_cond rfl (fun c3 => ?_) (fun c3 => ?_)
      · skip
        have c3p := c3
        try simp only [decide_eq_true_eq, decide_eq_false_iff_not, Bool.not_eq_true', Bool.not_eq_false', Bool.or_eq_true, Bool.and_eq_true, Bool.or_eq_false_iff, Bool.and_eq_false_iff, Int.not_lt, Int.not_le] at c3p
        refine G_seq ?_
        refine G_seq ?_
        refine G_region ?_
        refine GL_step rfl (PS_move rfl) ?_
        refine GL_step rfl (PS_eql_str rfl rfl) ?_
        refine GL_nil ?_
        refine GQ_sub (.cons (k := 0) rfl (.cons (k := 40) rfl (.nil _))) ?_
        refine GQ_then ?_
        refine G_cond rfl (fun c4 => ?_) (fun c4 => ?_)
        · skip
          have c4p := c4
          try simp only [decide_eq_true_eq, decide_eq_false_iff_not, Bool.not_eq_true', Bool.not_eq_false', Bool.or_eq_true, Bool.and_eq_true, Bool.or_eq_false_iff, Bool.and_eq_false_iff, Int.not_lt, Int.not_le] at c4p
          refine G_seq ?_
          refine G_region ?_
          refine GL_step rfl (PS_assign rfl) ?_
          refine GL_step rfl (PS_assign rfl) ?_
          refine GL_step rfl (PS_assign rfl) ?_
          refine GL_step rfl (PS_assign rfl) ?_
          refine GL_nil ?_
          refine GQ_sub (.cons (k := 2) rfl (.cons (k := 3) rfl (.cons (k := 4) rfl (.cons (k := 5) rfl (.nil _))))) ?_
          refine GQ_then ?_
          refine G_ret ?_
          refine GQ_then_ret ?_
          refine GQ_then_ret ?_
          refine GQ_ret rfl (.tmp rfl (.tmp rfl (.tmp rfl (.tmp rfl .nil)))) ?_
          intro w1 hS; refine ⟨?_, hS.toKeep⟩; rw [show Words.noun u = _ from ((if_f c1).trans ((if_f c2).trans ((if_t c3).trans (if_t c4))))]; rfl
        · skip
          have c4p := c4
          try simp only [decide_eq_true_eq, decide_eq_false_iff_not, Bool.not_eq_true', Bool.not_eq_false', Bool.or_eq_true, Bool.and_eq_true, Bool.or_eq_false_iff, Bool.and_eq_false_iff, Int.not_lt, Int.not_le] at c4p
          refine G_skip ?_
          refine GQ_sub (.cons (k := 0) rfl (.nil _)) ?_
          refine GQ_then ?_
          refine G_seq ?_
          refine G_region ?_
          refine GL_step rfl (PS_move rfl) ?_
          refine GL_step rfl (PS_assign rfl) ?_
          refine GL_step rfl (PS_assign rfl) ?_
          refine GL_step rfl (PS_assign rfl) ?_
          refine GL_step rfl (PS_assign rfl) ?_
          refine GL_nil ?_
          refine GQ_sub (.cons (k := 2) rfl (.cons (k := 3) rfl (.cons (k := 4) rfl (.cons (k := 5) rfl (.nil _))))) ?_
          refine GQ_then ?_
          refine G_ret ?_
          refine GQ_then_ret ?_
          refine GQ_ret rfl (.tmp rfl (.tmp rfl (.tmp rfl (.tmp rfl .nil)))) ?_
          intro w1 hS; refine ⟨?_, hS.toKeep⟩; rw [show Words.noun u = _ from ((if_f c1).trans ((if_f c2).trans ((if_t c3).trans (if_f c4))))]; rfl
      · skip
        have c3p := c3
        try simp only [decide_eq_true_eq, decide_eq_false_iff_not, Bool.not_eq_true', Bool.not_eq_false', Bool.or_eq_true, Bool.and_eq_true, Bool.or_eq_false_iff, Bool.and_eq_false_iff, Int.not_lt, Int.not_le] at c3p
        refine G_skip ?_
        refine GQ_sub (.cons (k := 8) rfl (.cons (k := 9) rfl (.nil _))) ?_
        refine GQ_then ?_
        refine G_seq ?_
        refine G_region ?_
        refine GL_step rfl (PS_move rfl) ?_
        refine GL_callR rfl cf36 (.cons rfl .nil) .nil (strconv_Atoi_spec _ (by omega)) (fun w hS => ⟨gl0.st hS, gl1.st hS⟩) (fun v1 B hv => ?_)
        rcases hv with ⟨y2, y3, rfl, rfl⟩ | ⟨y4, y5, y6, y7, rfl, rfl⟩
        · skip
          refine GL_step rfl (PS_move rfl) ?_
          refine GL_step rfl (PS_extract rfl rfl) ?_
          refine GL_step rfl (PS_extract rfl rfl) ?_
          refine GL_step rfl (PS_assign rfl) ?_
          refine GL_step rfl (PS_assign rfl) ?_
          refine GL_nil ?_
          refine GQ_sub (.cons (k := 8) rfl (.cons (k := 9) rfl (.cons (k := 11) rfl (.cons (k := 12) rfl (.nil _))))) ?_
          refine GQ_then ?_
          refine G_seq ?_
          refine G_seq ?_
          refine G_region ?_
          refine GL_step rfl (PS_move rfl) ?_
          refine GL_step rfl (PS_neqi_nil Tryd.underlying57 rfl) ?_
          refine GL_step rfl (PS_move rfl) ?_
          refine GL_guard (t := 49) rfl rfl rfl (PS_move rfl) ?_
          refine GL_guard (t := 49) rfl rfl rfl (PS_lss rfl rfl) ?_
          refine GL_step rfl (PS_pick_false rfl rfl) ?_
          refine GL_step rfl (PS_move rfl) ?_
          refine GL_gf (t := 53) rfl rfl rfl (fun q => PS_move rfl) ?_
          refine GL_gf (t := 53) rfl rfl rfl (fun q => PS_gtr (cvE rfl (by rw [q]; rfl)) rfl) ?_
          refine GL_step rfl (PS_or rfl rfl (fun h => by rw [h]; rfl)) ?_
          refine GL_step rfl (PS_move rfl) ?_
          refine GL_gf (t := 57) rfl rfl rfl (fun q => PS_move rfl) ?_
          refine GL_gf (t := 57) rfl rfl rfl (fun q => by have q1 := q; (try simp at q1); exact PS_index_str Tryd.underlying9 (cvE rfl (by rw [q]; rfl)) rfl (by decide) (by first | omega | (have hq := Words.atoi_pos (by assumption); omega))) ?_
          refine GL_gf (t := 57) rfl rfl rfl (fun q => PS_lss (cvE rfl (by rw [q]; rfl)) rfl) ?_
          refine GL_step rfl (PS_or rfl rfl (fun h => by rw [h]; rfl)) ?_
          refine GL_step rfl (PS_move rfl) ?_
          refine GL_gf (t := 62) rfl rfl rfl (fun q => PS_move rfl) ?_
          refine GL_gf (t := 62) rfl rfl rfl (fun q => by have q1 := q; (try simp at q1); exact PS_index_str Tryd.underlying9 (cvE rfl (by rw [q]; rfl)) rfl (by decide) (by first | omega | (have hq := Words.atoi_pos (by assumption); omega))) ?_
          refine GL_gf (t := 62) rfl rfl rfl (fun q => PS_gtr (cvE rfl (by rw [q]; rfl)) rfl) ?_
          refine GL_step rfl (PS_or rfl rfl (fun h => by rw [h]; rfl)) ?_
          refine GL_step rfl (PS_move rfl) ?_
          refine GL_gf (t := 67) rfl rfl rfl (fun q => PS_move rfl) ?_
          refine GL_gf (t := 67) rfl rfl rfl (fun q => PS_eql_str (cvE rfl (by rw [q]; rfl)) rfl) ?_
          refine GL_step rfl (PS_or rfl rfl (fun h => by rw [h]; rfl)) ?_
          refine GL_step rfl (PS_move rfl) ?_
          refine GL_gf (t := 71) rfl rfl rfl (fun q => PS_move rfl) ?_
          refine GL_pgf (t := 71) rfl rfl rfl (fun q => by have q1 := q; (try simp at q1); exact PC_of cf35 (.cons (cvE rfl (by rw [q]; rfl)) (.cons rfl .nil)) (fun w hS => strings_Contains_spec _ 46 w)) ?_
          refine GL_step rfl (PS_or rfl rfl (fun h => by rw [h]; rfl)) ?_
          refine GL_nil ?_
          refine GQ_sub (.cons (k := 9) rfl (.cons (k := 11) rfl (.cons (k := 74) rfl (.nil _)))) ?_
          refine GQ_then ?_
          refine G_cond rfl (fun c5 => ?_) (fun c5 => ?_)
          · skip
            have c5p := c5
            try simp only [decide_eq_true_eq, decide_eq_false_iff_not, Bool.not_eq_true', Bool.not_eq_false', Bool.or_eq_true, Bool.and_eq_true, Bool.or_eq_false_iff, Bool.and_eq_false_iff, Int.not_lt, Int.not_le] at c5p
            refine G_seq ?_
            refine G_region ?_
            refine GL_step rfl (PS_assign rfl) ?_
            refine GL_step rfl (PS_assign rfl) ?_
            refine GL_step rfl (PS_assign rfl) ?_
            refine GL_step rfl (PS_assign rfl) ?_
            refine GL_nil ?_
            refine GQ_sub (.cons (k := 2) rfl (.cons (k := 3) rfl (.cons (k := 4) rfl (.cons (k := 5) rfl (.nil _))))) ?_
            refine GQ_then ?_
            refine G_ret ?_
            refine GQ_then_ret ?_
            refine GQ_ret rfl (.tmp rfl (.tmp rfl (.tmp rfl (.tmp rfl .nil)))) ?_
            intro w1 hS; refine ⟨?_, hS.toKeep⟩; rw [show Words.noun u = _ from ((if_f c1).trans ((if_f c2).trans (if_f c3))), Words.numN_ok y3, if_t c5]; rfl
          · skip
            have c5p := c5
            try simp only [decide_eq_true_eq, decide_eq_false_iff_not, Bool.not_eq_true', Bool.not_eq_false', Bool.or_eq_true, Bool.and_eq_true, Bool.or_eq_false_iff, Bool.and_eq_false_iff, Int.not_lt, Int.not_le] at c5p
            refine G_skip ?_
            refine GQ_sub (.cons (k := 9) rfl (.cons (k := 11) rfl (.nil _))) ?_
            refine GQ_then ?_
            refine G_seq ?_
            refine G_region ?_
            refine GL_step rfl (PS_move rfl) ?_
            refine GL_step rfl (PS_move rfl) ?_
            refine GL_step rfl (PS_assign rfl) ?_
            refine GL_step rfl (PS_assign rfl) ?_
            refine GL_step rfl (PS_assign rfl) ?_
            refine GL_step rfl (PS_assign rfl) ?_
            refine GL_nil ?_
            refine GQ_sub (.cons (k := 2) rfl (.cons (k := 3) rfl (.cons (k := 4) rfl (.cons (k := 5) rfl (.nil _))))) ?_
            refine GQ_then ?_
            refine G_ret ?_
            refine GQ_ret rfl (.tmp rfl (.tmp rfl (.tmp rfl (.tmp rfl .nil)))) ?_
            intro w1 hS; refine ⟨?_, hS.toKeep⟩; rw [show Words.noun u = _ from ((if_f c1).trans ((if_f c2).trans (if_f c3))), Words.numN_ok y3, if_f c5]; rfl
        · skip
          refine GL_step rfl (PS_move rfl) ?_
          refine GL_step rfl (PS_extract rfl rfl) ?_
          refine GL_step rfl (PS_extract rfl rfl) ?_
          refine GL_step rfl (PS_assign rfl) ?_
          refine GL_step rfl (PS_assign rfl) ?_
          refine GL_nil ?_
          refine GQ_sub (.cons (k := 8) rfl (.cons (k := 9) rfl (.cons (k := 11) rfl (.cons (k := 12) rfl (.nil _))))) ?_
          refine GQ_then ?_
          refine G_seq ?_
          refine G_seq ?_
          refine G_region ?_
          refine GL_step rfl (PS_move rfl) ?_
          refine GL_step rfl (PS_neqi Tryd.underlying57 rfl) ?_
          refine GL_step rfl (PS_move rfl) ?_
          refine GL_pass (t := 49) rfl rfl rfl rfl ?_
          refine GL_pass (t := 49) rfl rfl rfl rfl ?_
          refine GL_step rfl (PS_pick_true rfl rfl) ?_
          refine GL_step rfl (PS_move rfl) ?_
          refine GL_pass (t := 53) rfl rfl rfl rfl ?_
          refine GL_pass (t := 53) rfl rfl rfl rfl ?_
          refine GL_step rfl (PS_pick_true rfl rfl) ?_
          refine GL_step rfl (PS_move rfl) ?_
          refine GL_pass (t := 57) rfl rfl rfl rfl ?_
          refine GL_pass (t := 57) rfl rfl rfl rfl ?_
          refine GL_pass (t := 57) rfl rfl rfl rfl ?_
          refine GL_step rfl (PS_pick_true rfl rfl) ?_
          refine GL_step rfl (PS_move rfl) ?_
          refine GL_pass (t := 62) rfl rfl rfl rfl ?_
          refine GL_pass (t := 62) rfl rfl rfl rfl ?_
          refine GL_pass (t := 62) rfl rfl rfl rfl ?_
          refine GL_step rfl (PS_pick_true rfl rfl) ?_
          refine GL_step rfl (PS_move rfl) ?_
          refine GL_pass (t := 67) rfl rfl rfl rfl ?_
          refine GL_pass (t := 67) rfl rfl rfl rfl ?_
          refine GL_step rfl (PS_pick_true rfl rfl) ?_
          refine GL_step rfl (PS_move rfl) ?_
          refine GL_pass (t := 71) rfl rfl rfl rfl ?_
          refine GL_pass (t := 71) rfl rfl rfl rfl ?_
          refine GL_step rfl (PS_pick_true rfl rfl) ?_
          refine GL_nil ?_
          refine GQ_sub (.cons (k := 9) rfl (.cons (k := 11) rfl (.cons (k := 74) rfl (.nil _)))) ?_
          refine GQ_then ?_
          refine G_true rfl rfl ?_
          refine G_seq ?_
          refine G_region ?_
          refine GL_step rfl (PS_assign rfl) ?_
          refine GL_step rfl (PS_assign rfl) ?_
          refine GL_step rfl (PS_assign rfl) ?_
          refine GL_step rfl (PS_assign rfl) ?_
          refine GL_nil ?_
          refine GQ_sub (.cons (k := 2) rfl (.cons (k := 3) rfl (.cons (k := 4) rfl (.cons (k := 5) rfl (.nil _))))) ?_
          refine GQ_then ?_
          refine G_ret ?_
          refine GQ_then_ret ?_
          refine GQ_ret rfl (.tmp rfl (.tmp rfl (.tmp rfl (.tmp rfl .nil)))) ?_
          intro w1 hS; refine ⟨?_, hS.toKeep⟩; rw [show Words.noun u = _ from ((if_f c1).trans ((if_f c2).trans (if_f c3))), Words.numN_bad y7]; rfl
theorem words_many_spec (z : Int) (w : World) : Ret Tryd.prog 28 #[.int .i64 z] w fun v w' => v = .bool (Words.many z) ∧ Keep w w' := by
  refine Ret_body [] [] Tryd.func28 rfl rfl rfl (St.start w []) ?_
  refine G_seq ?_
  refine G_region ?_
  refine GL_step rfl (PS_assign rfl) ?_
  refine GL_nil ?_
  refine GQ_sub (.cons (k := 0) rfl (.nil _)) ?_
  refine GQ_then ?_
  refine G_seq ?_
  refine G_region ?_
  refine GL_step rfl (PS_move rfl) ?_
  refine GL_step rfl (PS_eql rfl rfl) ?_
  refine GL_step rfl (PS_move rfl) ?_
  refine GL_gf (t := 5) rfl rfl rfl (fun q => PS_move rfl) ?_
  refine GL_gf (t := 5) rfl rfl rfl (fun q => PS_eql (cvE rfl (by rw [q]; rfl)) rfl) ?_
  refine GL_step rfl (PS_or rfl rfl (fun h => by rw [h]; rfl)) ?_
  refine GL_step rfl (PS_move rfl) ?_
  refine GL_gf (t := 9) rfl rfl rfl (fun q => PS_move rfl) ?_
  refine GL_gf (t := 9) rfl rfl rfl (fun q => PS_eql (cvE rfl (by rw [q]; rfl)) rfl) ?_
  refine GL_step rfl (PS_or rfl rfl (fun h => by rw [h]; rfl)) ?_
  refine GL_step rfl (PS_assign rfl) ?_
  refine GL_nil ?_
  refine GQ_sub (.cons (k := 2) rfl (.nil _)) ?_
  refine GQ_then ?_
  refine G_ret ?_
  refine GQ_ret rfl (.tmp rfl .nil) ?_
  intro w1 hS; refine ⟨?_, hS.toKeep⟩; rfl
theorem words_joins_spec (z : Int) (w : World) : Ret Tryd.prog 29 #[.int .i64 z] w fun v w' => v = .tuple #[vstr (Words.joins z).1, .bool (Words.joins z).2] ∧ Keep w w' := by
  refine Ret_body [] [] Tryd.func29 rfl rfl rfl (St.start w []) ?_
  refine G_seq ?_
  refine G_region ?_
  refine GL_step rfl (PS_assign rfl) ?_
  refine GL_step rfl (PS_assign rfl) ?_
  refine GL_nil ?_
  refine GQ_sub (.cons (k := 0) rfl (.nil _)) ?_
  refine GQ_then ?_
  refine G_seq ?_
  refine G_seq ?_
  refine G_region ?_
  refine GL_step rfl (PS_move rfl) ?_
  refine GL_nil ?_
  refine GQ_sub (.cons (k := 4) rfl (.nil _)) ?_
  refine GQ_then ?_
  refine G_block ?_
  refine G_seq ?_
  refine G_region ?_
  refine GL_step rfl (PS_eql rfl rfl) ?_
  refine GL_step rfl (PS_assign rfl) ?_
  refine GL_nil ?_
  refine GQ_sub (.cons (k := 4) rfl (.cons (k := 5) rfl (.nil _))) ?_
  refine GQ_then ?_
  refine G_cond rfl (fun c1 => ?_) (fun c1 => ?_)
  · skip
    have c1p := c1
    try simp only [decide_eq_true_eq, decide_eq_false_iff_not, Bool.not_eq_true', Bool.not_eq_false', Bool.or_eq_true, Bool.and_eq_true, Bool.or_eq_false_iff, Bool.and_eq_false_iff, Int.not_lt, Int.not_le] at c1p
    refine G_seq ?_
    refine G_region ?_
    refine GL_step rfl (PS_assign rfl) ?_
    refine GL_step rfl (PS_assign rfl) ?_
    refine GL_nil ?_
    refine GQ_sub (.cons (k := 2) rfl (.cons (k := 3) rfl (.nil _))) ?_
    refine GQ_then ?_
    refine G_ret ?_
    refine GQ_block_ret ?_
    refine GQ_then_ret ?_
    refine GQ_ret rfl (.tmp rfl (.tmp rfl .nil)) ?_
    intro w1 hS; refine ⟨?_, hS.toKeep⟩; rw [show Words.joins z = _ from (if_t c1)]; rfl
  · skip
    have c1p := c1
    try simp only [decide_eq_true_eq, decide_eq_false_iff_not, Bool.not_eq_true', Bool.not_eq_false', Bool.or_eq_true, Bool.and_eq_true, Bool.or_eq_false_iff, Bool.and_eq_false_iff, Int.not_lt, Int.not_le] at c1p
    refine G_seq ?_
    refine G_region ?_
    refine GL_step rfl (PS_eql rfl rfl) ?_
    refine GL_step rfl (PS_assign rfl) ?_
    refine GL_nil ?_
    refine GQ_sub (.cons (k := 4) rfl (.cons (k := 7) rfl (.nil _))) ?_
    refine GQ_then ?_
    refine G_cond rfl (fun c2 => ?_) (fun c2 => ?_)
    · skip
      have c2p := c2
      try simp only [decide_eq_true_eq, decide_eq_false_iff_not, Bool.not_eq_true', Bool.not_eq_false', Bool.or_eq_true, Bool.and_eq_true, Bool.or_eq_false_iff, Bool.and_eq_false_iff, Int.not_lt, Int.not_le] at c2p
      refine G_seq ?_
      refine G_region ?_
      refine GL_step rfl (PS_assign rfl) ?_
      refine GL_step rfl (PS_assign rfl) ?_
      refine GL_nil ?_
      refine GQ_sub (.cons (k := 2) rfl (.cons (k := 3) rfl (.nil _))) ?_
      refine GQ_then ?_
      refine G_ret ?_
      refine GQ_block_ret ?_
      refine GQ_then_ret ?_
      refine GQ_ret rfl (.tmp rfl (.tmp rfl .nil)) ?_
      intro w1 hS; refine ⟨?_, hS.toKeep⟩; rw [show Words.joins z = _ from ((if_f c1).trans (if_t c2))]; rfl
    · skip
      have c2p := c2
      try simp only [decide_eq_true_eq, decide_eq_false_iff_not, Bool.not_eq_true', Bool.not_eq_false', Bool.or_eq_true, Bool.and_eq_true, Bool.or_eq_false_iff, Bool.and_eq_false_iff, Int.not_lt, Int.not_le] at c2p
      refine G_seq ?_
      refine G_region ?_
      refine GL_step rfl (PS_eql rfl rfl) ?_
      refine GL_step rfl (PS_assign rfl) ?_
      refine GL_nil ?_
      refine GQ_sub (.cons (k := 9) rfl (.nil _)) ?_
      refine GQ_then ?_
      refine G_cond rfl (fun c3 => ?_) (fun c3 => ?_)
      · skip
        have c3p := c3
        try simp only [decide_eq_true_eq, decide_eq_false_iff_not, Bool.not_eq_true', Bool.not_eq_false', Bool.or_eq_true, Bool.and_eq_true, Bool.or_eq_false_iff, Bool.and_eq_false_iff, Int.not_lt, Int.not_le] at c3p
        refine G_seq ?_
        refine G_region ?_
        refine GL_step rfl (PS_assign rfl) ?_
        refine GL_step rfl (PS_assign rfl) ?_
        refine GL_nil ?_
        refine GQ_sub (.cons (k := 2) rfl (.cons (k := 3) rfl (.nil _))) ?_
        refine GQ_then ?_
        refine G_ret ?_
        refine GQ_block_ret ?_
        refine GQ_then_ret ?_
        refine GQ_ret rfl (.tmp rfl (.tmp rfl .nil)) ?_
        intro w1 hS; refine ⟨?_, hS.toKeep⟩; rw [show Words.joins z = _ from ((if_f c1).trans ((if_f c2).trans (if_t c3)))]; rfl
      · skip
        have c3p := c3
        try simp only [decide_eq_true_eq, decide_eq_false_iff_not, Bool.not_eq_true', Bool.not_eq_false', Bool.or_eq_true, Bool.and_eq_true, Bool.or_eq_false_iff, Bool.and_eq_false_iff, Int.not_lt, Int.not_le] at c3p
        refine G_skip ?_
        refine GQ_sub (.nil _) ?_
        refine GQ_block ?_
        refine GQ_then ?_
        refine G_seq ?_
        refine G_region ?_
        refine GL_step rfl (PS_assign rfl) ?_
        refine GL_step rfl (PS_assign rfl) ?_
        refine GL_nil ?_
        refine GQ_then ?_
        refine G_ret ?_
        refine GQ_ret rfl (.tmp rfl (.tmp rfl .nil)) ?_
        intro w1 hS; refine ⟨?_, hS.toKeep⟩; rw [show Words.joins z = _ from ((if_f c1).trans ((if_f c2).trans (if_f c3)))]; rfl
theorem words_Parse_spec (s : Str) (hs : s.length ≤ 4000000) (w : World) (gl0 : GV 0 Land.verbsV w) (gl1 : GVE 3 w) (gl2 : GVE 4 w) : Ret Tryd.prog 8 #[vstr s] w fun v w' => v = .tuple #[.agg (Words.parse s).1.enc.toArray, .int .i64 (Words.parse s).2] ∧ Keep w w' := by
  refine Ret_body [] [] Tryd.func8 rfl rfl rfl (St.start w []) ?_
  refine G_seq ?_
  refine G_region ?_
  refine GL_alloc rfl zv23 rfl (fun b1 => ?_)
  refine GL_step rfl (PS_assign rfl) ?_
  refine GL_nil ?_
  refine GQ_sub (.cons (k := 0) rfl (.cons (k := 2) rfl (.nil _))) ?_
  refine GQ_then ?_
  refine G_seq ?_
  refine G_region ?_
  refine GL_step rfl (PS_assign rfl) ?_
  refine GL_nil ?_
  refine GQ_then ?_
  refine G_seq ?_
  refine G_region ?_
  refine GL_step rfl (PS_move rfl) ?_
  refine GL_callL rfl cf11 (.cons rfl .nil) .nil (words_Split_spec _ hs) (fun v1 B hv => ?_)
  obtain ⟨y2, rfl, y3, rfl⟩ := hv
  refine GL_step rfl (PS_assign rfl) ?_
  refine GL_nil ?_
  refine GQ_sub (.cons (k := 0) rfl (.cons (k := 2) rfl (.cons (k := 4) rfl (.cons (k := 5) rfl (.nil _))))) ?_
  refine GQ_then ?_
  refine G_seq ?_
  refine G_seq ?_
  refine G_region ?_
  refine GL_step rfl (PS_move rfl) ?_
  refine GL_step rfl (PS_len_slice rfl Tryd.underlying28 rfl) ?_
  refine GL_step rfl (PS_eql rfl rfl) ?_
  refine GL_nil ?_
  refine GQ_sub (.cons (k := 0) rfl (.cons (k := 2) rfl (.cons (k := 4) rfl (.cons (k := 5) rfl (.cons (k := 20) rfl (.nil _)))))) ?_
  refine GQ_then ?_
  refine G_cond rfl (fun c1 => ?_) (fun c1 => ?_)
  · skip
    have c1p := c1
    try simp only [decide_eq_true_eq, decide_eq_false_iff_not, Bool.not_eq_true', Bool.not_eq_false', Bool.or_eq_true, Bool.and_eq_true, Bool.or_eq_false_iff, Bool.and_eq_false_iff, Int.not_lt, Int.not_le] at c1p
    have hlen := y3
    (try simp only [Hd.cut] at c1)
    rw [hlen] at c1
    refine G_seq ?_
    refine G_region ?_
    refine GL_step rfl (PS_move rfl) ?_
    refine GL_callLV rfl cf24 rfl (.cons rfl .nil) .nil (words_Parse_1_spec _) (fun v5 B hv => ?_)
    obtain ⟨rfl, rfl⟩ := hv
    refine GL_step rfl (PS_extract rfl rfl) ?_
    refine GL_step rfl (PS_extract rfl rfl) ?_
    refine GL_unit (PU_store (Lens.id Order.fl.len Order.fl.one) rfl rfl rfl sz23 rfl (.tail .head)) ?_
    refine GL_step rfl (PS_assign rfl) ?_
    refine GL_nil ?_
    refine GQ_sub (.cons (k := 2) rfl (.cons (k := 3) rfl (.nil _))) ?_
    refine GQ_then ?_
    refine G_ret ?_
    refine GQ_then_ret ?_
    refine GQ_ret rfl (.cell rfl (.tail _ (.head _)) (.inl ⟨(by rw [Order.fl.len]; exact tya23), rfl⟩) (.tmp rfl .nil)) ?_
    intro w1 hS; refine ⟨?_, hS.toKeep⟩; rw [show Words.parse s = _ from (if_t c1)]; rfl
  · skip
    have c1p := c1
    try simp only [decide_eq_true_eq, decide_eq_false_iff_not, Bool.not_eq_true', Bool.not_eq_false', Bool.or_eq_true, Bool.and_eq_true, Bool.or_eq_false_iff, Bool.and_eq_false_iff, Int.not_lt, Int.not_le] at c1p
    have hlen := y3
    (try simp only [Hd.cut] at c1)
    rw [hlen] at c1
    refine G_skip ?_
    refine GQ_sub (.cons (k := 0) rfl (.cons (k := 2) rfl (.cons (k := 4) rfl (.cons (k := 5) rfl (.nil _))))) ?_
    refine GQ_then ?_
    refine G_seq ?_
    refine G_region ?_
    refine GL_step rfl (PS_move rfl) ?_
    refine GL_step rfl (PS_idxS is28 (by decide) (Kn.own (.head _)) rfl rfl (by omega) (by first | omega | (simp only [Hd.cut] at *; omega) | (simp [Hd.cut] at q ⊢; omega))) ?_
    refine GL_step rfl (PS_ldStr rfl tys9 (Kn.own (.head _)) (by first | omega | (simp only [List.length_drop, Hd.cut] at *; omega) | (simp [Hd.cut] at q ⊢; omega))) ?_
    refine GL_pure rfl cf14 (.cons rfl .nil) (fun w hS => words_Verb_spec _ w (gl0.st hS)) ?_
    refine GL_step rfl (PS_move rfl) ?_
    refine GL_step rfl (PS_extract rfl rfl) ?_
    refine GL_step rfl (PS_extract rfl rfl) ?_
    refine GL_step rfl (PS_assign rfl) ?_
    refine GL_step rfl (PS_assign rfl) ?_
    refine GL_nil ?_
    refine GQ_sub (.cons (k := 0) rfl (.cons (k := 2) rfl (.cons (k := 4) rfl (.cons (k := 5) rfl (.cons (k := 6) rfl (.cons (k := 7) rfl (.nil _))))))) ?_
    refine GQ_then ?_
    refine G_seq ?_
    refine G_seq ?_
    refine G_region ?_
    refine GL_step rfl (PS_move rfl) ?_
    refine GL_step rfl (PS_neq rfl rfl) ?_
    refine GL_nil ?_
    refine GQ_sub (.cons (k := 0) rfl (.cons (k := 2) rfl (.cons (k := 4) rfl (.cons (k := 5) rfl (.cons (k := 6) rfl (.cons (k := 7) rfl (.cons (k := 33) rfl (.nil _)))))))) ?_
    refine GQ_then ?_
    refine G_cond rfl (fun c2 => ?_) (fun c2 => ?_)
    · skip
      have c2p := c2
      try simp only [decide_eq_true_eq, decide_eq_false_iff_not, Bool.not_eq_true', Bool.not_eq_false', Bool.or_eq_true, Bool.and_eq_true, Bool.or_eq_false_iff, Bool.and_eq_false_iff, Int.not_lt, Int.not_le] at c2p
      refine G_seq ?_
      refine G_region ?_
      refine GL_step rfl (PS_move rfl) ?_
      refine GL_step rfl (PS_move rfl) ?_
      refine GL_callLV rfl cf24 rfl (.cons rfl .nil) .nil (words_Parse_1_spec _) (fun v6 B hv => ?_)
      obtain ⟨rfl, rfl⟩ := hv
      refine GL_step rfl (PS_extract rfl rfl) ?_
      refine GL_step rfl (PS_extract rfl rfl) ?_
      refine GL_unit (PU_store (Lens.id Order.fl.len Order.fl.one) rfl rfl rfl sz23 rfl (.tail .head)) ?_
      refine GL_step rfl (PS_assign rfl) ?_
      refine GL_nil ?_
      refine GQ_sub (.cons (k := 2) rfl (.cons (k := 3) rfl (.nil _))) ?_
      refine GQ_then ?_
      refine G_ret ?_
      refine GQ_then_ret ?_
      refine GQ_ret rfl (.cell rfl (.tail _ (.head _)) (.inl ⟨(by rw [Order.fl.len]; exact tya23), rfl⟩) (.tmp rfl .nil)) ?_
      intro w1 hS; refine ⟨?_, hS.toKeep⟩; rw [show Words.parse s = _ from ((if_f c1).trans (if_t c2))]; rfl
    · skip
      have c2p := c2
      try simp only [decide_eq_true_eq, decide_eq_false_iff_not, Bool.not_eq_true', Bool.not_eq_false', Bool.or_eq_true, Bool.and_eq_true, Bool.or_eq_false_iff, Bool.and_eq_false_iff, Int.not_lt, Int.not_le] at c2p
      refine G_skip ?_
      refine GQ_sub (.cons (k := 0) rfl (.cons (k := 2) rfl (.cons (k := 4) rfl (.cons (k := 5) rfl (.cons (k := 6) rfl (.nil _)))))) ?_
      refine GQ_then ?_
      refine G_seq ?_
      refine G_region ?_
      refine GL_step rfl (PS_move rfl) ?_
      refine GL_step rfl (PS_build pl23 zv23 rfl (.cons Order.l0 rfl rfl rfl .nil)) ?_
      refine GL_alloc rfl zv23 rfl (fun b2 => ?_)
      refine GL_unit (PU_store (Lens.id Order.fl.len Order.fl.one) rfl rfl rfl sz23 rfl .head) ?_
      refine GL_nil ?_
      refine GQ_sub (.cons (k := 0) rfl (.cons (k := 2) rfl (.cons (k := 4) rfl (.cons (k := 5) rfl (.cons (k := 6) rfl (.cons (k := 8) rfl (.nil _))))))) ?_
      refine GQ_then ?_
      refine G_seq ?_
      refine G_region ?_
      refine GL_step rfl (PS_move rfl) ?_
      refine GL_cutFromF flS rfl Tryd.underlying28 sz9 rfl rfl (by decide) (by first | omega | (simp only [Hd.cut]; omega) | (simp only [Hd.cut] at *; omega)) (fun _ => (.tail .head)) ?_
      refine GL_step rfl (PS_assign rfl) ?_
      refine GL_nil ?_
      refine GQ_sub (.cons (k := 0) rfl (.cons (k := 2) rfl (.cons (k := 4) rfl (.cons (k := 5) rfl (.cons (k := 6) rfl (.cons (k := 8) rfl (.nil _))))))) ?_
      refine GQ_then ?_
      refine G_seq ?_
      refine G_block ?_
      refine G_seq ?_
      refine G_region ?_
      refine GL_step rfl (PS_move rfl) ?_
      refine GL_step rfl (PS_eql rfl rfl) ?_
      refine GL_step rfl (PS_assign rfl) ?_
      refine GL_nil ?_
      refine GQ_sub (.cons (k := 0) rfl (.cons (k := 2) rfl (.cons (k := 4) rfl (.cons (k := 5) rfl (.cons (k := 6) rfl (.cons (k := 8) rfl (.cons (k := 43) rfl (.nil _)))))))) ?_
      refine GQ_then ?_
      refine G_cond rfl (fun c3 => ?_) (fun c3 => ?_)
      · skip
        have c3p := c3
        try simp only [decide_eq_true_eq, decide_eq_false_iff_not, Bool.not_eq_true', Bool.not_eq_false', Bool.or_eq_true, Bool.and_eq_true, Bool.or_eq_false_iff, Bool.and_eq_false_iff, Int.not_lt, Int.not_le] at c3p
        refine G_seq ?_
        refine G_region ?_
        refine GL_step rfl (PS_move rfl) ?_
        refine GL_pure rfl cf26 (.cons rfl (.cons rfl .nil)) (fun w hS => strings_TrimLeft_spec _ (by omega) w) ?_
        refine GL_pure rfl cf25 (.cons rfl (.cons rfl .nil)) (fun w hS => strings_Cut_spec _ 32 (by have := Words.trL_len 32 s; omega) w) ?_
        refine GL_step rfl (PS_move rfl) ?_
        refine GL_step rfl (PS_extract rfl rfl) ?_
        refine GL_step rfl (PS_extract rfl rfl) ?_
        refine GL_step rfl (PS_extract rfl rfl) ?_
        refine GL_step rfl (PS_assign rfl) ?_
        refine GL_step rfl (PS_assign rfl) ?_
        refine GL_step rfl (PS_assign rfl) ?_
        refine GL_nil ?_
        refine GQ_sub (.cons (k := 2) rfl (.cons (k := 4) rfl (.cons (k := 8) rfl (.cons (k := 10) rfl (.nil _))))) ?_
        refine GQ_then ?_
        refine G_seq ?_
        refine G_seq ?_
        refine G_region ?_
        refine GL_step rfl (PS_move rfl) ?_
        refine GL_pure rfl cf27 (.cons rfl (.cons rfl .nil)) (fun w hS => strings_Trim_spec _ (by have h1 := Words.trL_len 32 s; have h2 := Words.cut_len 32 (Words.trL 32 s); omega) w) ?_
        refine GL_step rfl (PS_fieldAddr fa23_5 rfl) ?_
        refine GL_unit (PU_store Order.l5 rfl rfl rfl sz9 rfl .head) ?_
        refine GL_nil ?_
        refine GQ_sub (.cons (k := 2) rfl (.cons (k := 4) rfl (.cons (k := 8) rfl (.nil _)))) ?_
        refine GQ_then ?_
        refine G_seq ?_
        refine G_region ?_
        refine GL_step rfl (PS_fieldAddr fa23_5 rfl) ?_
        refine GL_step rfl (PS_load rfl tys9 (.head _) Order.l5 rfl rfl) ?_
        refine GL_step rfl (PS_eql_str rfl rfl) ?_
        refine GL_nil ?_
        refine GQ_sub (.cons (k := 2) rfl (.cons (k := 4) rfl (.cons (k := 8) rfl (.cons (k := 58) rfl (.nil _))))) ?_
        refine GQ_then ?_
        refine G_cond rfl (fun c4 => ?_) (fun c4 => ?_)
        · skip
          have c4p := c4
          try simp only [decide_eq_true_eq, decide_eq_false_iff_not, Bool.not_eq_true', Bool.not_eq_false', Bool.or_eq_true, Bool.and_eq_true, Bool.or_eq_false_iff, Bool.and_eq_false_iff, Int.not_lt, Int.not_le] at c4p
          refine G_seq ?_
          refine G_region ?_
          refine GL_step rfl (PS_move rfl) ?_
          refine GL_callLV rfl cf24 rfl (.cons rfl .nil) .nil (words_Parse_1_spec _) (fun v7 B hv => ?_)
          obtain ⟨rfl, rfl⟩ := hv
          refine GL_step rfl (PS_extract rfl rfl) ?_
          refine GL_step rfl (PS_extract rfl rfl) ?_
          refine GL_unit (PU_store (Lens.id Order.fl.len Order.fl.one) rfl rfl rfl sz23 rfl (.tail (.tail .head))) ?_
          refine GL_step rfl (PS_assign rfl) ?_
          refine GL_nil ?_
          refine GQ_sub (.cons (k := 2) rfl (.cons (k := 3) rfl (.nil _))) ?_
          refine GQ_then ?_
          refine G_ret ?_
          refine GQ_then_ret ?_
          refine GQ_block_ret ?_
          refine GQ_then_ret ?_
          refine GQ_ret rfl (.cell rfl (.tail _ (.tail _ (.head _))) (.inl ⟨(by rw [Order.fl.len]; exact tya23), rfl⟩) (.tmp rfl .nil)) ?_
          intro w1 hS; refine ⟨?_, hS.toKeep⟩; rw [show Words.parse s = _ from ((if_f c1).trans ((if_f c2).trans ((if_t c3).trans (if_t c4))))]; rfl
        · skip
          have c4p := c4
          try simp only [decide_eq_true_eq, decide_eq_false_iff_not, Bool.not_eq_true', Bool.not_eq_false', Bool.or_eq_true, Bool.and_eq_true, Bool.or_eq_false_iff, Bool.and_eq_false_iff, Int.not_lt, Int.not_le] at c4p
          refine G_skip ?_
          refine GQ_sub (.cons (k := 2) rfl (.cons (k := 8) rfl (.nil _))) ?_
          refine GQ_then ?_
          refine G_seq ?_
          refine G_region ?_
          refine GL_step rfl (PS_loadA rfl tya23 (.head _) (Lens.id Order.fl.len Order.fl.one) rfl) ?_
          refine GL_unit (PU_store (Lens.id Order.fl.len Order.fl.one) rfl rfl rfl sz23 rfl (.tail (.tail .head))) ?_
          refine GL_step rfl (PS_assign rfl) ?_
          refine GL_nil ?_
          refine GQ_sub (.cons (k := 2) rfl (.cons (k := 3) rfl (.nil _))) ?_
          refine GQ_then ?_
          refine G_ret ?_
          refine GQ_block_ret ?_
          refine GQ_then_ret ?_
          refine GQ_ret rfl (.cell rfl (.tail _ (.tail _ (.head _))) (.inl ⟨(by rw [Order.fl.len]; exact tya23), rfl⟩) (.tmp rfl .nil)) ?_
          intro w1 hS; refine ⟨?_, hS.toKeep⟩; rw [show Words.parse s = _ from ((if_f c1).trans ((if_f c2).trans ((if_t c3).trans (if_f c4))))]; rfl
      · skip
        have c3p := c3
        try simp only [decide_eq_true_eq, decide_eq_false_iff_not, Bool.not_eq_true', Bool.not_eq_false', Bool.or_eq_true, Bool.and_eq_true, Bool.or_eq_false_iff, Bool.and_eq_false_iff, Int.not_lt, Int.not_le] at c3p
        refine G_seq ?_
        refine G_region ?_
        refine GL_step rfl (PS_move rfl) ?_
        refine GL_step rfl (PS_leq rfl rfl) ?_
        refine GL_step rfl (PS_move rfl) ?_
        refine GL_gf (t := 67) rfl rfl rfl (fun q => PS_move rfl) ?_
        refine GL_gf (t := 67) rfl rfl rfl (fun q => PS_geq (cvE rfl (by rw [q]; rfl)) rfl) ?_
        refine GL_step rfl (PS_or rfl rfl (fun h => by rw [h]; rfl)) ?_
        refine GL_step rfl (PS_assign rfl) ?_
        refine GL_nil ?_
        refine GQ_sub (.cons (k := 2) rfl (.cons (k := 4) rfl (.cons (k := 5) rfl (.cons (k := 6) rfl (.cons (k := 8) rfl (.cons (k := 64) rfl (.nil _))))))) ?_
        refine GQ_then ?_
        refine G_cond rfl (fun c5 => ?_) (fun c5 => ?_)
        · skip
          have c5p := c5
          try simp only [decide_eq_true_eq, decide_eq_false_iff_not, Bool.not_eq_true', Bool.not_eq_false', Bool.or_eq_true, Bool.and_eq_true, Bool.or_eq_false_iff, Bool.and_eq_false_iff, Int.not_lt, Int.not_le] at c5p
          refine G_seq ?_
          refine G_seq ?_
          refine G_region ?_
          refine GL_step rfl (PS_move rfl) ?_
          refine GL_step rfl (PS_len_slice rfl Tryd.underlying28 rfl) ?_
          refine GL_step rfl (PS_gtr rfl rfl) ?_
          refine GL_nil ?_
          refine GQ_sub (.cons (k := 2) rfl (.cons (k := 4) rfl (.cons (k := 8) rfl (.cons (k := 73) rfl (.nil _))))) ?_
          refine GQ_then ?_
          refine G_cond rfl (fun c6 => ?_) (fun c6 => ?_)
          · skip
            have c6p := c6
            try simp only [decide_eq_true_eq, decide_eq_false_iff_not, Bool.not_eq_true', Bool.not_eq_false', Bool.or_eq_true, Bool.and_eq_true, Bool.or_eq_false_iff, Bool.and_eq_false_iff, Int.not_lt, Int.not_le] at c6p
            (try simp only [Hd.cut] at c6)
            rw [hlen] at c6
            refine G_seq ?_
            refine G_region ?_
            refine GL_step rfl (PS_move rfl) ?_
            refine GL_callLV rfl cf24 rfl (.cons rfl .nil) .nil (words_Parse_1_spec _) (fun v8 B hv => ?_)
            obtain ⟨rfl, rfl⟩ := hv
            refine GL_step rfl (PS_extract rfl rfl) ?_
            refine GL_step rfl (PS_extract rfl rfl) ?_
            refine GL_unit (PU_store (Lens.id Order.fl.len Order.fl.one) rfl rfl rfl sz23 rfl (.tail (.tail .head))) ?_
            refine GL_step rfl (PS_assign rfl) ?_
            refine GL_nil ?_
            refine GQ_sub (.cons (k := 2) rfl (.cons (k := 3) rfl (.nil _))) ?_
            refine GQ_then ?_
            refine G_ret ?_
            refine GQ_then_ret ?_
            refine GQ_block_ret ?_
            refine GQ_then_ret ?_
            refine GQ_ret rfl (.cell rfl (.tail _ (.tail _ (.head _))) (.inl ⟨(by rw [Order.fl.len]; exact tya23), rfl⟩) (.tmp rfl .nil)) ?_
            intro w1 hS; refine ⟨?_, hS.toKeep⟩; rw [show Words.parse s = _ from ((if_f c1).trans ((if_f c2).trans ((if_f c3).trans ((if_t c5).trans (if_t c6)))))]; rfl
          · skip
            have c6p := c6
            try simp only [decide_eq_true_eq, decide_eq_false_iff_not, Bool.not_eq_true', Bool.not_eq_false', Bool.or_eq_true, Bool.and_eq_true, Bool.or_eq_false_iff, Bool.and_eq_false_iff, Int.not_lt, Int.not_le] at c6p
            (try simp only [Hd.cut] at c6)
            rw [hlen] at c6
            refine G_skip ?_
            refine GQ_sub (.cons (k := 2) rfl (.cons (k := 8) rfl (.nil _))) ?_
            refine GQ_then ?_
            refine G_seq ?_
            refine G_region ?_
            refine GL_step rfl (PS_loadA rfl tya23 (.head _) (Lens.id Order.fl.len Order.fl.one) rfl) ?_
            refine GL_unit (PU_store (Lens.id Order.fl.len Order.fl.one) rfl rfl rfl sz23 rfl (.tail (.tail .head))) ?_
            refine GL_step rfl (PS_assign rfl) ?_
            refine GL_nil ?_
            refine GQ_sub (.cons (k := 2) rfl (.cons (k := 3) rfl (.nil _))) ?_
            refine GQ_then ?_
            refine G_ret ?_
            refine GQ_block_ret ?_
            refine GQ_then_ret ?_
            refine GQ_ret rfl (.cell rfl (.tail _ (.tail _ (.head _))) (.inl ⟨(by rw [Order.fl.len]; exact tya23), rfl⟩) (.tmp rfl .nil)) ?_
            intro w1 hS; refine ⟨?_, hS.toKeep⟩; rw [show Words.parse s = _ from ((if_f c1).trans ((if_f c2).trans ((if_f c3).trans ((if_t c5).trans (if_f c6)))))]; rfl
        · skip
          have c5p := c5
          try simp only [decide_eq_true_eq, decide_eq_false_iff_not, Bool.not_eq_true', Bool.not_eq_false', Bool.or_eq_true, Bool.and_eq_true, Bool.or_eq_false_iff, Bool.and_eq_false_iff, Int.not_lt, Int.not_le] at c5p
          refine G_seq ?_
          refine G_region ?_
          refine GL_step rfl (PS_move rfl) ?_
          refine GL_step rfl (PS_len_slice rfl Tryd.underlying28 rfl) ?_
          refine GL_step rfl (PS_eql rfl rfl) ?_
          refine GL_step rfl (PS_assign rfl) ?_
          refine GL_nil ?_
          refine GQ_sub (.cons (k := 2) rfl (.cons (k := 4) rfl (.cons (k := 5) rfl (.cons (k := 6) rfl (.cons (k := 8) rfl (.cons (k := 79) rfl (.nil _))))))) ?_
          refine GQ_then ?_
          refine G_cond rfl (fun c7 => ?_) (fun c7 => ?_)
          · skip
            have c7p := c7
            try simp only [decide_eq_true_eq, decide_eq_false_iff_not, Bool.not_eq_true', Bool.not_eq_false', Bool.or_eq_true, Bool.and_eq_true, Bool.or_eq_false_iff, Bool.and_eq_false_iff, Int.not_lt, Int.not_le] at c7p
            (try simp only [Hd.cut] at c7)
            rw [hlen] at c7
            refine G_seq ?_
            refine G_region ?_
            refine GL_step rfl (PS_move rfl) ?_
            refine GL_callLV rfl cf24 rfl (.cons rfl .nil) .nil (words_Parse_1_spec _) (fun v9 B hv => ?_)
            obtain ⟨rfl, rfl⟩ := hv
            refine GL_step rfl (PS_extract rfl rfl) ?_
            refine GL_step rfl (PS_extract rfl rfl) ?_
            refine GL_unit (PU_store (Lens.id Order.fl.len Order.fl.one) rfl rfl rfl sz23 rfl (.tail (.tail .head))) ?_
            refine GL_step rfl (PS_assign rfl) ?_
            refine GL_nil ?_
            refine GQ_sub (.cons (k := 2) rfl (.cons (k := 3) rfl (.nil _))) ?_
            refine GQ_then ?_
            refine G_ret ?_
            refine GQ_block_ret ?_
            refine GQ_then_ret ?_
            refine GQ_ret rfl (.cell rfl (.tail _ (.tail _ (.head _))) (.inl ⟨(by rw [Order.fl.len]; exact tya23), rfl⟩) (.tmp rfl .nil)) ?_
            intro w1 hS; refine ⟨?_, hS.toKeep⟩; rw [show Words.parse s = _ from ((if_f c1).trans ((if_f c2).trans ((if_f c3).trans ((if_f c5).trans (if_t c7)))))]; rfl
          · skip
            have c7p := c7
            try simp only [decide_eq_true_eq, decide_eq_false_iff_not, Bool.not_eq_true', Bool.not_eq_false', Bool.or_eq_true, Bool.and_eq_true, Bool.or_eq_false_iff, Bool.and_eq_false_iff, Int.not_lt, Int.not_le] at c7p
            (try simp only [Hd.cut] at c7)
            rw [hlen] at c7
            refine G_skip ?_
            refine GQ_sub (.cons (k := 2) rfl (.cons (k := 4) rfl (.cons (k := 5) rfl (.cons (k := 6) rfl (.cons (k := 8) rfl (.nil _)))))) ?_
            refine GQ_block ?_
            refine GQ_then ?_
            refine G_seq ?_
            refine G_seq ?_
            refine G_region ?_
            refine GL_step rfl (PS_move rfl) ?_
            refine GL_step rfl (PS_eql rfl rfl) ?_
            refine GL_step rfl (PS_move rfl) ?_
            refine GL_gf (t := 89) rfl rfl rfl (fun q => PS_move rfl) ?_
            refine GL_gf (t := 89) rfl rfl rfl (fun q => PS_eql (cvE rfl (by rw [q]; rfl)) rfl) ?_
            refine GL_step rfl (PS_or rfl rfl (fun h => by rw [h]; rfl)) ?_
            refine GL_nil ?_
            refine GQ_sub (.cons (k := 2) rfl (.cons (k := 4) rfl (.cons (k := 5) rfl (.cons (k := 6) rfl (.cons (k := 8) rfl (.cons (k := 92) rfl (.nil _))))))) ?_
            refine GQ_then ?_
            refine G_cond rfl (fun c8 => ?_) (fun c8 => ?_)
            · skip
              have c8p := c8
              try simp only [decide_eq_true_eq, decide_eq_false_iff_not, Bool.not_eq_true', Bool.not_eq_false', Bool.or_eq_true, Bool.and_eq_true, Bool.or_eq_false_iff, Bool.and_eq_false_iff, Int.not_lt, Int.not_le] at c8p
              refine G_seq ?_
              refine G_region ?_
              refine GL_step rfl (PS_move rfl) ?_
              refine GL_step rfl (PS_idxS is28 (by decide) (Kn.own (.tail _ (.head _))) rfl rfl (by omega) (by first | omega | (simp only [Hd.cut] at *; omega) | (simp [Hd.cut] at q ⊢; omega))) ?_
              refine GL_step rfl (PS_ldStr rfl tys9 (Kn.own (.tail _ (.head _))) (by first | omega | (simp only [List.length_drop, Hd.cut] at *; omega) | (simp [Hd.cut] at q ⊢; omega))) ?_
              refine GL_pure rfl cf14 (.cons rfl .nil) (fun w hS => words_Verb_spec _ w (gl0.st hS)) ?_
              refine GL_step rfl (PS_move rfl) ?_
              refine GL_step rfl (PS_extract rfl rfl) ?_
              refine GL_step rfl (PS_extract rfl rfl) ?_
              refine GL_step rfl (PS_assign rfl) ?_
              refine GL_step rfl (PS_assign rfl) ?_
              refine GL_nil ?_
              refine GQ_sub (.cons (k := 2) rfl (.cons (k := 4) rfl (.cons (k := 5) rfl (.cons (k := 6) rfl (.cons (k := 8) rfl (.cons (k := 12) rfl (.cons (k := 13) rfl (.nil _)))))))) ?_
              refine GQ_then ?_
              refine G_seq ?_
              refine G_region ?_
              refine GL_step rfl (PS_move rfl) ?_
              refine GL_step rfl (PS_eql rfl rfl) ?_
              refine GL_step rfl (PS_move rfl) ?_
              refine GL_gt (t := 102) rfl rfl rfl (fun q => PS_move rfl) ?_
              refine GL_gt (t := 102) rfl rfl rfl (fun q => PS_lss (cvE rfl q) rfl) ?_
              refine GL_step rfl (PS_and rfl rfl (fun h => h)) ?_
              refine GL_step rfl (PS_move rfl) ?_
              refine GL_gt (t := 106) rfl rfl rfl (fun q => PS_move rfl) ?_
              refine GL_gt (t := 106) rfl rfl rfl (fun q => PS_len_slice rfl Tryd.underlying28 (cvE rfl q)) ?_
              refine GL_gt (t := 106) rfl rfl rfl (fun q => PS_eql (cvE rfl q) rfl) ?_
              refine GL_step rfl (PS_and rfl rfl (fun h => h)) ?_
              refine GL_nil ?_
              refine GQ_sub (.cons (k := 2) rfl (.cons (k := 4) rfl (.cons (k := 5) rfl (.cons (k := 6) rfl (.cons (k := 8) rfl (.cons (k := 12) rfl (.cons (k := 110) rfl (.nil _)))))))) ?_
              refine GQ_then ?_
              refine G_cond rfl (fun c9 => ?_) (fun c9 => ?_)
              · skip
                have c9p := c9
                try simp only [decide_eq_true_eq, decide_eq_false_iff_not, Bool.not_eq_true', Bool.not_eq_false', Bool.or_eq_true, Bool.and_eq_true, Bool.or_eq_false_iff, Bool.and_eq_false_iff, Int.not_lt, Int.not_le] at c9p
                (try simp only [Hd.cut] at c9)
                rw [hlen] at c9
                have hd : 0 ≤ (Words.verb (((Words.words s).drop (1 : Int).toNat).getD (0 : Int).toNat [])).1 ∧ (Words.verb (((Words.words s).drop (1 : Int).toNat).getD (0 : Int).toNat [])).1 < 6 := ⟨(Words.verb_rng _).1, by have h := c9; rw [Bool.and_eq_true, Bool.and_eq_true] at h; exact of_decide_eq_true h.1.2⟩
                refine G_seq ?_
                refine G_region ?_
                refine GL_step rfl (PS_move rfl) ?_
                refine GL_step rfl (PS_indexAddr ia46 rfl rfl (by first | omega | (simp only [Hd.cut]; omega) | (simp only [Hd.cut] at *; omega)) (by first | omega | (simp only [Hd.cut]; omega) | (simp only [Hd.cut] at *; omega))) ?_
                refine GL_step rfl (PS_ldGV gl0 rfl tys9 (Land.verbs_at hd.1 hd.2)) ?_
                refine GL_step rfl (PS_fieldAddr fa23_3 rfl) ?_
                refine GL_unit (PU_store Order.l3 rfl rfl rfl sz9 rfl .head) ?_
                refine GL_step rfl (PS_fieldAddr fa23_1 rfl) ?_
                refine GL_unit (PU_store Order.l1 rfl rfl rfl sz3 rfl .head) ?_
                refine GL_nil ?_
                refine GQ_sub (.cons (k := 2) rfl (.cons (k := 8) rfl (.nil _))) ?_
                refine GQ_then ?_
                refine G_seq ?_
                refine G_region ?_
                refine GL_step rfl (PS_loadA rfl tya23 (.head _) (Lens.id Order.fl.len Order.fl.one) rfl) ?_
                refine GL_unit (PU_store (Lens.id Order.fl.len Order.fl.one) rfl rfl rfl sz23 rfl (.tail (.tail .head))) ?_
                refine GL_step rfl (PS_assign rfl) ?_
                refine GL_nil ?_
                refine GQ_sub (.cons (k := 2) rfl (.cons (k := 3) rfl (.nil _))) ?_
                refine GQ_then ?_
                refine G_ret ?_
                refine GQ_then_ret ?_
                refine GQ_ret rfl (.cell rfl (.tail _ (.tail _ (.head _))) (.inl ⟨(by rw [Order.fl.len]; exact tya23), rfl⟩) (.tmp rfl .nil)) ?_
                intro w1 hS; refine ⟨?_, hS.toKeep⟩; rw [show Words.parse s = _ from ((if_f c1).trans ((if_f c2).trans ((if_f c3).trans ((if_f c5).trans ((if_f c7).trans ((if_t c8).trans (if_t c9)))))))]; rfl
              · skip
                have c9p := c9
                try simp only [decide_eq_true_eq, decide_eq_false_iff_not, Bool.not_eq_true', Bool.not_eq_false', Bool.or_eq_true, Bool.and_eq_true, Bool.or_eq_false_iff, Bool.and_eq_false_iff, Int.not_lt, Int.not_le] at c9p
                (try simp only [Hd.cut] at c9)
                rw [hlen] at c9
                refine G_skip ?_
                refine GQ_sub (.cons (k := 2) rfl (.cons (k := 4) rfl (.cons (k := 5) rfl (.cons (k := 6) rfl (.cons (k := 8) rfl (.nil _)))))) ?_
                refine GQ_then ?_
                refine G_seq ?_
                refine G_seq ?_
                refine G_region ?_
                refine GL_step rfl (PS_move rfl) ?_
                refine GL_step rfl (PS_idxS is28 (by decide) (Kn.own (.tail _ (.head _))) rfl rfl (by omega) (by first | omega | (simp only [Hd.cut] at *; omega) | (simp [Hd.cut] at q ⊢; omega))) ?_
                refine GL_step rfl (PS_ldStr rfl tys9 (Kn.own (.tail _ (.head _))) (by first | omega | (simp only [List.length_drop, Hd.cut] at *; omega) | (simp [Hd.cut] at q ⊢; omega))) ?_
                refine GL_pure rfl cf18 (.cons rfl .nil) (fun w hS => words_Noun_spec _ (by have := Words.words_le1 s 0 1; exact Nat.le_trans this (by omega)) w (gl1.st hS) (gl2.st hS)) ?_
                refine GL_step rfl (PS_move rfl) ?_
                refine GL_step rfl (PS_extract rfl rfl) ?_
                refine GL_step rfl (PS_extract rfl rfl) ?_
                refine GL_step rfl (PS_extract rfl rfl) ?_
                refine GL_step rfl (PS_extract rfl rfl) ?_
                refine GL_step rfl (PS_fieldAddr fa23_1 rfl) ?_
                refine GL_unit (PU_store Order.l1 rfl rfl rfl sz3 rfl .head) ?_
                refine GL_step rfl (PS_fieldAddr fa23_3 rfl) ?_
                refine GL_unit (PU_store Order.l3 rfl rfl rfl sz9 rfl .head) ?_
                refine GL_step rfl (PS_fieldAddr fa23_2 rfl) ?_
                refine GL_unit (PU_store Order.l2 rfl rfl rfl sz4 rfl .head) ?_
                refine GL_step rfl (PS_assign rfl) ?_
                refine GL_nil ?_
                refine GQ_sub (.cons (k := 2) rfl (.cons (k := 4) rfl (.cons (k := 5) rfl (.cons (k := 6) rfl (.cons (k := 7) rfl (.cons (k := 8) rfl (.nil _))))))) ?_
                refine GQ_then ?_
                refine G_seq ?_
                refine G_region ?_
                refine GL_step rfl (PS_move rfl) ?_
                refine GL_step rfl (PS_neq rfl rfl) ?_
                refine GL_step rfl (PS_move rfl) ?_
                refine GL_gf (t := 131) rfl rfl rfl (fun q => PS_fieldAddr fa23_2 rfl) ?_
                refine GL_gf (t := 131) rfl rfl rfl (fun q => PS_load (cvE rfl (by rw [q]; rfl)) tys4 (.head _) Order.l2 rfl rfl) ?_
                refine GL_gf (t := 131) rfl rfl rfl (fun q => PS_move (cvE rfl (by rw [q]; rfl))) ?_
                refine GL_gtc (t := 134) rfl rfl rfl (fun qc q => PS_move rfl) ?_
                refine GL_pgtc (t := 134) rfl rfl rfl (fun qc q => by have q1 := q; have qc1 := qc; (try simp at q1 qc1); exact PC_of cf28 (.cons (cvE rfl (by rw [qc, q]; rfl)) .nil) (fun w hS => words_many_spec _ w)) ?_
                refine GL_gtc (t := 134) rfl rfl rfl (fun qc q => PS_not (cvE rfl (by rw [qc, q]; rfl))) ?_
                refine GL_gf (t := 131) rfl rfl rfl (fun q => PS_and (cvE rfl (by rw [q]; rfl)) rfl (fun h => by rw [q, h]; rfl)) ?_
                refine GL_step rfl (PS_or rfl rfl (fun h => by rw [h]; rfl)) ?_
                refine GL_nil ?_
                refine GQ_sub (.cons (k := 2) rfl (.cons (k := 4) rfl (.cons (k := 5) rfl (.cons (k := 6) rfl (.cons (k := 8) rfl (.cons (k := 139) rfl (.nil _))))))) ?_
                refine GQ_then ?_
                refine G_cond rfl (fun c10 => ?_) (fun c10 => ?_)
                · skip
                  have c10p := c10
                  try simp only [decide_eq_true_eq, decide_eq_false_iff_not, Bool.not_eq_true', Bool.not_eq_false', Bool.or_eq_true, Bool.and_eq_true, Bool.or_eq_false_iff, Bool.and_eq_false_iff, Int.not_lt, Int.not_le] at c10p
                  refine G_seq ?_
                  refine G_region ?_
                  refine GL_step rfl (PS_move rfl) ?_
                  refine GL_callLV rfl cf24 rfl (.cons rfl .nil) .nil (words_Parse_1_spec _) (fun v10 B hv => ?_)
                  obtain ⟨rfl, rfl⟩ := hv
                  refine GL_step rfl (PS_extract rfl rfl) ?_
                  refine GL_step rfl (PS_extract rfl rfl) ?_
                  refine GL_unit (PU_store (Lens.id Order.fl.len Order.fl.one) rfl rfl rfl sz23 rfl (.tail (.tail .head))) ?_
                  refine GL_step rfl (PS_assign rfl) ?_
                  refine GL_nil ?_
                  refine GQ_sub (.cons (k := 2) rfl (.cons (k := 3) rfl (.nil _))) ?_
                  refine GQ_then ?_
                  refine G_ret ?_
                  refine GQ_then_ret ?_
                  refine GQ_ret rfl (.cell rfl (.tail _ (.tail _ (.head _))) (.inl ⟨(by rw [Order.fl.len]; exact tya23), rfl⟩) (.tmp rfl .nil)) ?_
                  intro w1 hS; refine ⟨?_, hS.toKeep⟩; rw [show Words.parse s = _ from ((if_f c1).trans ((if_f c2).trans ((if_f c3).trans ((if_f c5).trans ((if_f c7).trans ((if_t c8).trans ((if_f c9).trans (if_t c10))))))))]; rfl
                · skip
                  have c10p := c10
                  try simp only [decide_eq_true_eq, decide_eq_false_iff_not, Bool.not_eq_true', Bool.not_eq_false', Bool.or_eq_true, Bool.and_eq_true, Bool.or_eq_false_iff, Bool.and_eq_false_iff, Int.not_lt, Int.not_le] at c10p
                  refine G_skip ?_
                  refine GQ_sub (.cons (k := 2) rfl (.cons (k := 4) rfl (.cons (k := 5) rfl (.cons (k := 6) rfl (.cons (k := 8) rfl (.nil _)))))) ?_
                  refine GQ_then ?_
                  refine G_seq ?_
                  refine G_region ?_
                  refine GL_step rfl (PS_move rfl) ?_
                  refine GL_pure rfl cf29 (.cons rfl .nil) (fun w hS => words_joins_spec _ w) ?_
                  refine GL_step rfl (PS_move rfl) ?_
                  refine GL_step rfl (PS_extract rfl rfl) ?_
                  refine GL_step rfl (PS_extract rfl rfl) ?_
                  refine GL_step rfl (PS_assign rfl) ?_
                  refine GL_step rfl (PS_assign rfl) ?_
                  refine GL_nil ?_
                  refine GQ_sub (.cons (k := 2) rfl (.cons (k := 4) rfl (.cons (k := 5) rfl (.cons (k := 8) rfl (.cons (k := 14) rfl (.cons (k := 15) rfl (.nil _))))))) ?_
                  refine GQ_then ?_
                  refine G_seq ?_
                  refine G_region ?_
                  refine GL_step rfl (PS_move rfl) ?_
                  refine GL_cutFromF flS rfl Tryd.underlying28 sz9 rfl rfl (by decide) (by first | omega | (simp only [Hd.cut]; omega) | (simp only [Hd.cut] at *; omega)) (fun _ => (.tail .head)) ?_
                  refine GL_step rfl (PS_assign rfl) ?_
                  refine GL_nil ?_
                  refine GQ_sub (.cons (k := 2) rfl (.cons (k := 4) rfl (.cons (k := 5) rfl (.cons (k := 8) rfl (.cons (k := 14) rfl (.cons (k := 15) rfl (.nil _))))))) ?_
                  refine GQ_then ?_
                  refine G_seq ?_
                  refine G_seq ?_
                  refine G_region ?_
                  refine GL_step rfl (PS_move rfl) ?_
                  refine GL_step rfl (PS_len_slice rfl Tryd.underlying28 rfl) ?_
                  refine GL_step rfl (PS_gtr rfl rfl) ?_
                  refine GL_step rfl (PS_move rfl) ?_
                  refine GL_gt (t := 154) rfl rfl rfl (fun q => PS_move rfl) ?_
                  refine GL_gt (t := 154) rfl rfl rfl (fun q => PS_neq_str (cvE rfl q) rfl) ?_
                  refine GL_step rfl (PS_and rfl rfl (fun h => h)) ?_
                  refine GL_step rfl (PS_move rfl) ?_
                  refine GL_gt (t := 158) rfl rfl rfl (fun q => PS_move rfl) ?_
                  refine GL_gt (t := 158) rfl rfl rfl (fun q => by have q1 := q; (try simp at q1); exact PS_idxS is28 (by decide) (Kn.own (.tail _ (.head _))) (cvE rfl q) rfl (by omega) (by first | omega | (simp only [Hd.cut] at *; omega) | (simp [Hd.cut] at q ⊢; omega))) ?_
                  refine GL_gt (t := 158) rfl rfl rfl (fun q => by have q1 := q; (try simp at q1); exact PS_ldStr (cvE rfl q) tys9 (Kn.own (.tail _ (.head _))) (by first | omega | (simp only [List.length_drop, Hd.cut] at *; omega) | (simp [Hd.cut] at q ⊢; omega))) ?_
                  refine GL_gt (t := 158) rfl rfl rfl (fun q => PS_move rfl) ?_
                  refine GL_gt (t := 158) rfl rfl rfl (fun q => PS_eql_str (cvE rfl q) (cvE rfl q)) ?_
                  refine GL_step rfl (PS_and rfl rfl (fun h => h)) ?_
                  refine GL_nil ?_
                  refine GQ_sub (.cons (k := 2) rfl (.cons (k := 4) rfl (.cons (k := 5) rfl (.cons (k := 8) rfl (.cons (k := 14) rfl (.cons (k := 15) rfl (.cons (k := 164) rfl (.nil _)))))))) ?_
                  refine GQ_then ?_
                  refine G_cond rfl (fun c11 => ?_) (fun c11 => ?_)
                  · skip
                    have c11p := c11
                    try simp only [decide_eq_true_eq, decide_eq_false_iff_not, Bool.not_eq_true', Bool.not_eq_false', Bool.or_eq_true, Bool.and_eq_true, Bool.or_eq_false_iff, Bool.and_eq_false_iff, Int.not_lt, Int.not_le] at c11p
                    (try simp only [Hd.cut] at c11)
                    rw [hlen] at c11
                    refine G_seq ?_
                    refine G_region ?_
                    refine GL_step rfl (PS_move rfl) ?_
                    refine GL_cutFromF flS rfl Tryd.underlying28 sz9 rfl rfl (by decide) (by first | omega | (simp only [Hd.cut]; omega) | (simp only [Hd.cut] at *; omega)) (fun _ => (.tail .head)) ?_
                    refine GL_step rfl (PS_assign rfl) ?_
                    refine GL_nil ?_
                    refine GQ_sub (.cons (k := 2) rfl (.cons (k := 4) rfl (.cons (k := 5) rfl (.cons (k := 8) rfl (.cons (k := 14) rfl (.cons (k := 15) rfl (.nil _))))))) ?_
                    refine GQ_then ?_
                    refine G_seq ?_
                    refine G_region ?_
                    refine GL_step rfl (PS_move rfl) ?_
                    refine GL_step rfl (PS_len_slice rfl Tryd.underlying28 rfl) ?_
                    refine GL_step rfl (PS_eql rfl rfl) ?_
                    refine GL_nil ?_
                    refine GQ_sub (.cons (k := 2) rfl (.cons (k := 4) rfl (.cons (k := 5) rfl (.cons (k := 8) rfl (.cons (k := 14) rfl (.cons (k := 15) rfl (.cons (k := 169) rfl (.nil _)))))))) ?_
                    refine GQ_then ?_
                    refine G_cond rfl (fun c12 => ?_) (fun c12 => ?_)
                    · skip
                      have c12p := c12
                      try simp only [decide_eq_true_eq, decide_eq_false_iff_not, Bool.not_eq_true', Bool.not_eq_false', Bool.or_eq_true, Bool.and_eq_true, Bool.or_eq_false_iff, Bool.and_eq_false_iff, Int.not_lt, Int.not_le] at c12p
                      (try simp only [Hd.cut] at c12)
                      rw [hlen] at c12
                      refine G_seq ?_
                      refine G_region ?_
                      refine GL_step rfl (PS_move rfl) ?_
                      refine GL_callLV rfl cf24 rfl (.cons rfl .nil) .nil (words_Parse_1_spec _) (fun v11 B hv => ?_)
                      obtain ⟨rfl, rfl⟩ := hv
                      refine GL_step rfl (PS_extract rfl rfl) ?_
                      refine GL_step rfl (PS_extract rfl rfl) ?_
                      refine GL_unit (PU_store (Lens.id Order.fl.len Order.fl.one) rfl rfl rfl sz23 rfl (.tail (.tail .head))) ?_
                      refine GL_step rfl (PS_assign rfl) ?_
                      refine GL_nil ?_
                      refine GQ_sub (.cons (k := 2) rfl (.cons (k := 3) rfl (.nil _))) ?_
                      refine GQ_then ?_
                      refine G_ret ?_
                      refine GQ_then_ret ?_
                      refine GQ_ret rfl (.cell rfl (.tail _ (.tail _ (.head _))) (.inl ⟨(by rw [Order.fl.len]; exact tya23), rfl⟩) (.tmp rfl .nil)) ?_
                      intro w1 hS; refine ⟨?_, hS.toKeep⟩; rw [show Words.parse s = _ from ((if_f c1).trans ((if_f c2).trans ((if_f c3).trans ((if_f c5).trans ((if_f c7).trans ((if_t c8).trans ((if_f c9).trans ((if_f c10).trans ((if_t c11).trans (if_t c12))))))))))]; rfl
                    · skip
                      have c12p := c12
                      try simp only [decide_eq_true_eq, decide_eq_false_iff_not, Bool.not_eq_true', Bool.not_eq_false', Bool.or_eq_true, Bool.and_eq_true, Bool.or_eq_false_iff, Bool.and_eq_false_iff, Int.not_lt, Int.not_le] at c12p
                      (try simp only [Hd.cut] at c12)
                      rw [hlen] at c12
                      refine G_skip ?_
                      refine GQ_sub (.cons (k := 2) rfl (.cons (k := 4) rfl (.cons (k := 5) rfl (.cons (k := 8) rfl (.cons (k := 14) rfl (.cons (k := 15) rfl (.nil _))))))) ?_
                      refine GQ_then ?_
                      refine G_seq ?_
                      refine G_block ?_
                      refine G_seq ?_
                      refine G_region ?_
                      refine GL_step rfl (PS_move rfl) ?_
                      refine GL_step rfl (PS_len_slice rfl Tryd.underlying28 rfl) ?_
                      refine GL_step rfl (PS_eql rfl rfl) ?_
                      refine GL_step rfl (PS_move rfl) ?_
                      refine GL_gt (t := 178) rfl rfl rfl (fun q => PS_move rfl) ?_
                      refine GL_gt (t := 178) rfl rfl rfl (fun q => PS_not (cvE rfl q)) ?_
                      refine GL_step rfl (PS_and rfl rfl (fun h => h)) ?_
                      refine GL_step rfl (PS_assign rfl) ?_
                      refine GL_nil ?_
                      refine GQ_sub (.cons (k := 2) rfl (.cons (k := 4) rfl (.cons (k := 5) rfl (.cons (k := 8) rfl (.cons (k := 14) rfl (.cons (k := 174) rfl (.nil _))))))) ?_
                      refine GQ_then ?_
                      refine G_cond rfl (fun c13 => ?_) (fun c13 => ?_)
                      · skip
                        have c13p := c13
                        try simp only [decide_eq_true_eq, decide_eq_false_iff_not, Bool.not_eq_true', Bool.not_eq_false', Bool.or_eq_true, Bool.and_eq_true, Bool.or_eq_false_iff, Bool.and_eq_false_iff, Int.not_lt, Int.not_le] at c13p
                        (try simp only [Hd.cut] at c13)
                        rw [hlen] at c13
                        refine G_seq ?_
                        refine G_region ?_
                        refine GL_step rfl (PS_loadA rfl tya23 (.head _) (Lens.id Order.fl.len Order.fl.one) rfl) ?_
                        refine GL_unit (PU_store (Lens.id Order.fl.len Order.fl.one) rfl rfl rfl sz23 rfl (.tail (.tail .head))) ?_
                        refine GL_step rfl (PS_assign rfl) ?_
                        refine GL_nil ?_
                        refine GQ_sub (.cons (k := 2) rfl (.cons (k := 3) rfl (.nil _))) ?_
                        refine GQ_then ?_
                        refine G_ret ?_
                        refine GQ_block_ret ?_
                        refine GQ_then_ret ?_
                        refine GQ_ret rfl (.cell rfl (.tail _ (.tail _ (.head _))) (.inl ⟨(by rw [Order.fl.len]; exact tya23), rfl⟩) (.tmp rfl .nil)) ?_
                        intro w1 hS; refine ⟨?_, hS.toKeep⟩; rw [show Words.parse s = _ from ((if_f c1).trans ((if_f c2).trans ((if_f c3).trans ((if_f c5).trans ((if_f c7).trans ((if_t c8).trans ((if_f c9).trans ((if_f c10).trans ((if_t c11).trans ((if_f c12).trans (if_t c13)))))))))))]; rfl
                      · skip
                        have c13p := c13
                        try simp only [decide_eq_true_eq, decide_eq_false_iff_not, Bool.not_eq_true', Bool.not_eq_false', Bool.or_eq_true, Bool.and_eq_true, Bool.or_eq_false_iff, Bool.and_eq_false_iff, Int.not_lt, Int.not_le] at c13p
                        (try simp only [Hd.cut] at c13)
                        rw [hlen] at c13
                        refine G_seq ?_
                        refine G_region ?_
                        refine GL_step rfl (PS_move rfl) ?_
                        refine GL_step rfl (PS_len_slice rfl Tryd.underlying28 rfl) ?_
                        refine GL_step rfl (PS_neq rfl rfl) ?_
                        refine GL_step rfl (PS_move rfl) ?_
                        refine GL_gf (t := 187) rfl rfl rfl (fun q => PS_move rfl) ?_
                        refine GL_gf (t := 187) rfl rfl rfl (fun q => PS_eql_str (cvE rfl (by rw [q]; rfl)) rfl) ?_
                        refine GL_step rfl (PS_or rfl rfl (fun h => by rw [h]; rfl)) ?_
                        refine GL_step rfl (PS_assign rfl) ?_
                        refine GL_nil ?_
                        refine GQ_sub (.cons (k := 2) rfl (.cons (k := 4) rfl (.cons (k := 5) rfl (.cons (k := 8) rfl (.cons (k := 183) rfl (.nil _)))))) ?_
                        refine GQ_then ?_
                        refine G_cond rfl (fun c14 => ?_) (fun c14 => ?_)
                        · skip
                          have c14p := c14
                          try simp only [decide_eq_true_eq, decide_eq_false_iff_not, Bool.not_eq_true', Bool.not_eq_false', Bool.or_eq_true, Bool.and_eq_true, Bool.or_eq_false_iff, Bool.and_eq_false_iff, Int.not_lt, Int.not_le] at c14p
                          (try simp only [Hd.cut] at c14)
                          rw [hlen] at c14
                          refine G_seq ?_
                          refine G_region ?_
                          refine GL_step rfl (PS_move rfl) ?_
                          refine GL_callLV rfl cf24 rfl (.cons rfl .nil) .nil (words_Parse_1_spec _) (fun v12 B hv => ?_)
                          obtain ⟨rfl, rfl⟩ := hv
                          refine GL_step rfl (PS_extract rfl rfl) ?_
                          refine GL_step rfl (PS_extract rfl rfl) ?_
                          refine GL_unit (PU_store (Lens.id Order.fl.len Order.fl.one) rfl rfl rfl sz23 rfl (.tail (.tail .head))) ?_
                          refine GL_step rfl (PS_assign rfl) ?_
                          refine GL_nil ?_
                          refine GQ_sub (.cons (k := 2) rfl (.cons (k := 3) rfl (.nil _))) ?_
                          refine GQ_then ?_
                          refine G_ret ?_
                          refine GQ_block_ret ?_
                          refine GQ_then_ret ?_
                          refine GQ_ret rfl (.cell rfl (.tail _ (.tail _ (.head _))) (.inl ⟨(by rw [Order.fl.len]; exact tya23), rfl⟩) (.tmp rfl .nil)) ?_
                          intro w1 hS; refine ⟨?_, hS.toKeep⟩; rw [show Words.parse s = _ from ((if_f c1).trans ((if_f c2).trans ((if_f c3).trans ((if_f c5).trans ((if_f c7).trans ((if_t c8).trans ((if_f c9).trans ((if_f c10).trans ((if_t c11).trans ((if_f c12).trans ((if_f c13).trans (if_t c14))))))))))))]; rfl
                        · skip
                          have c14p := c14
                          try simp only [decide_eq_true_eq, decide_eq_false_iff_not, Bool.not_eq_true', Bool.not_eq_false', Bool.or_eq_true, Bool.and_eq_true, Bool.or_eq_false_iff, Bool.and_eq_false_iff, Int.not_lt, Int.not_le] at c14p
                          (try simp only [Hd.cut] at c14)
                          rw [hlen] at c14
                          refine G_skip ?_
                          refine GQ_sub (.cons (k := 2) rfl (.cons (k := 5) rfl (.cons (k := 8) rfl (.nil _)))) ?_
                          refine GQ_block ?_
                          refine GQ_then ?_
                          refine G_seq ?_
                          refine G_region ?_
                          refine GL_step rfl (PS_move rfl) ?_
                          refine GL_step rfl (PS_idxS is28 (by decide) (Kn.own (.tail _ (.head _))) rfl rfl (by omega) (by first | omega | (simp only [Hd.cut] at *; omega) | (simp [Hd.cut] at q ⊢; omega))) ?_
                          refine GL_step rfl (PS_ldStr rfl tys9 (Kn.own (.tail _ (.head _))) (by first | omega | (simp only [List.length_drop, Hd.cut] at *; omega) | (simp [Hd.cut] at q ⊢; omega))) ?_
                          refine GL_step rfl (PS_fieldAddr fa23_4 rfl) ?_
                          refine GL_unit (PU_store Order.l4 rfl rfl rfl sz9 rfl .head) ?_
                          refine GL_nil ?_
                          refine GQ_sub (.cons (k := 2) rfl (.cons (k := 8) rfl (.nil _))) ?_
                          refine GQ_then ?_
                          refine G_seq ?_
                          refine G_region ?_
                          refine GL_step rfl (PS_loadA rfl tya23 (.head _) (Lens.id Order.fl.len Order.fl.one) rfl) ?_
                          refine GL_unit (PU_store (Lens.id Order.fl.len Order.fl.one) rfl rfl rfl sz23 rfl (.tail (.tail .head))) ?_
                          refine GL_step rfl (PS_assign rfl) ?_
                          refine GL_nil ?_
                          refine GQ_sub (.cons (k := 2) rfl (.cons (k := 3) rfl (.nil _))) ?_
                          refine GQ_then ?_
                          refine G_ret ?_
                          refine GQ_ret rfl (.cell rfl (.tail _ (.tail _ (.head _))) (.inl ⟨(by rw [Order.fl.len]; exact tya23), rfl⟩) (.tmp rfl .nil)) ?_
                          intro w1 hS; refine ⟨?_, hS.toKeep⟩; rw [show Words.parse s = _ from ((if_f c1).trans ((if_f c2).trans ((if_f c3).trans ((if_f c5).trans ((if_f c7).trans ((if_t c8).trans ((if_f c9).trans ((if_f c10).trans ((if_t c11).trans ((if_f c12).trans ((if_f c13).trans (if_f c14))))))))))))]; rfl
                  · skip
                    have c11p := c11
                    try simp only [decide_eq_true_eq, decide_eq_false_iff_not, Bool.not_eq_true', Bool.not_eq_false', Bool.or_eq_true, Bool.and_eq_true, Bool.or_eq_false_iff, Bool.and_eq_false_iff, Int.not_lt, Int.not_le] at c11p
                    (try simp only [Hd.cut] at c11)
                    rw [hlen] at c11
                    refine G_skip ?_
                    refine GQ_sub (.cons (k := 2) rfl (.cons (k := 4) rfl (.cons (k := 5) rfl (.cons (k := 8) rfl (.cons (k := 14) rfl (.cons (k := 15) rfl (.nil _))))))) ?_
                    refine GQ_then ?_
                    refine G_seq ?_
                    refine G_block ?_
                    refine G_seq ?_
                    refine G_region ?_
                    refine GL_step rfl (PS_move rfl) ?_
                    refine GL_step rfl (PS_len_slice rfl Tryd.underlying28 rfl) ?_
                    refine GL_step rfl (PS_eql rfl rfl) ?_
                    refine GL_step rfl (PS_move rfl) ?_
                    refine GL_gt (t := 178) rfl rfl rfl (fun q => PS_move rfl) ?_
                    refine GL_gt (t := 178) rfl rfl rfl (fun q => PS_not (cvE rfl q)) ?_
                    refine GL_step rfl (PS_and rfl rfl (fun h => h)) ?_
                    refine GL_step rfl (PS_assign rfl) ?_
                    refine GL_nil ?_
                    refine GQ_sub (.cons (k := 2) rfl (.cons (k := 4) rfl (.cons (k := 5) rfl (.cons (k := 8) rfl (.cons (k := 14) rfl (.cons (k := 174) rfl (.nil _))))))) ?_
                    refine GQ_then ?_
                    refine G_cond rfl (fun c15 => ?_) (fun c15 => ?_)
                    · skip
                      have c15p := c15
                      try simp only [decide_eq_true_eq, decide_eq_false_iff_not, Bool.not_eq_true', Bool.not_eq_false', Bool.or_eq_true, Bool.and_eq_true, Bool.or_eq_false_iff, Bool.and_eq_false_iff, Int.not_lt, Int.not_le] at c15p
                      (try simp only [Hd.cut] at c15)
                      rw [hlen] at c15
                      refine G_seq ?_
                      refine G_region ?_
                      refine GL_step rfl (PS_loadA rfl tya23 (.head _) (Lens.id Order.fl.len Order.fl.one) rfl) ?_
                      refine GL_unit (PU_store (Lens.id Order.fl.len Order.fl.one) rfl rfl rfl sz23 rfl (.tail (.tail .head))) ?_
                      refine GL_step rfl (PS_assign rfl) ?_
                      refine GL_nil ?_
                      refine GQ_sub (.cons (k := 2) rfl (.cons (k := 3) rfl (.nil _))) ?_
                      refine GQ_then ?_
                      refine G_ret ?_
                      refine GQ_block_ret ?_
                      refine GQ_then_ret ?_
                      refine GQ_ret rfl (.cell rfl (.tail _ (.tail _ (.head _))) (.inl ⟨(by rw [Order.fl.len]; exact tya23), rfl⟩) (.tmp rfl .nil)) ?_
                      intro w1 hS; refine ⟨?_, hS.toKeep⟩; rw [show Words.parse s = _ from ((if_f c1).trans ((if_f c2).trans ((if_f c3).trans ((if_f c5).trans ((if_f c7).trans ((if_t c8).trans ((if_f c9).trans ((if_f c10).trans ((if_f c11).trans (if_t c15))))))))))]; rfl
                    · skip
                      have c15p := c15
                      try simp only [decide_eq_true_eq, decide_eq_false_iff_not, Bool.not_eq_true', Bool.not_eq_false', Bool.or_eq_true, Bool.and_eq_true, Bool.or_eq_false_iff, Bool.and_eq_false_iff, Int.not_lt, Int.not_le] at c15p
                      (try simp only [Hd.cut] at c15)
                      rw [hlen] at c15
                      refine G_seq ?_
                      refine G_region ?_
                      refine GL_step rfl (PS_move rfl) ?_
                      refine GL_step rfl (PS_len_slice rfl Tryd.underlying28 rfl) ?_
                      refine GL_step rfl (PS_neq rfl rfl) ?_
                      refine GL_step rfl (PS_move rfl) ?_
                      refine GL_gf (t := 187) rfl rfl rfl (fun q => PS_move rfl) ?_
                      refine GL_gf (t := 187) rfl rfl rfl (fun q => PS_eql_str (cvE rfl (by rw [q]; rfl)) rfl) ?_
                      refine GL_step rfl (PS_or rfl rfl (fun h => by rw [h]; rfl)) ?_
                      refine GL_step rfl (PS_assign rfl) ?_
                      refine GL_nil ?_
                      refine GQ_sub (.cons (k := 2) rfl (.cons (k := 4) rfl (.cons (k := 5) rfl (.cons (k := 8) rfl (.cons (k := 183) rfl (.nil _)))))) ?_
                      refine GQ_then ?_
                      refine G_cond rfl (fun c16 => ?_) (fun c16 => ?_)
                      · skip
                        have c16p := c16
                        try simp only [decide_eq_true_eq, decide_eq_false_iff_not, Bool.not_eq_true', Bool.not_eq_false', Bool.or_eq_true, Bool.and_eq_true, Bool.or_eq_false_iff, Bool.and_eq_false_iff, Int.not_lt, Int.not_le] at c16p
                        (try simp only [Hd.cut] at c16)
                        rw [hlen] at c16
                        refine G_seq ?_
                        refine G_region ?_
                        refine GL_step rfl (PS_move rfl) ?_
                        refine GL_callLV rfl cf24 rfl (.cons rfl .nil) .nil (words_Parse_1_spec _) (fun v13 B hv => ?_)
                        obtain ⟨rfl, rfl⟩ := hv
                        refine GL_step rfl (PS_extract rfl rfl) ?_
                        refine GL_step rfl (PS_extract rfl rfl) ?_
                        refine GL_unit (PU_store (Lens.id Order.fl.len Order.fl.one) rfl rfl rfl sz23 rfl (.tail (.tail .head))) ?_
                        refine GL_step rfl (PS_assign rfl) ?_
                        refine GL_nil ?_
                        refine GQ_sub (.cons (k := 2) rfl (.cons (k := 3) rfl (.nil _))) ?_
                        refine GQ_then ?_
                        refine G_ret ?_
                        refine GQ_block_ret ?_
                        refine GQ_then_ret ?_
                        refine GQ_ret rfl (.cell rfl (.tail _ (.tail _ (.head _))) (.inl ⟨(by rw [Order.fl.len]; exact tya23), rfl⟩) (.tmp rfl .nil)) ?_
                        intro w1 hS; refine ⟨?_, hS.toKeep⟩; rw [show Words.parse s = _ from ((if_f c1).trans ((if_f c2).trans ((if_f c3).trans ((if_f c5).trans ((if_f c7).trans ((if_t c8).trans ((if_f c9).trans ((if_f c10).trans ((if_f c11).trans ((if_f c15).trans (if_t c16)))))))))))]; rfl
                      · skip
                        have c16p := c16
                        try simp only [decide_eq_true_eq, decide_eq_false_iff_not, Bool.not_eq_true', Bool.not_eq_false', Bool.or_eq_true, Bool.and_eq_true, Bool.or_eq_false_iff, Bool.and_eq_false_iff, Int.not_lt, Int.not_le] at c16p
                        (try simp only [Hd.cut] at c16)
                        rw [hlen] at c16
                        refine G_skip ?_
                        refine GQ_sub (.cons (k := 2) rfl (.cons (k := 5) rfl (.cons (k := 8) rfl (.nil _)))) ?_
                        refine GQ_block ?_
                        refine GQ_then ?_
                        refine G_seq ?_
                        refine G_region ?_
                        refine GL_step rfl (PS_move rfl) ?_
                        refine GL_step rfl (PS_idxS is28 (by decide) (Kn.own (.tail _ (.head _))) rfl rfl (by omega) (by first | omega | (simp only [Hd.cut] at *; omega) | (simp [Hd.cut] at q ⊢; omega))) ?_
                        refine GL_step rfl (PS_ldStr rfl tys9 (Kn.own (.tail _ (.head _))) (by first | omega | (simp only [List.length_drop, Hd.cut] at *; omega) | (simp [Hd.cut] at q ⊢; omega))) ?_
                        refine GL_step rfl (PS_fieldAddr fa23_4 rfl) ?_
                        refine GL_unit (PU_store Order.l4 rfl rfl rfl sz9 rfl .head) ?_
                        refine GL_nil ?_
                        refine GQ_sub (.cons (k := 2) rfl (.cons (k := 8) rfl (.nil _))) ?_
                        refine GQ_then ?_
                        refine G_seq ?_
                        refine G_region ?_
                        refine GL_step rfl (PS_loadA rfl tya23 (.head _) (Lens.id Order.fl.len Order.fl.one) rfl) ?_
                        refine GL_unit (PU_store (Lens.id Order.fl.len Order.fl.one) rfl rfl rfl sz23 rfl (.tail (.tail .head))) ?_
                        refine GL_step rfl (PS_assign rfl) ?_
                        refine GL_nil ?_
                        refine GQ_sub (.cons (k := 2) rfl (.cons (k := 3) rfl (.nil _))) ?_
                        refine GQ_then ?_
                        refine G_ret ?_
                        refine GQ_ret rfl (.cell rfl (.tail _ (.tail _ (.head _))) (.inl ⟨(by rw [Order.fl.len]; exact tya23), rfl⟩) (.tmp rfl .nil)) ?_
                        intro w1 hS; refine ⟨?_, hS.toKeep⟩; rw [show Words.parse s = _ from ((if_f c1).trans ((if_f c2).trans ((if_f c3).trans ((if_f c5).trans ((if_f c7).trans ((if_t c8).trans ((if_f c9).trans ((if_f c10).trans ((if_f c11).trans ((if_f c15).trans (if_f c16)))))))))))]; rfl
            · skip
              have c8p := c8
              try simp only [decide_eq_true_eq, decide_eq_false_iff_not, Bool.not_eq_true', Bool.not_eq_false', Bool.or_eq_true, Bool.and_eq_true, Bool.or_eq_false_iff, Bool.and_eq_false_iff, Int.not_lt, Int.not_le] at c8p
              refine G_skip ?_
              refine GQ_sub (.cons (k := 2) rfl (.cons (k := 4) rfl (.cons (k := 5) rfl (.cons (k := 6) rfl (.cons (k := 8) rfl (.nil _)))))) ?_
              refine GQ_then ?_
              refine G_seq ?_
              refine G_seq ?_
              refine G_region ?_
              refine GL_step rfl (PS_move rfl) ?_
              refine GL_step rfl (PS_idxS is28 (by decide) (Kn.own (.tail _ (.head _))) rfl rfl (by omega) (by first | omega | (simp only [Hd.cut] at *; omega) | (simp [Hd.cut] at q ⊢; omega))) ?_
              refine GL_step rfl (PS_ldStr rfl tys9 (Kn.own (.tail _ (.head _))) (by first | omega | (simp only [List.length_drop, Hd.cut] at *; omega) | (simp [Hd.cut] at q ⊢; omega))) ?_
              refine GL_pure rfl cf18 (.cons rfl .nil) (fun w hS => words_Noun_spec _ (by have := Words.words_le1 s 0 1; exact Nat.le_trans this (by omega)) w (gl1.st hS) (gl2.st hS)) ?_
              refine GL_step rfl (PS_move rfl) ?_
              refine GL_step rfl (PS_extract rfl rfl) ?_
              refine GL_step rfl (PS_extract rfl rfl) ?_
              refine GL_step rfl (PS_extract rfl rfl) ?_
              refine GL_step rfl (PS_extract rfl rfl) ?_
              refine GL_step rfl (PS_fieldAddr fa23_1 rfl) ?_
              refine GL_unit (PU_store Order.l1 rfl rfl rfl sz3 rfl .head) ?_
              refine GL_step rfl (PS_fieldAddr fa23_3 rfl) ?_
              refine GL_unit (PU_store Order.l3 rfl rfl rfl sz9 rfl .head) ?_
              refine GL_step rfl (PS_fieldAddr fa23_2 rfl) ?_
              refine GL_unit (PU_store Order.l2 rfl rfl rfl sz4 rfl .head) ?_
              refine GL_step rfl (PS_assign rfl) ?_
              refine GL_nil ?_
              refine GQ_sub (.cons (k := 2) rfl (.cons (k := 4) rfl (.cons (k := 5) rfl (.cons (k := 6) rfl (.cons (k := 7) rfl (.cons (k := 8) rfl (.nil _))))))) ?_
              refine GQ_then ?_
              refine G_seq ?_
              refine G_region ?_
              refine GL_step rfl (PS_move rfl) ?_
              refine GL_step rfl (PS_neq rfl rfl) ?_
              refine GL_step rfl (PS_move rfl) ?_
              refine GL_gf (t := 131) rfl rfl rfl (fun q => PS_fieldAddr fa23_2 rfl) ?_
              refine GL_gf (t := 131) rfl rfl rfl (fun q => PS_load (cvE rfl (by rw [q]; rfl)) tys4 (.head _) Order.l2 rfl rfl) ?_
              refine GL_gf (t := 131) rfl rfl rfl (fun q => PS_move (cvE rfl (by rw [q]; rfl))) ?_
              refine GL_gtc (t := 134) rfl rfl rfl (fun qc q => PS_move rfl) ?_
              refine GL_pgtc (t := 134) rfl rfl rfl (fun qc q => by have q1 := q; have qc1 := qc; (try simp at q1 qc1); exact PC_of cf28 (.cons (cvE rfl (by rw [qc, q]; rfl)) .nil) (fun w hS => words_many_spec _ w)) ?_
              refine GL_gtc (t := 134) rfl rfl rfl (fun qc q => PS_not (cvE rfl (by rw [qc, q]; rfl))) ?_
              refine GL_gf (t := 131) rfl rfl rfl (fun q => PS_and (cvE rfl (by rw [q]; rfl)) rfl (fun h => by rw [q, h]; rfl)) ?_
              refine GL_step rfl (PS_or rfl rfl (fun h => by rw [h]; rfl)) ?_
              refine GL_nil ?_
              refine GQ_sub (.cons (k := 2) rfl (.cons (k := 4) rfl (.cons (k := 5) rfl (.cons (k := 6) rfl (.cons (k := 8) rfl (.cons (k := 139) rfl (.nil _))))))) ?_
              refine GQ_then ?_
              refine G_cond rfl (fun c17 => ?_) (fun c17 => ?_)
              · skip
                have c17p := c17
                try simp only [decide_eq_true_eq, decide_eq_false_iff_not, Bool.not_eq_true', Bool.not_eq_false', Bool.or_eq_true, Bool.and_eq_true, Bool.or_eq_false_iff, Bool.and_eq_false_iff, Int.not_lt, Int.not_le] at c17p
                refine G_seq ?_
                refine G_region ?_
                refine GL_step rfl (PS_move rfl) ?_
                refine GL_callLV rfl cf24 rfl (.cons rfl .nil) .nil (words_Parse_1_spec _) (fun v14 B hv => ?_)
                obtain ⟨rfl, rfl⟩ := hv
                refine GL_step rfl (PS_extract rfl rfl) ?_
                refine GL_step rfl (PS_extract rfl rfl) ?_
                refine GL_unit (PU_store (Lens.id Order.fl.len Order.fl.one) rfl rfl rfl sz23 rfl (.tail (.tail .head))) ?_
                refine GL_step rfl (PS_assign rfl) ?_
                refine GL_nil ?_
                refine GQ_sub (.cons (k := 2) rfl (.cons (k := 3) rfl (.nil _))) ?_
                refine GQ_then ?_
                refine G_ret ?_
                refine GQ_then_ret ?_
                refine GQ_ret rfl (.cell rfl (.tail _ (.tail _ (.head _))) (.inl ⟨(by rw [Order.fl.len]; exact tya23), rfl⟩) (.tmp rfl .nil)) ?_
                intro w1 hS; refine ⟨?_, hS.toKeep⟩; rw [show Words.parse s = _ from ((if_f c1).trans ((if_f c2).trans ((if_f c3).trans ((if_f c5).trans ((if_f c7).trans ((if_f c8).trans (if_t c17)))))))]; rfl
              · skip
                have c17p := c17
                try simp only [decide_eq_true_eq, decide_eq_false_iff_not, Bool.not_eq_true', Bool.not_eq_false', Bool.or_eq_true, Bool.and_eq_true, Bool.or_eq_false_iff, Bool.and_eq_false_iff, Int.not_lt, Int.not_le] at c17p
                refine G_skip ?_
                refine GQ_sub (.cons (k := 2) rfl (.cons (k := 4) rfl (.cons (k := 5) rfl (.cons (k := 6) rfl (.cons (k := 8) rfl (.nil _)))))) ?_
                refine GQ_then ?_
                refine G_seq ?_
                refine G_region ?_
                refine GL_step rfl (PS_move rfl) ?_
                refine GL_pure rfl cf29 (.cons rfl .nil) (fun w hS => words_joins_spec _ w) ?_
                refine GL_step rfl (PS_move rfl) ?_
                refine GL_step rfl (PS_extract rfl rfl) ?_
                refine GL_step rfl (PS_extract rfl rfl) ?_
                refine GL_step rfl (PS_assign rfl) ?_
                refine GL_step rfl (PS_assign rfl) ?_
                refine GL_nil ?_
                refine GQ_sub (.cons (k := 2) rfl (.cons (k := 4) rfl (.cons (k := 5) rfl (.cons (k := 8) rfl (.cons (k := 14) rfl (.cons (k := 15) rfl (.nil _))))))) ?_
                refine GQ_then ?_
                refine G_seq ?_
                refine G_region ?_
                refine GL_step rfl (PS_move rfl) ?_
                refine GL_cutFromF flS rfl Tryd.underlying28 sz9 rfl rfl (by decide) (by first | omega | (simp only [Hd.cut]; omega) | (simp only [Hd.cut] at *; omega)) (fun _ => (.tail .head)) ?_
                refine GL_step rfl (PS_assign rfl) ?_
                refine GL_nil ?_
                refine GQ_sub (.cons (k := 2) rfl (.cons (k := 4) rfl (.cons (k := 5) rfl (.cons (k := 8) rfl (.cons (k := 14) rfl (.cons (k := 15) rfl (.nil _))))))) ?_
                refine GQ_then ?_
                refine G_seq ?_
                refine G_seq ?_
                refine G_region ?_
                refine GL_step rfl (PS_move rfl) ?_
                refine GL_step rfl (PS_len_slice rfl Tryd.underlying28 rfl) ?_
                refine GL_step rfl (PS_gtr rfl rfl) ?_
                refine GL_step rfl (PS_move rfl) ?_
                refine GL_gt (t := 154) rfl rfl rfl (fun q => PS_move rfl) ?_
                refine GL_gt (t := 154) rfl rfl rfl (fun q => PS_neq_str (cvE rfl q) rfl) ?_
                refine GL_step rfl (PS_and rfl rfl (fun h => h)) ?_
                refine GL_step rfl (PS_move rfl) ?_
                refine GL_gt (t := 158) rfl rfl rfl (fun q => PS_move rfl) ?_
                refine GL_gt (t := 158) rfl rfl rfl (fun q => by have q1 := q; (try simp at q1); exact PS_idxS is28 (by decide) (Kn.own (.tail _ (.head _))) (cvE rfl q) rfl (by omega) (by first | omega | (simp only [Hd.cut] at *; omega) | (simp [Hd.cut] at q ⊢; omega))) ?_
                refine GL_gt (t := 158) rfl rfl rfl (fun q => by have q1 := q; (try simp at q1); exact PS_ldStr (cvE rfl q) tys9 (Kn.own (.tail _ (.head _))) (by first | omega | (simp only [List.length_drop, Hd.cut] at *; omega) | (simp [Hd.cut] at q ⊢; omega))) ?_
                refine GL_gt (t := 158) rfl rfl rfl (fun q => PS_move rfl) ?_
                refine GL_gt (t := 158) rfl rfl rfl (fun q => PS_eql_str (cvE rfl q) (cvE rfl q)) ?_
                refine GL_step rfl (PS_and rfl rfl (fun h => h)) ?_
                refine GL_nil ?_
                refine GQ_sub (.cons (k := 2) rfl (.cons (k := 4) rfl (.cons (k := 5) rfl (.cons (k := 8) rfl (.cons (k := 14) rfl (.cons (k := 15) rfl (.cons (k := 164) rfl (.nil _)))))))) ?_
                refine GQ_then ?_
                refine G_cond rfl (fun c18 => ?_) (fun c18 => ?_)
                · skip
                  have c18p := c18
                  try simp only [decide_eq_true_eq, decide_eq_false_iff_not, Bool.not_eq_true', Bool.not_eq_false', Bool.or_eq_true, Bool.and_eq_true, Bool.or_eq_false_iff, Bool.and_eq_false_iff, Int.not_lt, Int.not_le] at c18p
                  (try simp only [Hd.cut] at c18)
                  rw [hlen] at c18
                  refine G_seq ?_
                  refine G_region ?_
                  refine GL_step rfl (PS_move rfl) ?_
                  refine GL_cutFromF flS rfl Tryd.underlying28 sz9 rfl rfl (by decide) (by first | omega | (simp only [Hd.cut]; omega) | (simp only [Hd.cut] at *; omega)) (fun _ => (.tail .head)) ?_
                  refine GL_step rfl (PS_assign rfl) ?_
                  refine GL_nil ?_
                  refine GQ_sub (.cons (k := 2) rfl (.cons (k := 4) rfl (.cons (k := 5) rfl (.cons (k := 8) rfl (.cons (k := 14) rfl (.cons (k := 15) rfl (.nil _))))))) ?_
                  refine GQ_then ?_
                  refine G_seq ?_
                  refine G_region ?_
                  refine GL_step rfl (PS_move rfl) ?_
                  refine GL_step rfl (PS_len_slice rfl Tryd.underlying28 rfl) ?_
                  refine GL_step rfl (PS_eql rfl rfl) ?_
                  refine GL_nil ?_
                  refine GQ_sub (.cons (k := 2) rfl (.cons (k := 4) rfl (.cons (k := 5) rfl (.cons (k := 8) rfl (.cons (k := 14) rfl (.cons (k := 15) rfl (.cons (k := 169) rfl (.nil _)))))))) ?_
                  refine GQ_then ?_
                  refine G_cond rfl (fun c19 => ?_) (fun c19 => ?_)
                  · skip
                    have c19p := c19
                    try simp only [decide_eq_true_eq, decide_eq_false_iff_not, Bool.not_eq_true', Bool.not_eq_false', Bool.or_eq_true, Bool.and_eq_true, Bool.or_eq_false_iff, Bool.and_eq_false_iff, Int.not_lt, Int.not_le] at c19p
                    (try simp only [Hd.cut] at c19)
                    rw [hlen] at c19
                    refine G_seq ?_
                    refine G_region ?_
                    refine GL_step rfl (PS_move rfl) ?_
                    refine GL_callLV rfl cf24 rfl (.cons rfl .nil) .nil (words_Parse_1_spec _) (fun v15 B hv => ?_)
                    obtain ⟨rfl, rfl⟩ := hv
                    refine GL_step rfl (PS_extract rfl rfl) ?_
                    refine GL_step rfl (PS_extract rfl rfl) ?_
                    refine GL_unit (PU_store (Lens.id Order.fl.len Order.fl.one) rfl rfl rfl sz23 rfl (.tail (.tail .head))) ?_
                    refine GL_step rfl (PS_assign rfl) ?_
                    refine GL_nil ?_
                    refine GQ_sub (.cons (k := 2) rfl (.cons (k := 3) rfl (.nil _))) ?_
                    refine GQ_then ?_
                    refine G_ret ?_
                    refine GQ_then_ret ?_
                    refine GQ_ret rfl (.cell rfl (.tail _ (.tail _ (.head _))) (.inl ⟨(by rw [Order.fl.len]; exact tya23), rfl⟩) (.tmp rfl .nil)) ?_
                    intro w1 hS; refine ⟨?_, hS.toKeep⟩; rw [show Words.parse s = _ from ((if_f c1).trans ((if_f c2).trans ((if_f c3).trans ((if_f c5).trans ((if_f c7).trans ((if_f c8).trans ((if_f c17).trans ((if_t c18).trans (if_t c19)))))))))]; rfl
                  · skip
                    have c19p := c19
                    try simp only [decide_eq_true_eq, decide_eq_false_iff_not, Bool.not_eq_true', Bool.not_eq_false', Bool.or_eq_true, Bool.and_eq_true, Bool.or_eq_false_iff, Bool.and_eq_false_iff, Int.not_lt, Int.not_le] at c19p
                    (try simp only [Hd.cut] at c19)
                    rw [hlen] at c19
                    refine G_skip ?_
                    refine GQ_sub (.cons (k := 2) rfl (.cons (k := 4) rfl (.cons (k := 5) rfl (.cons (k := 8) rfl (.cons (k := 14) rfl (.cons (k := 15) rfl (.nil _))))))) ?_
                    refine GQ_then ?_
                    refine G_seq ?_
                    refine G_block ?_
                    refine G_seq ?_
                    refine G_region ?_
                    refine GL_step rfl (PS_move rfl) ?_
                    refine GL_step rfl (PS_len_slice rfl Tryd.underlying28 rfl) ?_
                    refine GL_step rfl (PS_eql rfl rfl) ?_
                    refine GL_step rfl (PS_move rfl) ?_
                    refine GL_gt (t := 178) rfl rfl rfl (fun q => PS_move rfl) ?_
                    refine GL_gt (t := 178) rfl rfl rfl (fun q => PS_not (cvE rfl q)) ?_
                    refine GL_step rfl (PS_and rfl rfl (fun h => h)) ?_
                    refine GL_step rfl (PS_assign rfl) ?_
                    refine GL_nil ?_
                    refine GQ_sub (.cons (k := 2) rfl (.cons (k := 4) rfl (.cons (k := 5) rfl (.cons (k := 8) rfl (.cons (k := 14) rfl (.cons (k := 174) rfl (.nil _))))))) ?_
                    refine GQ_then ?_
                    refine G_cond rfl (fun c20 => ?_) (fun c20 => ?_)
                    · skip
                      have c20p := c20
                      try simp only [decide_eq_true_eq, decide_eq_false_iff_not, Bool.not_eq_true', Bool.not_eq_false', Bool.or_eq_true, Bool.and_eq_true, Bool.or_eq_false_iff, Bool.and_eq_false_iff, Int.not_lt, Int.not_le] at c20p
                      (try simp only [Hd.cut] at c20)
                      rw [hlen] at c20
                      refine G_seq ?_
                      refine G_region ?_
                      refine GL_step rfl (PS_loadA rfl tya23 (.head _) (Lens.id Order.fl.len Order.fl.one) rfl) ?_
                      refine GL_unit (PU_store (Lens.id Order.fl.len Order.fl.one) rfl rfl rfl sz23 rfl (.tail (.tail .head))) ?_
                      refine GL_step rfl (PS_assign rfl) ?_
                      refine GL_nil ?_
                      refine GQ_sub (.cons (k := 2) rfl (.cons (k := 3) rfl (.nil _))) ?_
                      refine GQ_then ?_
                      refine G_ret ?_
                      refine GQ_block_ret ?_
                      refine GQ_then_ret ?_
                      refine GQ_ret rfl (.cell rfl (.tail _ (.tail _ (.head _))) (.inl ⟨(by rw [Order.fl.len]; exact tya23), rfl⟩) (.tmp rfl .nil)) ?_
                      intro w1 hS; refine ⟨?_, hS.toKeep⟩; rw [show Words.parse s = _ from ((if_f c1).trans ((if_f c2).trans ((if_f c3).trans ((if_f c5).trans ((if_f c7).trans ((if_f c8).trans ((if_f c17).trans ((if_t c18).trans ((if_f c19).trans (if_t c20))))))))))]; rfl
                    · skip
                      have c20p := c20
                      try simp only [decide_eq_true_eq, decide_eq_false_iff_not, Bool.not_eq_true', Bool.not_eq_false', Bool.or_eq_true, Bool.and_eq_true, Bool.or_eq_false_iff, Bool.and_eq_false_iff, Int.not_lt, Int.not_le] at c20p
                      (try simp only [Hd.cut] at c20)
                      rw [hlen] at c20
                      refine G_seq ?_
                      refine G_region ?_
                      refine GL_step rfl (PS_move rfl) ?_
                      refine GL_step rfl (PS_len_slice rfl Tryd.underlying28 rfl) ?_
                      refine GL_step rfl (PS_neq rfl rfl) ?_
                      refine GL_step rfl (PS_move rfl) ?_
                      refine GL_gf (t := 187) rfl rfl rfl (fun q => PS_move rfl) ?_
                      refine GL_gf (t := 187) rfl rfl rfl (fun q => PS_eql_str (cvE rfl (by rw [q]; rfl)) rfl) ?_
                      refine GL_step rfl (PS_or rfl rfl (fun h => by rw [h]; rfl)) ?_
                      refine GL_step rfl (PS_assign rfl) ?_
                      refine GL_nil ?_
                      refine GQ_sub (.cons (k := 2) rfl (.cons (k := 4) rfl (.cons (k := 5) rfl (.cons (k := 8) rfl (.cons (k := 183) rfl (.nil _)))))) ?_
                      refine GQ_then ?_
                      refine G_cond rfl (fun c21 => ?_) (fun c21 => ?_)
                      · skip
                        have c21p := c21
                        try simp only [decide_eq_true_eq, decide_eq_false_iff_not, Bool.not_eq_true', Bool.not_eq_false', Bool.or_eq_true, Bool.and_eq_true, Bool.or_eq_false_iff, Bool.and_eq_false_iff, Int.not_lt, Int.not_le] at c21p
                        (try simp only [Hd.cut] at c21)
                        rw [hlen] at c21
                        refine G_seq ?_
                        refine G_region ?_
                        refine GL_step rfl (PS_move rfl) ?_
                        refine GL_callLV rfl cf24 rfl (.cons rfl .nil) .nil (words_Parse_1_spec _) (fun v16 B hv => ?_)
                        obtain ⟨rfl, rfl⟩ := hv
                        refine GL_step rfl (PS_extract rfl rfl) ?_
                        refine GL_step rfl (PS_extract rfl rfl) ?_
                        refine GL_unit (PU_store (Lens.id Order.fl.len Order.fl.one) rfl rfl rfl sz23 rfl (.tail (.tail .head))) ?_
                        refine GL_step rfl (PS_assign rfl) ?_
                        refine GL_nil ?_
                        refine GQ_sub (.cons (k := 2) rfl (.cons (k := 3) rfl (.nil _))) ?_
                        refine GQ_then ?_
                        refine G_ret ?_
                        refine GQ_block_ret ?_
                        refine GQ_then_ret ?_
                        refine GQ_ret rfl (.cell rfl (.tail _ (.tail _ (.head _))) (.inl ⟨(by rw [Order.fl.len]; exact tya23), rfl⟩) (.tmp rfl .nil)) ?_
                        intro w1 hS; refine ⟨?_, hS.toKeep⟩; rw [show Words.parse s = _ from ((if_f c1).trans ((if_f c2).trans ((if_f c3).trans ((if_f c5).trans ((if_f c7).trans ((if_f c8).trans ((if_f c17).trans ((if_t c18).trans ((if_f c19).trans ((if_f c20).trans (if_t c21)))))))))))]; rfl
                      · skip
                        have c21p := c21
                        try simp only [decide_eq_true_eq, decide_eq_false_iff_not, Bool.not_eq_true', Bool.not_eq_false', Bool.or_eq_true, Bool.and_eq_true, Bool.or_eq_false_iff, Bool.and_eq_false_iff, Int.not_lt, Int.not_le] at c21p
                        (try simp only [Hd.cut] at c21)
                        rw [hlen] at c21
                        refine G_skip ?_
                        refine GQ_sub (.cons (k := 2) rfl (.cons (k := 5) rfl (.cons (k := 8) rfl (.nil _)))) ?_
                        refine GQ_block ?_
                        refine GQ_then ?_
                        refine G_seq ?_
                        refine G_region ?_
                        refine GL_step rfl (PS_move rfl) ?_
                        refine GL_step rfl (PS_idxS is28 (by decide) (Kn.own (.tail _ (.head _))) rfl rfl (by omega) (by first | omega | (simp only [Hd.cut] at *; omega) | (simp [Hd.cut] at q ⊢; omega))) ?_
                        refine GL_step rfl (PS_ldStr rfl tys9 (Kn.own (.tail _ (.head _))) (by first | omega | (simp only [List.length_drop, Hd.cut] at *; omega) | (simp [Hd.cut] at q ⊢; omega))) ?_
                        refine GL_step rfl (PS_fieldAddr fa23_4 rfl) ?_
                        refine GL_unit (PU_store Order.l4 rfl rfl rfl sz9 rfl .head) ?_
                        refine GL_nil ?_
                        refine GQ_sub (.cons (k := 2) rfl (.cons (k := 8) rfl (.nil _))) ?_
                        refine GQ_then ?_
                        refine G_seq ?_
                        refine G_region ?_
                        refine GL_step rfl (PS_loadA rfl tya23 (.head _) (Lens.id Order.fl.len Order.fl.one) rfl) ?_
                        refine GL_unit (PU_store (Lens.id Order.fl.len Order.fl.one) rfl rfl rfl sz23 rfl (.tail (.tail .head))) ?_
                        refine GL_step rfl (PS_assign rfl) ?_
                        refine GL_nil ?_
                        refine GQ_sub (.cons (k := 2) rfl (.cons (k := 3) rfl (.nil _))) ?_
                        refine GQ_then ?_
                        refine G_ret ?_
                        refine GQ_ret rfl (.cell rfl (.tail _ (.tail _ (.head _))) (.inl ⟨(by rw [Order.fl.len]; exact tya23), rfl⟩) (.tmp rfl .nil)) ?_
                        intro w1 hS; refine ⟨?_, hS.toKeep⟩; rw [show Words.parse s = _ from ((if_f c1).trans ((if_f c2).trans ((if_f c3).trans ((if_f c5).trans ((if_f c7).trans ((if_f c8).trans ((if_f c17).trans ((if_t c18).trans ((if_f c19).trans ((if_f c20).trans (if_f c21)))))))))))]; rfl
                · skip
                  have c18p := c18
                  try simp only [decide_eq_true_eq, decide_eq_false_iff_not, Bool.not_eq_true', Bool.not_eq_false', Bool.or_eq_true, Bool.and_eq_true, Bool.or_eq_false_iff, Bool.and_eq_false_iff, Int.not_lt, Int.not_le] at c18p
                  (try simp only [Hd.cut] at c18)
                  rw [hlen] at c18
                  refine G_skip ?_
                  refine GQ_sub (.cons (k := 2) rfl (.cons (k := 4) rfl (.cons (k := 5) rfl (.cons (k := 8) rfl (.cons (k := 14) rfl (.cons (k := 15) rfl (.nil _))))))) ?_
                  refine GQ_then ?_
                  refine G_seq ?_
                  refine G_block ?_
                  refine G_seq ?_
                  refine G_region ?_
                  refine GL_step rfl (PS_move rfl) ?_
                  refine GL_step rfl (PS_len_slice rfl Tryd.underlying28 rfl) ?_
                  refine GL_step rfl (PS_eql rfl rfl) ?_
                  refine GL_step rfl (PS_move rfl) ?_
                  refine GL_gt (t := 178) rfl rfl rfl (fun q => PS_move rfl) ?_
                  refine GL_gt (t := 178) rfl rfl rfl (fun q => PS_not (cvE rfl q)) ?_
                  refine GL_step rfl (PS_and rfl rfl (fun h => h)) ?_
                  refine GL_step rfl (PS_assign rfl) ?_
                  refine GL_nil ?_
                  refine GQ_sub (.cons (k := 2) rfl (.cons (k := 4) rfl (.cons (k := 5) rfl (.cons (k := 8) rfl (.cons (k := 14) rfl (.cons (k := 174) rfl (.nil _))))))) ?_
                  refine GQ_then ?_
                  refine G_cond rfl (fun c22 => ?_) (fun c22 => ?_)
                  · skip
                    have c22p := c22
                    try simp only [decide_eq_true_eq, decide_eq_false_iff_not, Bool.not_eq_true', Bool.not_eq_false', Bool.or_eq_true, Bool.and_eq_true, Bool.or_eq_false_iff, Bool.and_eq_false_iff, Int.not_lt, Int.not_le] at c22p
                    (try simp only [Hd.cut] at c22)
                    rw [hlen] at c22
                    refine G_seq ?_
                    refine G_region ?_
                    refine GL_step rfl (PS_loadA rfl tya23 (.head _) (Lens.id Order.fl.len Order.fl.one) rfl) ?_
                    refine GL_unit (PU_store (Lens.id Order.fl.len Order.fl.one) rfl rfl rfl sz23 rfl (.tail (.tail .head))) ?_
                    refine GL_step rfl (PS_assign rfl) ?_
                    refine GL_nil ?_
                    refine GQ_sub (.cons (k := 2) rfl (.cons (k := 3) rfl (.nil _))) ?_
                    refine GQ_then ?_
                    refine G_ret ?_
                    refine GQ_block_ret ?_
                    refine GQ_then_ret ?_
                    refine GQ_ret rfl (.cell rfl (.tail _ (.tail _ (.head _))) (.inl ⟨(by rw [Order.fl.len]; exact tya23), rfl⟩) (.tmp rfl .nil)) ?_
                    intro w1 hS; refine ⟨?_, hS.toKeep⟩; rw [show Words.parse s = _ from ((if_f c1).trans ((if_f c2).trans ((if_f c3).trans ((if_f c5).trans ((if_f c7).trans ((if_f c8).trans ((if_f c17).trans ((if_f c18).trans (if_t c22)))))))))]; rfl
                  · skip
                    have c22p := c22
                    try simp only [decide_eq_true_eq, decide_eq_false_iff_not, Bool.not_eq_true', Bool.not_eq_false', Bool.or_eq_true, Bool.and_eq_true, Bool.or_eq_false_iff, Bool.and_eq_false_iff, Int.not_lt, Int.not_le] at c22p
                    (try simp only [Hd.cut] at c22)
                    rw [hlen] at c22
                    refine G_seq ?_
                    refine G_region ?_
                    refine GL_step rfl (PS_move rfl) ?_
                    refine GL_step rfl (PS_len_slice rfl Tryd.underlying28 rfl) ?_
                    refine GL_step rfl (PS_neq rfl rfl) ?_
                    refine GL_step rfl (PS_move rfl) ?_
                    refine GL_gf (t := 187) rfl rfl rfl (fun q => PS_move rfl) ?_
                    refine GL_gf (t := 187) rfl rfl rfl (fun q => PS_eql_str (cvE rfl (by rw [q]; rfl)) rfl) ?_
                    refine GL_step rfl (PS_or rfl rfl (fun h => by rw [h]; rfl)) ?_
                    refine GL_step rfl (PS_assign rfl) ?_
                    refine GL_nil ?_
                    refine GQ_sub (.cons (k := 2) rfl (.cons (k := 4) rfl (.cons (k := 5) rfl (.cons (k := 8) rfl (.cons (k := 183) rfl (.nil _)))))) ?_
                    refine GQ_then ?_
                    refine G_cond rfl (fun c23 => ?_) (fun c23 => ?_)
                    · skip
                      have c23p := c23
                      try simp only [decide_eq_true_eq, decide_eq_false_iff_not, Bool.not_eq_true', Bool.not_eq_false', Bool.or_eq_true, Bool.and_eq_true, Bool.or_eq_false_iff, Bool.and_eq_false_iff, Int.not_lt, Int.not_le] at c23p
                      (try simp only [Hd.cut] at c23)
                      rw [hlen] at c23
                      refine G_seq ?_
                      refine G_region ?_
                      refine GL_step rfl (PS_move rfl) ?_
                      refine GL_callLV rfl cf24 rfl (.cons rfl .nil) .nil (words_Parse_1_spec _) (fun v17 B hv => ?_)
                      obtain ⟨rfl, rfl⟩ := hv
                      refine GL_step rfl (PS_extract rfl rfl) ?_
                      refine GL_step rfl (PS_extract rfl rfl) ?_
                      refine GL_unit (PU_store (Lens.id Order.fl.len Order.fl.one) rfl rfl rfl sz23 rfl (.tail (.tail .head))) ?_
                      refine GL_step rfl (PS_assign rfl) ?_
                      refine GL_nil ?_
                      refine GQ_sub (.cons (k := 2) rfl (.cons (k := 3) rfl (.nil _))) ?_
                      refine GQ_then ?_
                      refine G_ret ?_
                      refine GQ_block_ret ?_
                      refine GQ_then_ret ?_
                      refine GQ_ret rfl (.cell rfl (.tail _ (.tail _ (.head _))) (.inl ⟨(by rw [Order.fl.len]; exact tya23), rfl⟩) (.tmp rfl .nil)) ?_
                      intro w1 hS; refine ⟨?_, hS.toKeep⟩; rw [show Words.parse s = _ from ((if_f c1).trans ((if_f c2).trans ((if_f c3).trans ((if_f c5).trans ((if_f c7).trans ((if_f c8).trans ((if_f c17).trans ((if_f c18).trans ((if_f c22).trans (if_t c23))))))))))]; rfl
                    · skip
                      have c23p := c23
                      try simp only [decide_eq_true_eq, decide_eq_false_iff_not, Bool.not_eq_true', Bool.not_eq_false', Bool.or_eq_true, Bool.and_eq_true, Bool.or_eq_false_iff, Bool.and_eq_false_iff, Int.not_lt, Int.not_le] at c23p
                      (try simp only [Hd.cut] at c23)
                      rw [hlen] at c23
                      refine G_skip ?_
                      refine GQ_sub (.cons (k := 2) rfl (.cons (k := 5) rfl (.cons (k := 8) rfl (.nil _)))) ?_
                      refine GQ_block ?_
                      refine GQ_then ?_
                      refine G_seq ?_
                      refine G_region ?_
                      refine GL_step rfl (PS_move rfl) ?_
                      refine GL_step rfl (PS_idxS is28 (by decide) (Kn.own (.tail _ (.head _))) rfl rfl (by omega) (by first | omega | (simp only [Hd.cut] at *; omega) | (simp [Hd.cut] at q ⊢; omega))) ?_
                      refine GL_step rfl (PS_ldStr rfl tys9 (Kn.own (.tail _ (.head _))) (by first | omega | (simp only [List.length_drop, Hd.cut] at *; omega) | (simp [Hd.cut] at q ⊢; omega))) ?_
                      refine GL_step rfl (PS_fieldAddr fa23_4 rfl) ?_
                      refine GL_unit (PU_store Order.l4 rfl rfl rfl sz9 rfl .head) ?_
                      refine GL_nil ?_
                      refine GQ_sub (.cons (k := 2) rfl (.cons (k := 8) rfl (.nil _))) ?_
                      refine GQ_then ?_
                      refine G_seq ?_
                      refine G_region ?_
                      refine GL_step rfl (PS_loadA rfl tya23 (.head _) (Lens.id Order.fl.len Order.fl.one) rfl) ?_
                      refine GL_unit (PU_store (Lens.id Order.fl.len Order.fl.one) rfl rfl rfl sz23 rfl (.tail (.tail .head))) ?_
                      refine GL_step rfl (PS_assign rfl) ?_
                      refine GL_nil ?_
                      refine GQ_sub (.cons (k := 2) rfl (.cons (k := 3) rfl (.nil _))) ?_
                      refine GQ_then ?_
                      refine G_ret ?_
                      refine GQ_ret rfl (.cell rfl (.tail _ (.tail _ (.head _))) (.inl ⟨(by rw [Order.fl.len]; exact tya23), rfl⟩) (.tmp rfl .nil)) ?_
                      intro w1 hS; refine ⟨?_, hS.toKeep⟩; rw [show Words.parse s = _ from ((if_f c1).trans ((if_f c2).trans ((if_f c3).trans ((if_f c5).trans ((if_f c7).trans ((if_f c8).trans ((if_f c17).trans ((if_f c18).trans ((if_f c22).trans (if_f c23))))))))))]; rfl
theorem keep_means_spec  (w : World) (gl0 : GV 0 Land.verbsV w) (gl1 : GVE 3 w) (gl2 : GVE 4 w) : Ret Tryd.prog 15 #[] w fun v w' => v = .bool true ∧ Keep w w' := by
  refine Ret_body [] [] Tryd.func15 rfl rfl rfl (St.start w []) ?_
  refine G_seq ?_
  refine G_region ?_
  refine GL_step rfl (PS_assign rfl) ?_
  refine GL_nil ?_
  refine GQ_sub (.nil _) ?_
  refine GQ_then ?_
  refine G_seq ?_
  refine G_region ?_
  refine GL_pure rfl cf8 (.cons rfl .nil) (fun w hS => words_Parse_spec Words.chestT (by decide) w (gl0.st hS) (gl1.st hS) (gl2.st hS)) ?_
  refine GL_step rfl (PS_move rfl) ?_
  refine GL_step rfl (PS_extract rfl rfl) ?_
  refine GL_step rfl (PS_extract rfl rfl) ?_
  refine GL_alloc rfl zv23 rfl (fun b1 => ?_)
  refine GL_unit (PU_store (Lens.id Order.fl.len Order.fl.one) rfl rfl rfl sz23 rfl .head) ?_
  refine GL_step rfl (PS_assign rfl) ?_
  refine GL_nil ?_
  refine GQ_sub (.cons (k := 1) rfl (.cons (k := 2) rfl (.nil _))) ?_
  refine GQ_then ?_
  refine G_seq ?_
  refine G_region ?_
  refine GL_step rfl (PS_move rfl) ?_
  refine GL_step rfl (PS_eql rfl rfl) ?_
  refine GL_step rfl (PS_move rfl) ?_
  refine GL_gt (t := 9) rfl rfl rfl (fun q => PS_fieldAddr fa23_0 rfl) ?_
  refine GL_gt (t := 9) rfl rfl rfl (fun q => PS_load (cvE rfl q) tys3 (.head _) Order.l0 rfl rfl) ?_
  refine GL_gt (t := 9) rfl rfl rfl (fun q => PS_eql (cvE rfl q) rfl) ?_
  refine GL_step rfl (PS_and rfl rfl (fun h => h)) ?_
  refine GL_step rfl (PS_move rfl) ?_
  refine GL_gt (t := 14) rfl rfl rfl (fun q => PS_fieldAddr fa23_1 rfl) ?_
  refine GL_gt (t := 14) rfl rfl rfl (fun q => PS_load (cvE rfl q) tys3 (.head _) Order.l1 rfl rfl) ?_
  refine GL_gt (t := 14) rfl rfl rfl (fun q => PS_eql (cvE rfl q) rfl) ?_
  refine GL_step rfl (PS_and rfl rfl (fun h => h)) ?_
  refine GL_step rfl (PS_move rfl) ?_
  refine GL_gt (t := 19) rfl rfl rfl (fun q => PS_fieldAddr fa23_4 rfl) ?_
  refine GL_gt (t := 19) rfl rfl rfl (fun q => PS_load (cvE rfl q) tys9 (.head _) Order.l4 rfl rfl) ?_
  refine GL_gt (t := 19) rfl rfl rfl (fun q => PS_eql_str (cvE rfl q) rfl) ?_
  refine GL_step rfl (PS_and rfl rfl (fun h => h)) ?_
  refine GL_step rfl (PS_assign rfl) ?_
  refine GL_nil ?_
  refine GQ_sub (.cons (k := 0) rfl (.nil _)) ?_
  refine GQ_then ?_
  refine G_ret ?_
  refine GQ_ret rfl (.tmp rfl .nil) ?_
  intro w1 hS; refine ⟨congrArg Value.bool ?_, hS.toKeep⟩; first | rfl | kernel_rfl
theorem keep_WordsSpaces_spec (s g : Str) (hs : s.length ≤ 1048576) (hu : g.length ≤ 1048576) (w : World) (gl0 : GV 0 Land.verbsV w) (gl1 : GVE 3 w) (gl2 : GVE 4 w) : Ret Tryd.prog 5 #[vstr s, vstr g] w fun v w' => v = .bool true ∧ Keep w w' := by
  refine Ret_body [] [] Tryd.func5 rfl rfl rfl (St.start w []) ?_
  refine G_seq ?_
  refine G_region ?_
  refine GL_step rfl (PS_assign rfl) ?_
  refine GL_nil ?_
  refine GQ_sub (.cons (k := 0) rfl (.cons (k := 1) rfl (.nil _))) ?_
  refine GQ_then ?_
  refine G_seq ?_
  refine G_seq ?_
  refine G_region ?_
  refine GL_step rfl (PS_move rfl) ?_
  refine GL_step rfl (PS_len_str rfl Tryd.underlying9 rfl) ?_
  refine GL_step rfl (PS_move rfl) ?_
  refine GL_nil ?_
  refine GQ_sub (.cons (k := 0) rfl (.cons (k := 1) rfl (.cons (k := 11) rfl (.cons (k := 12) rfl (.nil _))))) ?_
  refine GQ_then ?_
  refine G_block ?_
  refine G_subF (.cons (k := 12) rfl (.cons (k := 0) rfl (.cons (k := 1) rfl (.cons (k := 11) rfl (.nil _))))) ?_
  refine G_loop1_ (fun (k : Int) => 0 ≤ k ∧ k ≤ g.length ∧ ∀ j : Nat, j < k → g.getD j 0 = 32) (fun (k : Int) => ((g.length : Int) - k).toNat) (fun (k : Int) => [(12, .int .i64 k)]) (fun (k : Int) => []) (0) ?_ rfl rfl (fun k hI1 => ?_)
  · exact ⟨by omega, by omega, fun j hj => by omega⟩
  obtain ⟨hI11, hI12, hI13⟩ := hI1
  refine G_seq ?_
  refine G_region ?_
  refine GL_step rfl (PS_lss rfl rfl) ?_
  refine GL_nil ?_
  refine GQ_then ?_
  refine G_seq ?_
  refine G_cond rfl (fun c1 => ?_) (fun c1 => ?_)
  · skip
    have c1p := c1
    try simp only [decide_eq_true_eq, decide_eq_false_iff_not, Bool.not_eq_true', Bool.not_eq_false', Bool.or_eq_true, Bool.and_eq_true, Bool.or_eq_false_iff, Bool.and_eq_false_iff, Int.not_lt, Int.not_le] at c1p
    refine G_skip ?_
    refine GQ_sub (.cons (k := 0) rfl (.cons (k := 1) rfl (.cons (k := 11) rfl (.cons (k := 12) rfl (.nil _))))) ?_
    refine GQ_then ?_
    refine G_seq ?_
    refine G_block ?_
    refine G_seq ?_
    refine G_region ?_
    refine GL_step rfl (PS_move rfl) ?_
    refine GL_step rfl (PS_assign rfl) ?_
    refine GL_nil ?_
    refine GQ_sub (.cons (k := 0) rfl (.cons (k := 1) rfl (.cons (k := 5) rfl (.cons (k := 11) rfl (.cons (k := 12) rfl (.nil _)))))) ?_
    refine GQ_then ?_
    refine G_seq ?_
    refine G_region ?_
    refine GL_step rfl (PS_move rfl) ?_
    refine GL_step rfl (PS_move rfl) ?_
    refine GL_step rfl (PS_index_str Tryd.underlying9 rfl rfl (by (try simp only [List.length_append]); omega) (by (try simp only [List.length_append]); omega)) ?_
    refine GL_step rfl (PS_neq rfl rfl) ?_
    refine GL_nil ?_
    refine GQ_sub (.cons (k := 0) rfl (.cons (k := 1) rfl (.cons (k := 11) rfl (.cons (k := 12) rfl (.cons (k := 18) rfl (.nil _)))))) ?_
    refine GQ_then ?_
    refine G_cond rfl (fun c2 => ?_) (fun c2 => ?_)
    · skip
      have c2p := c2
      try simp only [decide_eq_true_eq, decide_eq_false_iff_not, Bool.not_eq_true', Bool.not_eq_false', Bool.or_eq_true, Bool.and_eq_true, Bool.or_eq_false_iff, Bool.and_eq_false_iff, Int.not_lt, Int.not_le] at c2p
      refine G_seq ?_
      refine G_region ?_
      refine GL_pure rfl cf15 .nil (fun w hS => keep_means_spec w (gl0.st hS) (gl1.st hS) (gl2.st hS)) ?_
      refine GL_step rfl (PS_assign rfl) ?_
      refine GL_nil ?_
      refine GQ_sub (.cons (k := 4) rfl (.nil _)) ?_
      refine GQ_then ?_
      refine G_ret ?_
      refine GQ_block_ret ?_
      refine GQ_then_ret ?_
      refine GQ_then_ret ?_
      refine GQ_block_ret ?_
      refine GQ_then_ret ?_
      refine GQ_ret rfl (.tmp rfl .nil) ?_
      intro w1 hS; refine ⟨?_, hS.toKeep⟩; rfl
    · skip
      have c2p := c2
      try simp only [decide_eq_true_eq, decide_eq_false_iff_not, Bool.not_eq_true', Bool.not_eq_false', Bool.or_eq_true, Bool.and_eq_true, Bool.or_eq_false_iff, Bool.and_eq_false_iff, Int.not_lt, Int.not_le] at c2p
      refine G_skip ?_
      refine GQ_sub (.cons (k := 0) rfl (.cons (k := 1) rfl (.cons (k := 11) rfl (.cons (k := 12) rfl (.nil _))))) ?_
      refine GQ_block ?_
      refine GQ_then ?_
      refine G_region ?_
      refine GL_step rfl (PS_add rfl rfl (IntWalk.i64_in _ (by (try simp only [List.length_append]); omega))) ?_
      refine GL_step rfl (PS_move rfl) ?_
      refine GL_nil ?_
      refine GQ_sub (.cons (k := 0) rfl (.cons (k := 1) rfl (.cons (k := 11) rfl (.cons (k := 12) rfl (.nil _))))) ?_
      refine GQ_next1_ (k + 1) ?_ ?_ (.cons (k := 12) rfl (.cons (k := 0) rfl (.cons (k := 1) rfl (.cons (k := 11) rfl (.nil _))))) (.refl _)
      · exact ⟨by omega, by omega, Words.all_next hI13 (by simpa using c2)⟩
      · omega
  · skip
    have c1p := c1
    try simp only [decide_eq_true_eq, decide_eq_false_iff_not, Bool.not_eq_true', Bool.not_eq_false', Bool.or_eq_true, Bool.and_eq_true, Bool.or_eq_false_iff, Bool.and_eq_false_iff, Int.not_lt, Int.not_le] at c1p
    refine G_exit ?_
    refine GQ_then_exit ?_
    refine GQ_then_exit ?_
    refine GQ_block_exit ?_
    refine GQ_sub (.cons (k := 0) rfl (.cons (k := 1) rfl (.nil _))) ?_
    refine GQ_then ?_
    refine G_seq ?_
    refine G_region ?_
    refine GL_step rfl (PS_move rfl) ?_
    refine GL_pure rfl cf8 (.cons rfl .nil) (fun w hS => words_Parse_spec _ (by (try simp only [List.length_append]); omega) w (gl0.st hS) (gl1.st hS) (gl2.st hS)) ?_
    refine GL_step rfl (PS_move rfl) ?_
    refine GL_step rfl (PS_extract rfl rfl) ?_
    refine GL_step rfl (PS_extract rfl rfl) ?_
    refine GL_alloc rfl zv23 rfl (fun b1 => ?_)
    refine GL_unit (PU_store (Lens.id Order.fl.len Order.fl.one) rfl rfl rfl sz23 rfl .head) ?_
    refine GL_step rfl (PS_assign rfl) ?_
    refine GL_nil ?_
    refine GQ_sub (.cons (k := 0) rfl (.cons (k := 1) rfl (.cons (k := 6) rfl (.cons (k := 7) rfl (.nil _))))) ?_
    refine GQ_then ?_
    refine G_seq ?_
    refine G_region ?_
    refine GL_step rfl (PS_move rfl) ?_
    refine GL_step rfl (PS_move rfl) ?_
    refine GL_step rfl (PS_add_str rfl rfl (by (try simp only [List.length_append]); omega)) ?_
    refine GL_step rfl (PS_move rfl) ?_
    refine GL_step rfl (PS_add_str rfl rfl (by (try simp only [List.length_append]); omega)) ?_
    refine GL_pure rfl cf8 (.cons rfl .nil) (fun w hS => words_Parse_spec _ (by (try simp only [List.length_append]); omega) w (gl0.st hS) (gl1.st hS) (gl2.st hS)) ?_
    refine GL_step rfl (PS_move rfl) ?_
    refine GL_step rfl (PS_extract rfl rfl) ?_
    refine GL_step rfl (PS_extract rfl rfl) ?_
    refine GL_alloc rfl zv23 rfl (fun b2 => ?_)
    refine GL_unit (PU_store (Lens.id Order.fl.len Order.fl.one) rfl rfl rfl sz23 rfl .head) ?_
    refine GL_step rfl (PS_assign rfl) ?_
    refine GL_nil ?_
    refine GQ_sub (.cons (k := 6) rfl (.cons (k := 7) rfl (.cons (k := 8) rfl (.cons (k := 9) rfl (.nil _))))) ?_
    refine GQ_then ?_
    refine G_seq ?_
    refine G_region ?_
    refine GL_step rfl (PS_loadA rfl tya23 (.tail _ (.head _)) (Lens.id Order.fl.len Order.fl.one) rfl) ?_
    refine GL_step rfl (PS_loadA rfl tya23 (.head _) (Lens.id Order.fl.len Order.fl.one) rfl) ?_
    refine GL_step rfl (PS_eql_agg eq23 (by decide) (by kernel_rfl) rfl rfl) ?_
    refine GL_step rfl (PS_move rfl) ?_
    refine GL_gt (t := 38) rfl rfl rfl (fun q => PS_move rfl) ?_
    refine GL_gt (t := 38) rfl rfl rfl (fun q => PS_move rfl) ?_
    refine GL_gt (t := 38) rfl rfl rfl (fun q => PS_eql (cvE rfl q) (cvE rfl q)) ?_
    refine GL_step rfl (PS_and rfl rfl (fun h => h)) ?_
    refine GL_step rfl (PS_move rfl) ?_
    refine GL_pgt (t := 43) rfl rfl rfl (fun q => PC_of cf15 .nil (fun w hS => keep_means_spec w (gl0.st hS) (gl1.st hS) (gl2.st hS))) ?_
    refine GL_step rfl (PS_and rfl rfl (fun h => h)) ?_
    refine GL_step rfl (PS_assign rfl) ?_
    refine GL_nil ?_
    refine GQ_sub (.cons (k := 4) rfl (.nil _)) ?_
    refine GQ_then ?_
    refine G_ret ?_
    refine GQ_ret rfl (.tmp rfl .nil) ?_
    intro w1 hS; refine ⟨?_, hS.toKeep⟩; have hq := Words.parse_gap s g (Words.all_of hI13 (by omega))
    exact congrArg Value.bool (by rw [hq]; simp)
mutual
def cellsD {H : Type} : DataW H → List Value
  | .lit (.int k n) => [.int k n]
  | .lit (.string bs) => [.string ⟨bs.toArray⟩]
  | .lit (.bool b) => [.bool b]
  | .agg ps => cellsDs ps
  | _ => []
def cellsDs {H : Type} : List (DataW H) → List Value
  | [] => []
  | d :: r => cellsD d ++ cellsDs r
end
def cellsE {H : Type} : DataW H → List Value
  | .iface _ (.ptr (.agg ps)) => cellsDs ps
  | _ => []
/-- Where what the errors point to lies. -/
noncomputable def low : Nat := (World.holding Tryd.prog default ⟨#[], #[], []⟩).heap.size
/-- A world in which the listed variables hold what is listed. -/
noncomputable def laidWorld (os : Os) : World := { World.holding Tryd.prog os ⟨#[.cells (cellsE (Rows.laid_strconv_ErrRange : DataW Unit)).toArray 103, .cells (cellsE (Rows.laid_strconv_ErrSyntax : DataW Unit)).toArray 103], #[], []⟩ with heap := (((((((((World.holding Tryd.prog os ⟨#[.cells (cellsE (Rows.laid_strconv_ErrRange : DataW Unit)).toArray 103, .cells (cellsE (Rows.laid_strconv_ErrSyntax : DataW Unit)).toArray 103], #[], []⟩).heap.modify 4 fun o => match o with | .cells _ t frozen => .cells #[.iface 101 (.pointer (some ⟨low + 0, 0, none⟩))] t frozen | o => o).modify 3 fun o => match o with | .cells _ t frozen => .cells #[.iface 101 (.pointer (some ⟨low + 1, 0, none⟩))] t frozen | o => o).modify 8 fun o => match o with | .cells _ t frozen => .cells (cellsD (Rows.laid_math_bits_deBruijn32tab : DataW Unit)).toArray t frozen | o => o).modify 9 fun o => match o with | .cells _ t frozen => .cells (cellsD (Rows.laid_math_bits_deBruijn64tab : DataW Unit)).toArray t frozen | o => o).modify 7 fun o => match o with | .cells _ t frozen => .cells (cellsD (Rows.laid_internal_strconv_uint64pow10 : DataW Unit)).toArray t frozen | o => o).modify 6 fun o => match o with | .cells _ t frozen => .cells (cellsD (Rows.laid_unicode_utf8_acceptRanges : DataW Unit)).toArray t frozen | o => o).modify 0 fun o => match o with | .cells _ t frozen => .cells (cellsD (Rows.laid_inglenook_words_verbs : DataW Unit)).toArray t frozen | o => o).modify 5 fun o => match o with | .cells _ t frozen => .cells (cellsD (Rows.laid_unicode_utf8_first : DataW Unit)).toArray t frozen | o => o) }
set_option maxRecDepth 100000 in
theorem laid_met (os : Os) : laidMet Tryd.prog Rows.wordsSpacesUptoRow.laid ((laidWorld os).forCall (fun _ _ => 0) ⟨#[], #[vstr [], vstr []], []⟩).memory :=
  laidMet_of_run' 8 (by kernel_rfl) (by kernel_rfl)
set_option maxRecDepth 100000 in
theorem reads (os : Os) {H : Type} (enc : TypeId × Value → H) : ∃ places, DataW.whole enc Tryd.prog ((laidWorld os).forCall (fun _ _ => 0) ⟨#[], #[vstr [], vstr []], []⟩).memory Tryd.f5.params.toList Rows.wordsSpacesSpec.vars false (#[vstr [], vstr []] : Array Value).toList 8 = some ([.lit (.string []), .lit (.string [])], [], places) := ⟨[], by kernel_rfl⟩
set_option maxRecDepth 100000 in
theorem wordsSpaces_lifted (os : Os) (started : os.Started) (H : Type) (enc : TypeId × Value → H) (F : Stop.Interp) :
    ReturnsInHanded {} Tryd.checked os 5 .any ((Rows.OpenSpec.upto Rows.wordsSpacesSpec).preRow enc Tryd.prog Tryd.f5 Rows.wordsSpacesUptoRow.domain false Rows.wordsSpacesUptoRow.laid) (((Rows.OpenSpec.upto Rows.wordsSpacesSpec).at F).post enc Tryd.prog Tryd.f5 false true false false) := by
  obtain ⟨places, hx⟩ := reads os enc
  refine returnsInHanded_of_row (C := Tryd.checked) (s := (Rows.OpenSpec.upto Rows.wordsSpacesSpec)) own started (by kernel_rfl) Tryd.func5
    (witness_row_at (enc := enc) (C := Tryd.checked) false (laidWorld os) #[vstr [], vstr []] rfl (by kernel_rfl) (by kernel_rfl) (by kernel_rfl)
      (OpenSpec.preRow_of_cond 8 hx (by kernel_rfl) (fun k hk => by cases hk; kernel_rfl) (by kernel_rfl) (laid_met os))) ?_
  intro W base args ds gs before hval hW _ hcond hsz hL _ _
  have hu : Rows.uptoBulkAll (ds ++ gs) ≤ 1048576 := of_decide_eq_true (hcond _ rfl)
  refine law_post (B := 4) laidOut (by kernel_rfl) Tryd.underlying4 (by kernel_rfl) rfl (fun ds h => by rw [Tryd.params5] at h; match ds, h with | [d1, d2], _ => rfl) hW ?_
  obtain ⟨p, q, hA, hV, _, _, _⟩ := hW
  rw [Tryd.params5] at hA
  obtain ⟨v0, vs0, d0, ds0, p0, q0, hv0, rfl, rfl, hd0, hA⟩ := trodAll_cons hA
  obtain ⟨v1, vs1, d1, ds1, p1, q1, hv1, rfl, rfl, hd1, hA⟩ := trodAll_cons hA
  obtain ⟨hvn, rfl, rfl⟩ := trodAll_nil hA
  obtain rfl : args = #[v0, v1] := by cases args; simp_all
  obtain ⟨s, rfl, rfl, rfl, w0⟩ := open_str Tryd.underlying9 (hval 0 _ _ rfl rfl) hd0
  obtain ⟨g, rfl, rfl, rfl, w1⟩ := open_str Tryd.underlying9 (hval 1 _ _ rfl rfl) hd1
  simp only [List.cons_append, List.nil_append, Rows.uptoBulkAll, Rows.uptoBulk, Array.length_toList] at hu
  exact keep_WordsSpaces_spec _ _ (by omega) (by omega) W (gv_strs hL mem_laid_inglenook_words_verbs (by kernel_rfl) (by kernel_rfl) Tryd.underlying46 Tryd.underlying9 (by kernel_rfl) (by kernel_rfl)) (gve hL mem_laid_strconv_ErrSyntax rfl (by kernel_rfl) (by kernel_rfl) Tryd.underlying57) (gve hL mem_laid_strconv_ErrRange rfl (by kernel_rfl) (by kernel_rfl) Tryd.underlying57)
theorem wordsSpaces_said : Rows.WordsSpacesUptoSaid :=
  OpenClaim.holds_of_cond 5 Tryd.f5 rfl rfl rfl rfl rfl rfl rfl ⟨rfl, rfl, rfl, rfl, rfl⟩ rfl rfl rfl rfl rfl (by kernel_rfl) Tryd.func5 (by kernel_rfl)
    (of_decide_eq_true (by kernel_rfl)) (by unfold Func.isWrapper; first | (rw [if_pos (by decide +kernel)]; kernel_rfl) | (rw [if_neg (by decide +kernel)]; exact ⟨rfl, rfl⟩))
    (fun os started H enc _ F => by rw [OpenClaim.pre_eq_preRow]; exact wordsSpaces_lifted os started H enc F)
theorem plainArgs (f : FuncId) (fn : Func) (hf : Tryd.pinned.checked.prog.funcNamed "inglenook/inglenookkeep.WordsSpaces" = some f) (hfn : Tryd.pinned.checked.prog.funcs[f]? = some fn) :
    true = Tryd.pinned.checked.prog.looks [] ∧ ∀ (j : Nat) t, fn.params[j]? = some t → Tryd.pinned.checked.prog.wantsStandIn t = false := by
  obtain rfl : f = 5 := Option.some.inj ((show Tryd.prog.funcNamed "inglenook/inglenookkeep.WordsSpaces" = some 5 by kernel_rfl).symm.trans hf) |>.symm
  obtain rfl : fn = Tryd.f5 := (Option.some.inj (Tryd.func5.symm.trans hfn)).symm
  refine ⟨by kernel_rfl, fun j t ht => ?_⟩
  rw [Tryd.params5] at ht
  have hm : t ∈ [9, 9] := by simpa using Array.mem_of_getElem? ht
  have hall : ([9, 9].all fun u => !Tryd.prog.wantsStandIn u) = true := by kernel_rfl
  exact (show Tryd.prog.wantsStandIn t = false by simpa using List.all_eq_true.1 hall t hm)
theorem wordsSpaces_holds : Rows.WordsSpacesUptoCardSaid :=
  Claim7.holds_tied_plain_at .later [] _ _ _ _ wordsSpaces_said (fun _ h => by cases h) (by kernel_rfl) (fun _ h => by cases h) wordsSpacesUpto_row_tie rfl ⟨rfl, rfl⟩ (by kernel_rfl) rfl plainArgs (by kernel_rfl)
end Go.Proofs.YtckhelpkjicnnaaDoor
