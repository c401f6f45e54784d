/- For every input the law RulesFar returns true. No condition. -/
import Derived.Test.YthaobbemigbcgaaDoorCards
import Derived.Test.YthaobbemigbcgaaDoorTie
import Derived.Deep.DeepHandedRow
import Derived.Test.YthaobbemigbcgaaDoorRows
import Derived.Test.YthaobbemigbcgaaDoorRulesFarWalks
import Derived.Test.YthaobbemigbcgaaDoorRulesFarWalks2
import Derived.Test.YthaobbemigbcgaaDoorRulesFarWalks3
import Derived.Test.YthaobbemigbcgaaDoorRulesFarWalks4
import Derived.Test.YthaobbemigbcgaaDoorRulesFarEc3
import Derived.Test.YthaobbemigbcgaaDoorRulesFarRa1
import Derived.Test.YthaobbemigbcgaaDoorRulesFarRb1
set_option linter.unusedSimpArgs false
set_option linter.unusedVariables false
set_option maxRecDepth 100000
set_option maxHeartbeats 1000000
namespace Go.Proofs.YthaobbemigbcgaaDoor
open Go Go.Ing Go.RowKit Go.ChangeShapes Go.WideShapes Go.ChangeAt
theorem own : ownKnob Tryd.prog.godebug = none := by kernel_rfl
theorem laidOut : laidOutB Tryd.prog = true := by kernel_rfl
theorem bulk_one {H : Type} (d : DataW H) : 1 ≤ Rows.uptoBulk d := by
  cases d with
  | lit l => cases l <;> simp [Rows.uptoBulk]
  | nil => simp [Rows.uptoBulk]
  | ptr d => simp [Rows.uptoBulk]
  | slice elems spare => simp [Rows.uptoBulk]
  | agg parts => simp [Rows.uptoBulk]
  | iface t d => simp [Rows.uptoBulk]
  | map entries => simp [Rows.uptoBulk]
  | held h => simp [Rows.uptoBulk]
theorem bulk_part {H : Type} {d : DataW H} {l : List (DataW H)} (h : d ∈ l) : Rows.uptoBulk d ≤ Rows.uptoBulkAll l := by
  induction l with
  | nil => cases h
  | cons x r ih =>
    simp only [Rows.uptoBulkAll]
    cases List.mem_cons.1 h with
    | inl e => subst e; omega
    | inr e => have := ih e; omega
theorem bulk_len {H : Type} (l : List (DataW H)) : l.length ≤ Rows.uptoBulkAll l := by
  induction l with
  | nil => simp [Rows.uptoBulkAll]
  | cons x r ih => have := bulk_one x; simp only [Rows.uptoBulkAll, List.length_cons]; omega
theorem bulk_lit {H : Type} {d : DataW H} {s : Str} (h : ∃ parts, d = .agg parts ∧ DataW.lit (.string s) ∈ parts) : s.length ≤ Rows.uptoBulk d := by
  obtain ⟨parts, rfl, h1⟩ := h
  have h4 := bulk_part h1
  simp only [Rows.uptoBulk] at h4 ⊢
  omega
theorem bulk_str {H : Type} {d : DataW H} {qs : List Str} (h : qs = [] ∨ ∃ parts elems rest, d = .agg parts ∧ DataW.slice elems rest ∈ parts ∧ elems.length = qs.length ∧ ∀ s ∈ qs, DataW.lit (.string s) ∈ elems) : qs.length ≤ Rows.uptoBulk d ∧ ∀ s ∈ qs, s.length ≤ Rows.uptoBulk d := by
  rcases h with rfl | ⟨parts, elems, rest, rfl, h1, h2, h3⟩
  · exact ⟨Nat.zero_le _, fun s hs => by simp at hs⟩
  · have h4 := bulk_part h1
    have h5 := bulk_len elems
    simp only [Rows.uptoBulk] at h4 ⊢
    refine ⟨by omega, fun s hs => ?_⟩
    have h6 := bulk_part (h3 s hs)
    simp only [Rows.uptoBulk] at h6
    omega
theorem bulk_in {H : Type} {a d : DataW H} (h : Inner a d) : Rows.uptoBulk a ≤ Rows.uptoBulk d := by
  induction h with
  | refl => exact Nat.le_refl _
  | step hp _ ih => have := bulk_part hp; simp only [Rows.uptoBulk]; omega
theorem ld_laid_inglenook_words_verbs : (Rows.laid_inglenook_words_verbs : DataW Unit) = strData Land.verbs := by kernel_rfl
theorem mem_laid_inglenook_words_verbs : ("inglenook/words.verbs", (strData Land.verbs : DataW Unit)) ∈ Rows.rulesFarUptoRow.laid := ld_laid_inglenook_words_verbs ▸ (.tail _ (.tail _ (.tail _ (.tail _ (.tail _ (.head _))))))
theorem mem_laid_strconv_ErrSyntax : ("strconv.ErrSyntax", (Rows.laid_strconv_ErrSyntax : DataW Unit)) ∈ Rows.rulesFarUptoRow.laid := .tail _ (.tail _ (.tail _ (.tail _ (.head _))))
theorem mem_laid_strconv_ErrRange : ("strconv.ErrRange", (Rows.laid_strconv_ErrRange : DataW Unit)) ∈ Rows.rulesFarUptoRow.laid := .tail _ (.tail _ (.tail _ (.head _)))
theorem ld_laid_internal_strconv_uint64pow10 : (Rows.laid_internal_strconv_uint64pow10 : DataW Unit) = Lib.tabData .u64 Lib.pow10Tab := by kernel_rfl
theorem mem_laid_internal_strconv_uint64pow10 : ("internal/strconv.uint64pow10", (Lib.tabData .u64 Lib.pow10Tab : DataW Unit)) ∈ Rows.rulesFarUptoRow.laid := ld_laid_internal_strconv_uint64pow10 ▸ (.tail _ (.tail _ (.head _)))
theorem dc9 {H : Type} {enc : TypeId × Value → H} {w : World} : Dc H enc Tryd.prog w (encS) wfS 9 := Dc_string Tryd.underlying9
theorem dc4 {H : Type} {enc : TypeId × Value → H} {w : World} : Dc H enc Tryd.prog w (encB) wfB 4 := Dc_bool Tryd.underlying4
theorem dc3 {H : Type} {enc : TypeId × Value → H} {w : World} : Dc H enc Tryd.prog w (encI) wfI 3 := Dc_int Tryd.underlying3
theorem dc22 {H : Type} {enc : TypeId × Value → H} {w : World} : Dc H enc Tryd.prog w (encA (n := 6) encI) (wfA wfI) 22 := Dc_arr (sz := 1) Tryd.underlying22 (by kernel_rfl) (by kernel_rfl) dc3
theorem dc23 {H : Type} {enc : TypeId × Value → H} {w : World} : Dc H enc Tryd.prog w (encA (n := 6) encB) (wfA wfB) 23 := Dc_arr (sz := 1) Tryd.underlying23 (by kernel_rfl) (by kernel_rfl) dc4
theorem dc25 {H : Type} {enc : TypeId × Value → H} {w : World} : Dc H enc Tryd.prog w (Room.enc) Room.wf 25 := Room.dc Tryd.underlying25 (by kernel_rfl) rfl (by kernel_rfl) dc9 rfl (by kernel_rfl) dc4 rfl (by kernel_rfl) dc22 rfl (by kernel_rfl) dc23
theorem dc26 {H : Type} {enc : TypeId × Value → H} {w : World} : Dc H enc Tryd.prog w (encA (n := 6) Room.enc) (wfA Room.wf) 26 := Dc_arr (sz := 14) Tryd.underlying26 (by kernel_rfl) (by kernel_rfl) dc25
theorem dc28 {H : Type} {enc : TypeId × Value → H} {w : World} : Dc H enc Tryd.prog w (Thing.enc) Thing.wf 28 := Thing.dc Tryd.underlying28 (by kernel_rfl) rfl (by kernel_rfl) dc9 rfl (by kernel_rfl) dc3 rfl (by kernel_rfl) dc3 rfl (by kernel_rfl) dc3 rfl (by kernel_rfl) dc4
theorem dc29 {H : Type} {enc : TypeId × Value → H} {w : World} : Dc H enc Tryd.prog w (encA (n := 9) Thing.enc) (wfA Thing.wf) 29 := Dc_arr (sz := 5) Tryd.underlying29 (by kernel_rfl) (by kernel_rfl) dc28
theorem dc31 {H : Type} {enc : TypeId × Value → H} {w : World} : Dc H enc Tryd.prog w (Being.enc) Being.wf 31 := Being.dc Tryd.underlying31 (by kernel_rfl) rfl (by kernel_rfl) dc9 rfl (by kernel_rfl) dc4 rfl (by kernel_rfl) dc4 rfl (by kernel_rfl) dc3 rfl (by kernel_rfl) dc3 rfl (by kernel_rfl) dc3
theorem dc32 {H : Type} {enc : TypeId × Value → H} {w : World} : Dc H enc Tryd.prog w (encA (n := 6) Being.enc) (wfA Being.wf) 32 := Dc_arr (sz := 6) Tryd.underlying32 (by kernel_rfl) (by kernel_rfl) dc31
theorem dc34 {H : Type} {enc : TypeId × Value → H} {w : World} : Dc H enc Tryd.prog w (Land.enc) Land.wf 34 := Land.dc Tryd.underlying34 (by kernel_rfl) rfl (by kernel_rfl) dc26 rfl (by kernel_rfl) dc29 rfl (by kernel_rfl) dc32
theorem dc36 {H : Type} {enc : TypeId × Value → H} {w : World} : Dc H enc Tryd.prog w (Order.enc) Order.wf 36 := Order.dc Tryd.underlying36 (by kernel_rfl) rfl (by kernel_rfl) dc3 rfl (by kernel_rfl) dc3 rfl (by kernel_rfl) dc4 rfl (by kernel_rfl) dc9 rfl (by kernel_rfl) dc9 rfl (by kernel_rfl) dc9
theorem keep_RulesFar_spec (X : Land) (b : Int) (o : Order) (c : Int) (hw : X.Tiny) (hu : o.second.length ≤ 5000000) (hm : o.name.length ≤ 5000000) (hx : o.text.length ≤ 1048576) (w : World) (gl0 : GV 0 Land.verbsV w) (gl1 : GVE 3 w) (gl2 : GVE 4 w) (gl3 : GV 1 pow10V w) : Ret Tryd.prog 6 #[.agg X.enc.toArray, .int .i64 b, .agg o.enc.toArray, .int .i64 c] w fun v w' => v = .bool true ∧ Keep w w' := by
 refine Ret_body [] [] Tryd.func6 rfl rfl rfl (St.start w []) ?_
 refine G_seq ?_
 refine G_region ?_
 refine GL_box rfl rfl rfl (fun b1 => ?_)
 refine GL_box rfl rfl rfl (fun b2 => ?_)
 refine GL_step rfl (PS_assign rfl) ?_
 refine GL_nil ?_
 refine GQ_sub (.cons (k := 1) rfl (.cons (k := 3) rfl (.cons (k := 4) rfl (.cons (k := 6) rfl (.nil _))))) ?_
 refine GQ_then ?_
 refine G_seq ?_
 refine G_region ?_
 refine GL_step rfl (PS_loadA rfl tya34 (.tail _ (.head _)) (Lens.id Land.fl.len Land.fl.one) rfl) ?_
 refine GL_step rfl (PS_move rfl) ?_
 refine GL_step rfl (PS_loadA rfl tya36 (.head _) (Lens.id Order.fl.len Order.fl.one) rfl) ?_
 refine GL_callR rfl cf7 (.cons rfl (.cons rfl (.cons rfl .nil))) .nil (rules_Do_spec X b o hw.brief hu hm) (fun w hS => ⟨gl0.pull (by simp) hS .nil, gl1.pull (by simp) hS .nil, gl2.pull (by simp) hS .nil⟩) (fun v1 B hv => ?_)
 obtain ⟨y2, rfl, y3, rfl⟩ := hv
 refine GL_step rfl (PS_move rfl) ?_
 refine GL_step rfl (PS_extract rfl rfl) ?_
 refine GL_step rfl (PS_extract rfl rfl) ?_
 refine GL_step rfl (PS_extract rfl rfl) ?_
 refine GL_alloc rfl zv34 rfl (fun b3 => ?_)
 refine GL_unit (PU_store (Lens.id Land.fl.len Land.fl.one) rfl rfl rfl sz34 rfl .head) ?_
 refine GL_step rfl (PS_assign rfl) ?_
 refine GL_step rfl (PS_assign rfl) ?_
 refine GL_nil ?_
 refine GQ_sub (.cons (k := 1) rfl (.cons (k := 3) rfl (.cons (k := 4) rfl (.cons (k := 6) rfl (.cons (k := 9) rfl (.cons (k := 10) rfl (.cons (k := 11) rfl (.nil _)))))))) ?_
 refine GQ_then ?_
 refine G_seq ?_
 refine G_seq ?_
 refine G_region ?_
 refine GL_step rfl (PS_move rfl) ?_
 refine GL_step rfl (PS_neq rfl rfl) ?_
 refine GL_step rfl (PS_move rfl) ?_
 refine GL_gf (t := 27) rfl rfl rfl (fun q => PS_move rfl) ?_
 refine GL_gf (t := 27) rfl rfl rfl (fun q => PS_lss (cvE rfl (by rw [q]; rfl)) rfl) ?_
 refine GL_step rfl (PS_or rfl rfl (fun h => by rw [h]; rfl)) ?_
 refine GL_step rfl (PS_move rfl) ?_
 refine GL_gf (t := 31) rfl rfl rfl (fun q => PS_move rfl) ?_
 refine GL_gf (t := 31) rfl rfl rfl (fun q => PS_geq (cvE rfl (by rw [q]; rfl)) rfl) ?_
 refine GL_step rfl (PS_or rfl rfl (fun h => by rw [h]; rfl)) ?_
 refine GL_step rfl (PS_move rfl) ?_
 refine GL_gf (t := 35) rfl rfl rfl (fun q => PS_move rfl) ?_
 refine GL_gf (t := 35) rfl rfl rfl (fun q => PS_move rfl) ?_
 refine GL_gf (t := 35) rfl rfl rfl (fun q => PS_eql (cvE rfl (by rw [q]; rfl)) (cvE rfl (by rw [q]; rfl))) ?_
 refine GL_step rfl (PS_or rfl rfl (fun h => by rw [h]; rfl)) ?_
 refine GL_step rfl (PS_move rfl) ?_
 refine GL_pgf (t := 40) rfl rfl rfl (fun q => PC_of cf8 .nil (fun w hS => keep_acts_spec w (gl0.st hS) (gl1.st hS) (gl2.st hS))) ?_
 refine GL_gf (t := 40) rfl rfl rfl (fun q => PS_not (cvE rfl (by rw [q]; rfl))) ?_
 refine GL_step rfl (PS_or rfl rfl (fun h => by rw [h]; rfl)) ?_
 refine GL_nil ?_
 refine GQ_sub (.cons (k := 1) rfl (.cons (k := 3) rfl (.cons (k := 4) rfl (.cons (k := 6) rfl (.cons (k := 9) rfl (.cons (k := 10) rfl (.cons (k := 43) rfl (.nil _)))))))) ?_
 refine GQ_then ?_
 refine G_cond rfl (fun c1 => ?_) (fun c1 => ?_)
 ·
  have c1p := c1
  try simp only [kDa, kDb, kNa, kNb, kOa, kAa, kOb, kAb, kLa, kLb] at c1p
  refine G_seq ?_
  refine G_region ?_
  refine GL_pure rfl cf8 .nil (fun w hS => keep_acts_spec w (gl0.st hS) (gl1.st hS) (gl2.st hS)) ?_
  refine GL_step rfl (PS_assign rfl) ?_
  refine GL_nil ?_
  refine GQ_sub (.cons (k := 8) rfl (.nil _)) ?_
  refine GQ_then ?_
  refine G_ret ?_
  refine GQ_then_ret ?_
  refine GQ_ret rfl (.tmp rfl .nil) ?_
  intro w1 hS; refine ⟨?_, hS.toKeep⟩; rfl
 ·
  have c1p := c1
  try simp only [kDa, kDb, kNa, kNb, kOa, kAa, kOb, kAb, kLa, kLb] at c1p
  obtain ⟨⟨⟨⟨hz, hc0⟩, hc6⟩, hcb⟩, _⟩ := c1p
  have hk := Turn.do_ok hz
  have hb := hk.br
  have hlen := hk.len
  have hfar := Turn.far hz hc0 hc6 hcb hw hx
  refine G_skip ?_
  refine GQ_sub (.cons (k := 1) rfl (.cons (k := 3) rfl (.cons (k := 4) rfl (.cons (k := 6) rfl (.cons (k := 9) rfl (.cons (k := 10) rfl (.nil _))))))) ?_
  refine GQ_then ?_
  refine G_seq ?_
  refine G_planN (N := 25) [0, 0, 3, 7, 15, 0, 0, 96, 224, 480, 1023, 2047, 4095, 4095, 16383, 32767, 65535, 4095, 4095, 397311, 921599, 1970175, 4194303, 8388607, 16777215] mix (by kernel_rfl) rfl ?_
  refine Plan_float 0 rfl rfl (by kernel_rfl) (OK_s (EX_s (PS_move rfl))) ?_
  refine Plan_float 1 rfl rfl (by kernel_rfl) (OK_s (EX_s (PS_fieldAddr fa34_2 rfl))) ?_
  refine Plan_float 2 rfl rfl (by kernel_rfl) (OK_s (EX_s (PS_indexAddr ia32 rfl rfl (by omega) (by omega)))) ?_
  refine Plan_float 3 rfl rfl (by kernel_rfl) (OK_s (EX_s (PS_fieldAddr fa31_3 rfl))) ?_
  refine Plan_float 4 rfl rfl (by kernel_rfl) (OK_s (EX_s (PS_load rfl tys3 (.tail _ (.tail _ (.tail _ (.head _)))) ((Land.l2.comp (Lens.arr (n := 6) Being.fl (by omega) (by omega))).comp Being.l3) rfl rfl))) ?_
  refine Plan_float 5 rfl rfl (by kernel_rfl) (OK_s (EX_s (PS_move rfl))) ?_
  refine Plan_float 6 rfl rfl (by kernel_rfl) (OK_s (EX_s (PS_fieldAddr fa34_2 rfl))) ?_
  refine Plan_float 7 rfl rfl (by kernel_rfl) (OK_s (EX_s (PS_indexAddr ia32 rfl rfl (by omega) (by omega)))) ?_
  refine Plan_float 8 rfl rfl (by kernel_rfl) (OK_s (EX_s (PS_fieldAddr fa31_3 rfl))) ?_
  refine Plan_float 9 rfl rfl (by kernel_rfl) (OK_s (EX_s (PS_load rfl tys3 (.tail _ (.tail _ (.tail _ (.head _)))) ((Land.l2.comp (Lens.arr (n := 6) Being.fl (by omega) (by omega))).comp Being.l3) rfl rfl))) ?_
  refine Plan_float 10 rfl rfl (by kernel_rfl) (OK_s (EX_s (PS_neq rfl rfl))) ?_
  refine Plan_float 11 rfl rfl (by kernel_rfl) (OK_s (EX_s (PS_move rfl))) ?_
  refine Plan_float 12 rfl rfl (by kernel_rfl) (OK_gt (t := 56) rfl rfl (fun q => EX_s (PS_move rfl))) ?_
  refine Plan_float 13 rfl rfl (by kernel_rfl) (OK_gt (t := 56) rfl rfl (fun q => EX_s (PS_fieldAddr fa34_2 rfl))) ?_
  refine Plan_float 14 rfl rfl (by kernel_rfl) (OK_gt (t := 56) rfl rfl (fun q => by have q1 := q; (try simp at q1); exact EX_s (PS_indexAddr ia32 (cvE rfl q) (cvE rfl q) (by omega) (by omega)))) ?_
  refine Plan_float 15 rfl rfl (by kernel_rfl) (OK_gt (t := 56) rfl rfl (fun q => EX_s (PS_fieldAddr fa31_3 (cvE rfl q)))) ?_
  refine Plan_float 16 rfl rfl (by kernel_rfl) (OK_gt (t := 56) rfl rfl (fun q => by have q1 := q; (try simp at q1); exact EX_s (PS_load (cvE rfl q) tys3 (.tail _ (.tail _ (.tail _ (.head _)))) ((Land.l2.comp (Lens.arr (n := 6) Being.fl (by omega) (by omega))).comp Being.l3) rfl rfl))) ?_
  refine Plan_float 17 rfl rfl (by kernel_rfl) (OK_gt (t := 56) rfl rfl (fun q => EX_s (PS_move rfl))) ?_
  refine Plan_float 18 rfl rfl (by kernel_rfl) (OK_gt (t := 56) rfl rfl (fun q => EX_s (PS_fieldAddr fa34_2 rfl))) ?_
  refine Plan_float 19 rfl rfl (by kernel_rfl) (OK_gt (t := 56) rfl rfl (fun q => by have q1 := q; (try simp at q1); exact EX_s (PS_indexAddr ia32 (cvE rfl q) (cvE rfl q) (by omega) (by omega)))) ?_
  refine Plan_float 20 rfl rfl (by kernel_rfl) (OK_gt (t := 56) rfl rfl (fun q => EX_s (PS_fieldAddr fa31_3 (cvE rfl q)))) ?_
  refine Plan_float 21 rfl rfl (by kernel_rfl) (OK_gt (t := 56) rfl rfl (fun q => by have q1 := q; (try simp at q1); exact EX_s (PS_load (cvE rfl q) tys3 (.head _) ((Land.l2.comp (Lens.arr (n := 6) Being.fl (by omega) (by omega))).comp Being.l3) rfl rfl))) ?_
  refine Plan_float 22 rfl rfl (by kernel_rfl) (OK_gt (t := 56) rfl rfl (fun q => EX_s (PS_neq (cvE rfl q) (cvE rfl q)))) ?_
  refine Plan_float 23 rfl rfl (by kernel_rfl) (OK_s (EX_s (PS_and rfl rfl (fun h => h)))) ?_
  refine Plan_float 24 rfl rfl (by kernel_rfl) (OK_s (EX_s (PS_assign rfl))) ?_
  refine Plan_end (by kernel_rfl) ?_
  refine GQ_sub (.cons (k := 1) rfl (.cons (k := 3) rfl (.cons (k := 6) rfl (.cons (k := 10) rfl (.cons (k := 12) rfl (.nil _)))))) ?_
  refine GQ_then ?_
  refine G_seq ?_
  refine G_seq ?_
  refine G_region ?_
  refine GL_step rfl (PS_move rfl) ?_
  refine GL_step rfl (PS_len_slice rfl Tryd.underlying37 rfl) ?_
  refine GL_step rfl (PS_move rfl) ?_
  refine GL_nil ?_
  refine GQ_sub (.cons (k := 1) rfl (.cons (k := 3) rfl (.cons (k := 6) rfl (.cons (k := 12) rfl (.cons (k := 69) rfl (.cons (k := 70) rfl (.cons (k := 71) rfl (.nil _)))))))) ?_
  refine GQ_then ?_
  refine G_block ?_
  refine G_subF (.cons (k := 71) rfl (.cons (k := 1) rfl (.cons (k := 3) rfl (.cons (k := 6) rfl (.cons (k := 12) rfl (.cons (k := 69) rfl (.cons (k := 70) rfl (.nil _)))))))) ?_
  refine G_loop1_ (fun (k : Int) => 0 ≤ k ∧ k ≤ ((Turn.doR X b o).2.1.length : Int)) (fun (k : Int) => (((Turn.doR X b o).2.1.length : Int) - k).toNat) (fun (k : Int) => [(71, .int .i64 k)]) (fun (k : Int) => []) (0) ?_ rfl rfl (fun k hI1 => ?_)
  · exact ⟨by omega, by omega⟩
  obtain ⟨hI11, hI12⟩ := hI1
  refine G_seq ?_
  refine G_region ?_
  refine GL_step rfl (PS_lss rfl rfl) ?_
  refine GL_nil ?_
  refine GQ_then ?_
  refine G_seq ?_
  refine G_cond rfl (fun c2 => ?_) (fun c2 => ?_)
  ·
   have c2p := c2
   try simp only [kDa, kDb, kNa, kNb, kOa, kAa, kOb, kAb, kLa, kLb] at c2p
   have hfe := hfar _ (getD_memG (d := default) (xs := (Turn.doR X b o).2.1) (i := k.toNat) (by omega))
   refine G_skip ?_
   refine GQ_sub (.cons (k := 1) rfl (.cons (k := 3) rfl (.cons (k := 6) rfl (.cons (k := 12) rfl (.cons (k := 69) rfl (.cons (k := 70) rfl (.cons (k := 71) rfl (.nil _)))))))) ?_
   refine GQ_then ?_
   refine G_seq ?_
   refine G_block ?_
   refine G_seq ?_
   refine G_region ?_
   refine GL_step rfl (PS_idxS is37 (by decide) (Kn.own (.tail _ (.head _))) rfl rfl (by omega) (by omega)) ?_
   refine GL_step rfl (PS_ldG rfl tya48 (by decide) Ing.Event.fl (Kn.own (.tail _ (.head _))) (by omega)) ?_
   refine GL_alloc rfl zv48 rfl (fun b4 => ?_)
   refine GL_unit (PU_store (Lens.id Ing.Event.fl.len Ing.Event.fl.one) rfl rfl rfl sz48 rfl .head) ?_
   refine GL_nil ?_
   refine GQ_sub (.cons (k := 1) rfl (.cons (k := 3) rfl (.cons (k := 6) rfl (.cons (k := 12) rfl (.cons (k := 14) rfl (.cons (k := 69) rfl (.cons (k := 70) rfl (.cons (k := 71) rfl (.nil _))))))))) ?_
   refine GQ_then ?_
   refine G_seq ?_
   refine G_seq ?_
   refine G_region ?_
   refine GL_step rfl (PS_move rfl) ?_
   refine GL_step rfl (PS_move rfl) ?_
   refine GL_gt (t := 76) rfl rfl rfl (fun q => PS_move rfl) ?_
   refine GL_gt (t := 76) rfl rfl rfl (fun q => PS_fieldAddr fa48_10 rfl) ?_
   refine GL_gt (t := 76) rfl rfl rfl (fun q => by have q1 := q; (try simp at q1); exact PS_indexAddr ia22 (cvE rfl q) (cvE rfl q) (by omega) (by omega)) ?_
   refine GL_gt (t := 76) rfl rfl rfl (fun q => by have q1 := q; (try simp at q1); exact PS_load (cvE rfl q) tys3 (.head _) (Ing.Event.l10.comp (Lens.arr (n := 6) flI (by omega) (by omega))) rfl rfl) ?_
   refine GL_gt (t := 76) rfl rfl rfl (fun q => PS_neq (cvE rfl q) rfl) ?_
   refine GL_step rfl (PS_and rfl rfl (fun h => h)) ?_
   refine GL_step rfl (PS_move rfl) ?_
   refine GL_gt (t := 83) rfl rfl rfl (fun q => PS_fieldAddr fa36_0 rfl) ?_
   refine GL_gt (t := 83) rfl rfl rfl (fun q => PS_load (cvE rfl q) tys3 (.tail _ (.tail _ (.tail _ (.head _)))) Order.l0 rfl rfl) ?_
   refine GL_gt (t := 83) rfl rfl rfl (fun q => PS_eql (cvE rfl q) rfl) ?_
   refine GL_gt (t := 83) rfl rfl rfl (fun q => PS_not (cvE rfl q)) ?_
   refine GL_step rfl (PS_and rfl rfl (fun h => h)) ?_
   refine GL_step rfl (PS_move rfl) ?_
   refine GL_gf (t := 89) rfl rfl rfl (fun q => PS_fieldAddr fa48_0 rfl) ?_
   refine GL_gf (t := 89) rfl rfl rfl (fun q => PS_load (cvE rfl (by rw [q]; rfl)) tys3 (.head _) Ing.Event.l0 rfl rfl) ?_
   refine GL_gf (t := 89) rfl rfl rfl (fun q => PS_eql (cvE rfl (by rw [q]; rfl)) rfl) ?_
   refine GL_gf (t := 89) rfl rfl rfl (fun q => PS_move (cvE rfl (by rw [q]; rfl))) ?_
   refine GL_gtc (t := 93) rfl rfl rfl (fun qc q => PS_move rfl) ?_
   refine GL_gtc (t := 93) rfl rfl rfl (fun qc q => PS_fieldAddr fa48_10 rfl) ?_
   refine GL_gtc (t := 93) rfl rfl rfl (fun qc q => by have q1 := q; have qc1 := qc; (try simp at q1 qc1); exact PS_indexAddr ia22 (cvE rfl (by rw [qc, q]; rfl)) (cvE rfl (by rw [qc, q]; rfl)) (by omega) (by omega)) ?_
   refine GL_gtc (t := 93) rfl rfl rfl (fun qc q => by have q1 := q; have qc1 := qc; (try simp at q1 qc1); exact PS_load (cvE rfl (by rw [qc, q]; rfl)) tys3 (.head _) (Ing.Event.l10.comp (Lens.arr (n := 6) flI (by omega) (by omega))) rfl rfl) ?_
   refine GL_gtc (t := 93) rfl rfl rfl (fun qc q => PS_neq (cvE rfl (by rw [qc, q]; rfl)) rfl) ?_
   refine GL_gf (t := 89) rfl rfl rfl (fun q => PS_and (cvE rfl (by rw [q]; rfl)) rfl (fun h => by rw [q, h]; rfl)) ?_
   refine GL_step rfl (PS_or rfl rfl (fun h => by rw [h]; rfl)) ?_
   refine GL_step rfl (PS_move rfl) ?_
   refine GL_gf (t := 101) rfl rfl rfl (fun q => PS_fieldAddr fa48_2 rfl) ?_
   refine GL_gf (t := 101) rfl rfl rfl (fun q => PS_load (cvE rfl (by rw [q]; rfl)) tys3 (.head _) Ing.Event.l2 rfl rfl) ?_
   refine GL_gf (t := 101) rfl rfl rfl (fun q => PS_move rfl) ?_
   refine GL_gf (t := 101) rfl rfl rfl (fun q => PS_neq (cvE rfl (by rw [q]; rfl)) (cvE rfl (by rw [q]; rfl))) ?_
   refine GL_step rfl (PS_or rfl rfl (fun h => by rw [h]; rfl)) ?_
   refine GL_nil ?_
   refine GQ_sub (.cons (k := 1) rfl (.cons (k := 3) rfl (.cons (k := 6) rfl (.cons (k := 12) rfl (.cons (k := 14) rfl (.cons (k := 69) rfl (.cons (k := 70) rfl (.cons (k := 71) rfl (.cons (k := 106) rfl (.nil _)))))))))) ?_
   refine GQ_then ?_
   refine G_cond rfl (fun c3 => ?_) (fun c3 => ?_)
   ·
    have c3p := c3
    try simp only [kDa, kDb, kNa, kNb, kOa, kAa, kOb, kAb, kLa, kLb] at c3p
    refine G_seq ?_
    refine G_region ?_
    refine GL_step rfl (PS_assign rfl) ?_
    refine GL_nil ?_
    refine GQ_sub (.cons (k := 8) rfl (.nil _)) ?_
    refine GQ_then ?_
    refine G_ret ?_
    refine GQ_then_ret ?_
    refine GQ_block_ret ?_
    refine GQ_then_ret ?_
    refine GQ_then_ret ?_
    refine GQ_block_ret ?_
    refine GQ_then_ret ?_
    refine GQ_ret rfl (.tmp rfl .nil) ?_
    exfalso
    have hno := far_no (fa := (!decide ((X.beings.at c).room = (X.beings.at b).room) && !decide ((X.beings.at c).room = ((Turn.doR X b o).1.beings.at b).room))) (v := o.verb) hfe.1 (fun hy => ⟨(hfe.2 hy).1, fun hv => by rcases (hfe.2 hy).2.1 hv with q | q <;> rw [q] <;> simp⟩)
    rw [hno] at c3
    cases c3
   ·
    have c3p := c3
    try simp only [kDa, kDb, kNa, kNb, kOa, kAa, kOb, kAb, kLa, kLb] at c3p
    refine G_skip ?_
    refine GQ_sub (.cons (k := 1) rfl (.cons (k := 3) rfl (.cons (k := 6) rfl (.cons (k := 12) rfl (.cons (k := 14) rfl (.cons (k := 69) rfl (.cons (k := 70) rfl (.cons (k := 71) rfl (.nil _))))))))) ?_
    refine GQ_then ?_
    refine G_seq ?_
    refine G_region ?_
    refine GL_step rfl (PS_loadA rfl tya48 (.head _) (Lens.id Ing.Event.fl.len Ing.Event.fl.one) rfl) ?_
    refine GL_step rfl (PS_move rfl) ?_
    refine GL_pure rfl cf12 (.cons rfl (.cons rfl .nil)) (fun w hS => sense_Tell_spec ((Turn.doR X b o).2.1.getD k.toNat default) c (fun hc => (hfe.2 (Land.heard_of hc)).2.2) w (gl3.st hS) (gl0.st hS)) ?_
    refine GL_step rfl (PS_move rfl) ?_
    refine GL_step rfl (PS_extract rfl rfl) ?_
    refine GL_step rfl (PS_extract rfl rfl) ?_
    refine GL_step rfl (PS_assign rfl) ?_
    refine GL_step rfl (PS_assign rfl) ?_
    refine GL_nil ?_
    refine GQ_sub (.cons (k := 1) rfl (.cons (k := 3) rfl (.cons (k := 6) rfl (.cons (k := 12) rfl (.cons (k := 15) rfl (.cons (k := 16) rfl (.cons (k := 69) rfl (.cons (k := 70) rfl (.cons (k := 71) rfl (.nil _)))))))))) ?_
    refine GQ_then ?_
    refine G_seq ?_
    refine G_region ?_
    refine GL_step rfl (PS_move rfl) ?_
    refine GL_step rfl (PS_move rfl) ?_
    refine GL_gt (t := 114) rfl rfl rfl (fun q => PS_move rfl) ?_
    refine GL_gt (t := 114) rfl rfl rfl (fun q => PS_eql_str (cvE rfl q) rfl) ?_
    refine GL_step rfl (PS_and rfl rfl (fun h => h)) ?_
    refine GL_nil ?_
    refine GQ_sub (.cons (k := 1) rfl (.cons (k := 3) rfl (.cons (k := 6) rfl (.cons (k := 12) rfl (.cons (k := 69) rfl (.cons (k := 70) rfl (.cons (k := 71) rfl (.cons (k := 117) rfl (.nil _))))))))) ?_
    refine GQ_then ?_
    refine G_cond rfl (fun c4 => ?_) (fun c4 => ?_)
    ·
     have c4p := c4
     try simp only [kDa, kDb, kNa, kNb, kOa, kAa, kOb, kAb, kLa, kLb] at c4p
     refine G_seq ?_
     refine G_region ?_
     refine GL_step rfl (PS_assign rfl) ?_
     refine GL_nil ?_
     refine GQ_sub (.cons (k := 8) rfl (.nil _)) ?_
     refine GQ_then ?_
     refine G_ret ?_
     refine GQ_block_ret ?_
     refine GQ_then_ret ?_
     refine GQ_then_ret ?_
     refine GQ_block_ret ?_
     refine GQ_then_ret ?_
     refine GQ_ret rfl (.tmp rfl .nil) ?_
     exfalso
     have hc := c4
     rw [Bool.and_eq_true] at hc
     exact Land.tell_some (by rw [hfe.1]; exact hcb) hc.1 (of_decide_eq_true hc.2)
    ·
     have c4p := c4
     try simp only [kDa, kDb, kNa, kNb, kOa, kAa, kOb, kAb, kLa, kLb] at c4p
     refine G_skip ?_
     refine GQ_sub (.cons (k := 1) rfl (.cons (k := 3) rfl (.cons (k := 6) rfl (.cons (k := 12) rfl (.cons (k := 69) rfl (.cons (k := 70) rfl (.cons (k := 71) rfl (.nil _)))))))) ?_
     refine GQ_block ?_
     refine GQ_then ?_
     refine G_region ?_
     refine GL_step rfl (PS_add rfl rfl (IntWalk.i64_in _ (by omega))) ?_
     refine GL_step rfl (PS_move rfl) ?_
     refine GL_nil ?_
     refine GQ_sub (.cons (k := 1) rfl (.cons (k := 3) rfl (.cons (k := 6) rfl (.cons (k := 12) rfl (.cons (k := 69) rfl (.cons (k := 70) rfl (.cons (k := 71) rfl (.nil _)))))))) ?_
     refine GQ_next1_ (k + 1) ?_ ?_ (.cons (k := 71) rfl (.cons (k := 1) rfl (.cons (k := 3) rfl (.cons (k := 6) rfl (.cons (k := 12) rfl (.cons (k := 69) rfl (.cons (k := 70) rfl (.nil _)))))))) (.cons _ (.refl _))
     · exact ⟨by omega, by omega⟩
     · omega
  ·
   have c2p := c2
   try simp only [kDa, kDb, kNa, kNb, kOa, kAa, kOb, kAb, kLa, kLb] at c2p
   refine G_exit ?_
   refine GQ_then_exit ?_
   refine GQ_then_exit ?_
   refine GQ_block_exit ?_
   refine GQ_sub (.nil _) ?_
   refine GQ_then ?_
   refine G_seq ?_
   refine G_region ?_
   refine GL_step rfl (PS_assign rfl) ?_
   refine GL_nil ?_
   refine GQ_then ?_
   refine G_ret ?_
   refine GQ_ret rfl (.tmp rfl .nil) ?_
   intro w1 hS; refine ⟨?_, hS.toKeep⟩; rfl
mutual
def cellsD {H : Type} : DataW H → List Value
  | .lit (.int k n) => [.int k n]
  | .lit (.string bs) => [.string ⟨bs.toArray⟩]
  | .lit (.bool b) => [.bool b]
  | .agg ps => cellsDs ps
  | _ => []
def cellsDs {H : Type} : List (DataW H) → List Value
  | [] => []
  | d :: r => cellsD d ++ cellsDs r
end
def cellsE {H : Type} : DataW H → List Value
  | .iface _ (.ptr (.agg ps)) => cellsDs ps
  | _ => []
/-- Where what the errors point to lies. -/
noncomputable def low : Nat := (World.holding Tryd.prog default ⟨#[], #[], []⟩).heap.size
/-- A world in which the listed variables hold what is listed. -/
noncomputable def laidWorld (os : Os) : World := { World.holding Tryd.prog os ⟨#[.cells (cellsE (Rows.laid_strconv_ErrRange : DataW Unit)).toArray 142, .cells (cellsE (Rows.laid_strconv_ErrSyntax : DataW Unit)).toArray 142], #[], []⟩ with heap := (((((((World.holding Tryd.prog os ⟨#[.cells (cellsE (Rows.laid_strconv_ErrRange : DataW Unit)).toArray 142, .cells (cellsE (Rows.laid_strconv_ErrSyntax : DataW Unit)).toArray 142], #[], []⟩).heap.modify 4 fun o => match o with | .cells _ t frozen => .cells #[.iface 140 (.pointer (some ⟨low + 0, 0, none⟩))] t frozen | o => o).modify 3 fun o => match o with | .cells _ t frozen => .cells #[.iface 140 (.pointer (some ⟨low + 1, 0, none⟩))] t frozen | o => o).modify 5 fun o => match o with | .cells _ t frozen => .cells (cellsD (Rows.laid_math_bits_deBruijn32tab : DataW Unit)).toArray t frozen | o => o).modify 6 fun o => match o with | .cells _ t frozen => .cells (cellsD (Rows.laid_math_bits_deBruijn64tab : DataW Unit)).toArray t frozen | o => o).modify 1 fun o => match o with | .cells _ t frozen => .cells (cellsD (Rows.laid_internal_strconv_uint64pow10 : DataW Unit)).toArray t frozen | o => o).modify 0 fun o => match o with | .cells _ t frozen => .cells (cellsD (Rows.laid_inglenook_words_verbs : DataW Unit)).toArray t frozen | o => o) }
set_option maxRecDepth 100000 in
theorem laid_met (os : Os) : laidMet Tryd.prog Rows.rulesFarUptoRow.laid ((laidWorld os).forCall (fun _ _ => 0) ⟨#[], #[.agg (Land.enc (default : Land)).toArray, .int .i64 0, .agg (Order.enc (default : Order)).toArray, .int .i64 0], []⟩).memory :=
  laidMet_of_run' 8 (by kernel_rfl) (by kernel_rfl)
set_option maxRecDepth 100000 in
theorem reads (os : Os) {H : Type} (enc : TypeId × Value → H) : ∃ places, DataW.whole enc Tryd.prog ((laidWorld os).forCall (fun _ _ => 0) ⟨#[], #[.agg (Land.enc (default : Land)).toArray, .int .i64 0, .agg (Order.enc (default : Order)).toArray, .int .i64 0], []⟩).memory Tryd.f6.params.toList Rows.rulesFarSpec.vars false (#[.agg (Land.enc (default : Land)).toArray, .int .i64 0, .agg (Order.enc (default : Order)).toArray, .int .i64 0] : Array Value).toList 8 = some ([.agg [.agg (List.replicate 6 (.agg [.lit (.string []), .lit (.bool false), .agg (List.replicate 6 (.lit (.int .i64 0))), .agg (List.replicate 6 (.lit (.bool false)))])), .agg (List.replicate 9 (.agg [.lit (.string []), .lit (.int .i64 0), .lit (.int .i64 0), .lit (.int .i64 0), .lit (.bool false)])), .agg (List.replicate 6 (.agg [.lit (.string []), .lit (.bool false), .lit (.bool false), .lit (.int .i64 0), .lit (.int .i64 0), .lit (.int .i64 0)]))], .lit (.int .i64 0), .agg [.lit (.int .i64 0), .lit (.int .i64 0), .lit (.bool false), .lit (.string []), .lit (.string []), .lit (.string [])], .lit (.int .i64 0)], [], places) := ⟨[], by kernel_rfl⟩
set_option maxRecDepth 100000 in
theorem rulesFar_lifted (os : Os) (started : os.Started) (H : Type) (enc : TypeId × Value → H) (F : Stop.Interp) :
    ReturnsInHanded {} Tryd.checked os 6 .any ((Rows.OpenSpec.upto Rows.rulesFarSpec).preRow enc Tryd.prog Tryd.f6 Rows.rulesFarUptoRow.domain false Rows.rulesFarUptoRow.laid) (((Rows.OpenSpec.upto Rows.rulesFarSpec).at F).post enc Tryd.prog Tryd.f6 false true false false) := by
  obtain ⟨places, hx⟩ := reads os enc
  refine returnsInHanded_of_row (C := Tryd.checked) (s := (Rows.OpenSpec.upto Rows.rulesFarSpec)) own started (by kernel_rfl) Tryd.func6
    (witness_row_at (enc := enc) (C := Tryd.checked) false (laidWorld os) #[.agg (Land.enc (default : Land)).toArray, .int .i64 0, .agg (Order.enc (default : Order)).toArray, .int .i64 0] rfl (by kernel_rfl) (by kernel_rfl) (by kernel_rfl)
      (OpenSpec.preRow_of_cond 8 hx (by kernel_rfl) (fun k hk => by cases hk; kernel_rfl) (by kernel_rfl) (laid_met os))) ?_
  intro W base args ds gs before hval hW _ hcond hsz hL _ _
  have hu : Rows.uptoBulkAll (ds ++ gs) ≤ 1048576 := of_decide_eq_true (hcond _ rfl)
  refine law_post (B := 4) laidOut (by kernel_rfl) Tryd.underlying4 (by kernel_rfl) rfl (fun ds h => by rw [Tryd.params6] at h; match ds, h with | [d1, d2, d3, d4], _ => rfl) hW ?_
  obtain ⟨p, q, hA, hV, _, _, _⟩ := hW
  rw [Tryd.params6] at hA
  obtain ⟨v0, vs0, d0, ds0, p0, q0, hv0, rfl, rfl, hd0, hA⟩ := trodAll_cons hA
  obtain ⟨v1, vs1, d1, ds1, p1, q1, hv1, rfl, rfl, hd1, hA⟩ := trodAll_cons hA
  obtain ⟨v2, vs2, d2, ds2, p2, q2, hv2, rfl, rfl, hd2, hA⟩ := trodAll_cons hA
  obtain ⟨v3, vs3, d3, ds3, p3, q3, hv3, rfl, rfl, hd3, hA⟩ := trodAll_cons hA
  obtain ⟨hvn, rfl, rfl⟩ := trodAll_nil hA
  obtain rfl : args = #[v0, v1, v2, v3] := by cases args; simp_all
  obtain ⟨X, rfl, w0⟩ := open_ag (P := Tryd.prog) (t := 34) (by rw [Tryd.underlying34]) (hval 0 _ _ rfl rfl) dc34 hd0
  obtain ⟨b, rfl, rfl, rfl, w1⟩ := open_int Tryd.underlying3 (hval 1 _ _ rfl rfl) hd1
  have w1 := bounds_i64 w1
  obtain ⟨o, rfl, w2⟩ := open_ag (P := Tryd.prog) (t := 36) (by rw [Tryd.underlying36]) (hval 2 _ _ rfl rfl) dc36 hd2
  obtain ⟨c, rfl, rfl, rfl, w3⟩ := open_int Tryd.underlying3 (hval 3 _ _ rfl rfl) hd3
  have w3 := bounds_i64 w3
  simp only [List.cons_append, List.nil_append, Rows.uptoBulkAll, Rows.uptoBulk, Array.length_toList] at hu
  exact keep_RulesFar_spec _ _ _ _ (by have k1 : ∀ i, 0 ≤ i → i < 9 → (X.things.at i).name.length ≤ 1048576 := fun i i0 i1 => (by have a := bulk_in (inner3 (q := 1) (oA := 84) (n := 9) (z := 5) (i := i.toNat) (s := (X.things.at i).name) Tryd.underlying34 rfl Tryd.underlying29 (by kernel_rfl) Tryd.underlying28 rfl (by kernel_rfl) Tryd.underlying9 (by kernel_rfl) (by omega) (by decide) hd0 (Land.name_at i0 i1)); simp only [Rows.uptoBulk] at a; omega); have k2 : ∀ i, 0 ≤ i → i < 6 → (X.beings.at i).name.length ≤ 1048576 := fun i i0 i1 => (by have a := bulk_in (inner3 (q := 2) (oA := 129) (n := 6) (z := 6) (i := i.toNat) (s := (X.beings.at i).name) Tryd.underlying34 rfl Tryd.underlying32 (by kernel_rfl) Tryd.underlying31 rfl (by kernel_rfl) Tryd.underlying9 (by kernel_rfl) (by omega) (by decide) hd0 (Land.bname_at i0 i1)); simp only [Rows.uptoBulk] at a; omega); have k3 : ∀ i, 0 ≤ i → i < 6 → (X.rooms.at i).name.length ≤ 1048576 := fun i i0 i1 => (by have a := bulk_in (inner3 (q := 0) (oA := 0) (n := 6) (z := 14) (i := i.toNat) (s := (X.rooms.at i).name) Tryd.underlying34 rfl Tryd.underlying26 (by kernel_rfl) Tryd.underlying25 rfl (by kernel_rfl) Tryd.underlying9 (by kernel_rfl) (by omega) (by decide) hd0 (Land.rname_at i0 i1)); simp only [Rows.uptoBulk] at a; omega); exact Land.tiny_of k1 k2 k3) (by have a := bulk_lit (str_field (i := 4) (o := 4) (s := o.second) Tryd.underlying36 rfl Tryd.underlying9 (by kernel_rfl) hd2 rfl); omega) (by have a := bulk_lit (str_field (i := 3) (o := 3) (s := o.name) Tryd.underlying36 rfl Tryd.underlying9 (by kernel_rfl) hd2 rfl); omega) (by have a := bulk_lit (str_field (i := 5) (o := 5) (s := o.text) Tryd.underlying36 rfl Tryd.underlying9 (by kernel_rfl) hd2 rfl); omega) W (gv_strs hL mem_laid_inglenook_words_verbs (by kernel_rfl) (by kernel_rfl) Tryd.underlying92 Tryd.underlying9 (by kernel_rfl) (by kernel_rfl)) (gve hL mem_laid_strconv_ErrSyntax rfl (by kernel_rfl) (by kernel_rfl) Tryd.underlying72) (gve hL mem_laid_strconv_ErrRange rfl (by kernel_rfl) (by kernel_rfl) Tryd.underlying72) (gv_ints hL mem_laid_internal_strconv_uint64pow10 (by kernel_rfl) (by kernel_rfl) Tryd.underlying115 Tryd.underlying107 (by kernel_rfl) (by kernel_rfl))
theorem rulesFar_said : Rows.RulesFarUptoSaid :=
  OpenClaim.holds_of_cond 6 Tryd.f6 rfl rfl rfl rfl rfl rfl rfl ⟨rfl, rfl, rfl, rfl, rfl⟩ rfl rfl rfl rfl rfl (by kernel_rfl) Tryd.func6 (by kernel_rfl)
    (of_decide_eq_true (by kernel_rfl)) (by unfold Func.isWrapper; first | (rw [if_pos (by decide +kernel)]; kernel_rfl) | (rw [if_neg (by decide +kernel)]; exact ⟨rfl, rfl⟩))
    (fun os started H enc _ F => by rw [OpenClaim.pre_eq_preRow]; exact rulesFar_lifted os started H enc F)
theorem plainArgs (f : FuncId) (fn : Func) (hf : Tryd.pinned.checked.prog.funcNamed "inglenook/inglenookkeep.RulesFar" = some f) (hfn : Tryd.pinned.checked.prog.funcs[f]? = some fn) :
    true = Tryd.pinned.checked.prog.looks [] ∧ ∀ (j : Nat) t, fn.params[j]? = some t → Tryd.pinned.checked.prog.wantsStandIn t = false := by
  obtain rfl : f = 6 := Option.some.inj ((show Tryd.prog.funcNamed "inglenook/inglenookkeep.RulesFar" = some 6 by kernel_rfl).symm.trans hf) |>.symm
  obtain rfl : fn = Tryd.f6 := (Option.some.inj (Tryd.func6.symm.trans hfn)).symm
  refine ⟨by kernel_rfl, fun j t ht => ?_⟩
  rw [Tryd.params6] at ht
  have hm : t ∈ [34, 3, 36, 3] := by simpa using Array.mem_of_getElem? ht
  have hall : ([34, 3, 36, 3].all fun u => !Tryd.prog.wantsStandIn u) = true := by kernel_rfl
  exact (show Tryd.prog.wantsStandIn t = false by simpa using List.all_eq_true.1 hall t hm)
theorem rulesFar_holds : Rows.RulesFarUptoCardSaid :=
  Claim7.holds_tied_plain_at .later [] _ _ _ _ rulesFar_said (fun _ h => by cases h) (by kernel_rfl) (fun _ h => by cases h) rulesFarUpto_row_tie rfl ⟨rfl, rfl⟩ (by kernel_rfl) rfl plainArgs (by kernel_rfl)
end Go.Proofs.YthaobbemigbcgaaDoor
