/- For every input the law RulesKeep returns true. No condition. -/
import Derived.Test.YthaobbemigbcgaaDoorCards
import Derived.Test.YthaobbemigbcgaaDoorTie
import Derived.Deep.DeepHandedRow
import Derived.Test.YthaobbemigbcgaaDoorRows
import Derived.Test.YthaobbemigbcgaaDoorRulesKeepWalks
import Derived.Test.YthaobbemigbcgaaDoorRulesKeepWalks2
import Derived.Test.YthaobbemigbcgaaDoorRulesKeepWalks3
import Derived.Test.YthaobbemigbcgaaDoorRulesKeepWalks4
import Derived.Test.YthaobbemigbcgaaDoorRulesKeepEc3
import Derived.Test.YthaobbemigbcgaaDoorRulesKeepRa1
import Derived.Test.YthaobbemigbcgaaDoorRulesKeepRb1
set_option linter.unusedSimpArgs false
set_option linter.unusedVariables false
set_option maxRecDepth 100000
set_option maxHeartbeats 1000000
namespace Go.Proofs.YthaobbemigbcgaaDoor
open Go Go.Ing Go.RowKit Go.ChangeShapes Go.WideShapes Go.ChangeAt
theorem own : ownKnob Tryd.prog.godebug = none := by kernel_rfl
theorem laidOut : laidOutB Tryd.prog = true := by kernel_rfl
theorem ld_laid_inglenook_words_verbs : (Rows.laid_inglenook_words_verbs : DataW Unit) = strData Land.verbs := by kernel_rfl
theorem mem_laid_inglenook_words_verbs : ("inglenook/words.verbs", (strData Land.verbs : DataW Unit)) ∈ Rows.rulesKeepRow.laid := ld_laid_inglenook_words_verbs ▸ (.tail _ (.tail _ (.tail _ (.tail _ (.tail _ (.head _))))))
theorem mem_laid_strconv_ErrSyntax : ("strconv.ErrSyntax", (Rows.laid_strconv_ErrSyntax : DataW Unit)) ∈ Rows.rulesKeepRow.laid := .tail _ (.tail _ (.tail _ (.tail _ (.head _))))
theorem mem_laid_strconv_ErrRange : ("strconv.ErrRange", (Rows.laid_strconv_ErrRange : DataW Unit)) ∈ Rows.rulesKeepRow.laid := .tail _ (.tail _ (.tail _ (.head _)))
theorem dc9 {H : Type} {enc : TypeId × Value → H} {w : World} : Dc H enc Tryd.prog w (encS) wfS 9 := Dc_string Tryd.underlying9
theorem dc4 {H : Type} {enc : TypeId × Value → H} {w : World} : Dc H enc Tryd.prog w (encB) wfB 4 := Dc_bool Tryd.underlying4
theorem dc3 {H : Type} {enc : TypeId × Value → H} {w : World} : Dc H enc Tryd.prog w (encI) wfI 3 := Dc_int Tryd.underlying3
theorem dc22 {H : Type} {enc : TypeId × Value → H} {w : World} : Dc H enc Tryd.prog w (encA (n := 6) encI) (wfA wfI) 22 := Dc_arr (sz := 1) Tryd.underlying22 (by kernel_rfl) (by kernel_rfl) dc3
theorem dc23 {H : Type} {enc : TypeId × Value → H} {w : World} : Dc H enc Tryd.prog w (encA (n := 6) encB) (wfA wfB) 23 := Dc_arr (sz := 1) Tryd.underlying23 (by kernel_rfl) (by kernel_rfl) dc4
theorem dc25 {H : Type} {enc : TypeId × Value → H} {w : World} : Dc H enc Tryd.prog w (Room.enc) Room.wf 25 := Room.dc Tryd.underlying25 (by kernel_rfl) rfl (by kernel_rfl) dc9 rfl (by kernel_rfl) dc4 rfl (by kernel_rfl) dc22 rfl (by kernel_rfl) dc23
theorem dc26 {H : Type} {enc : TypeId × Value → H} {w : World} : Dc H enc Tryd.prog w (encA (n := 6) Room.enc) (wfA Room.wf) 26 := Dc_arr (sz := 14) Tryd.underlying26 (by kernel_rfl) (by kernel_rfl) dc25
theorem dc28 {H : Type} {enc : TypeId × Value → H} {w : World} : Dc H enc Tryd.prog w (Thing.enc) Thing.wf 28 := Thing.dc Tryd.underlying28 (by kernel_rfl) rfl (by kernel_rfl) dc9 rfl (by kernel_rfl) dc3 rfl (by kernel_rfl) dc3 rfl (by kernel_rfl) dc3 rfl (by kernel_rfl) dc4
theorem dc29 {H : Type} {enc : TypeId × Value → H} {w : World} : Dc H enc Tryd.prog w (encA (n := 9) Thing.enc) (wfA Thing.wf) 29 := Dc_arr (sz := 5) Tryd.underlying29 (by kernel_rfl) (by kernel_rfl) dc28
theorem dc31 {H : Type} {enc : TypeId × Value → H} {w : World} : Dc H enc Tryd.prog w (Being.enc) Being.wf 31 := Being.dc Tryd.underlying31 (by kernel_rfl) rfl (by kernel_rfl) dc9 rfl (by kernel_rfl) dc4 rfl (by kernel_rfl) dc4 rfl (by kernel_rfl) dc3 rfl (by kernel_rfl) dc3 rfl (by kernel_rfl) dc3
theorem dc32 {H : Type} {enc : TypeId × Value → H} {w : World} : Dc H enc Tryd.prog w (encA (n := 6) Being.enc) (wfA Being.wf) 32 := Dc_arr (sz := 6) Tryd.underlying32 (by kernel_rfl) (by kernel_rfl) dc31
theorem dc34 {H : Type} {enc : TypeId × Value → H} {w : World} : Dc H enc Tryd.prog w (Land.enc) Land.wf 34 := Land.dc Tryd.underlying34 (by kernel_rfl) rfl (by kernel_rfl) dc26 rfl (by kernel_rfl) dc29 rfl (by kernel_rfl) dc32
theorem dc36 {H : Type} {enc : TypeId × Value → H} {w : World} : Dc H enc Tryd.prog w (Order.enc) Order.wf 36 := Order.dc Tryd.underlying36 (by kernel_rfl) rfl (by kernel_rfl) dc3 rfl (by kernel_rfl) dc3 rfl (by kernel_rfl) dc4 rfl (by kernel_rfl) dc9 rfl (by kernel_rfl) dc9 rfl (by kernel_rfl) dc9
theorem keep_RulesKeep_spec (X : Land) (b : Int) (o : Order) (hw : X.Brief) (hu : o.second.length ≤ 140737488351232) (hm : o.name.length ≤ 140737488351232) (w : World) (gl0 : GV 0 Land.verbsV w) (gl1 : GVE 3 w) (gl2 : GVE 4 w) : Ret Tryd.prog 3 #[.agg X.enc.toArray, .int .i64 b, .agg o.enc.toArray] w fun v w' => v = .bool true ∧ Keep w w' := by
 refine Ret_body [] [] Tryd.func3 rfl rfl rfl (St.start w []) ?_
 refine G_seq ?_
 refine G_region ?_
 refine GL_box rfl rfl rfl (fun b1 => ?_)
 refine GL_box rfl rfl rfl (fun b2 => ?_)
 refine GL_step rfl (PS_assign rfl) ?_
 refine GL_nil ?_
 refine GQ_sub (.cons (k := 1) rfl (.cons (k := 3) rfl (.cons (k := 5) rfl (.nil _)))) ?_
 refine GQ_then ?_
 refine G_seq ?_
 refine G_region ?_
 refine GL_step rfl (PS_loadA rfl tya34 (.tail _ (.head _)) (Lens.id Land.fl.len Land.fl.one) rfl) ?_
 refine GL_step rfl (PS_move rfl) ?_
 refine GL_step rfl (PS_loadA rfl tya36 (.head _) (Lens.id Order.fl.len Order.fl.one) rfl) ?_
 refine GL_callR rfl cf7 (.cons rfl (.cons rfl (.cons rfl .nil))) .nil (rules_Do_spec X b o hw hu hm) (fun w hS => ⟨gl0.pull (by simp) hS .nil, gl1.pull (by simp) hS .nil, gl2.pull (by simp) hS .nil⟩) (fun v1 B hv => ?_)
 obtain ⟨y2, rfl, y3, rfl⟩ := hv
 refine GL_step rfl (PS_move rfl) ?_
 refine GL_step rfl (PS_extract rfl rfl) ?_
 refine GL_step rfl (PS_extract rfl rfl) ?_
 refine GL_step rfl (PS_extract rfl rfl) ?_
 refine GL_alloc rfl zv34 rfl (fun b3 => ?_)
 refine GL_unit (PU_store (Lens.id Land.fl.len Land.fl.one) rfl rfl rfl sz34 rfl .head) ?_
 refine GL_step rfl (PS_assign rfl) ?_
 refine GL_step rfl (PS_assign rfl) ?_
 refine GL_nil ?_
 refine GQ_sub (.cons (k := 1) rfl (.cons (k := 3) rfl (.cons (k := 7) rfl (.cons (k := 8) rfl (.cons (k := 9) rfl (.nil _)))))) ?_
 refine GQ_then ?_
 refine G_seq ?_
 refine G_seq ?_
 refine G_region ?_
 refine GL_step rfl (PS_move rfl) ?_
 refine GL_step rfl (PS_neq rfl rfl) ?_
 refine GL_step rfl (PS_move rfl) ?_
 refine GL_pgf (t := 27) rfl rfl rfl (fun q => PC_of cf8 .nil (fun w hS => keep_acts_spec w (gl0.st hS) (gl1.st hS) (gl2.st hS))) ?_
 refine GL_gf (t := 27) rfl rfl rfl (fun q => PS_not (cvE rfl (by rw [q]; rfl))) ?_
 refine GL_step rfl (PS_or rfl rfl (fun h => by rw [h]; rfl)) ?_
 refine GL_nil ?_
 refine GQ_sub (.cons (k := 1) rfl (.cons (k := 3) rfl (.cons (k := 7) rfl (.cons (k := 8) rfl (.cons (k := 30) rfl (.nil _)))))) ?_
 refine GQ_then ?_
 refine G_cond rfl (fun c1 => ?_) (fun c1 => ?_)
 ·
  have c1p := kz c1
  have hz : (Turn.doR X b o).2.2 ≠ 0 := by simpa using c1
  obtain ⟨hk1, hk2⟩ := Turn.do_bad hz
  refine G_seq ?_
  refine G_region ?_
  refine GL_step rfl (PS_loadA rfl tya34 (.head _) (Lens.id Land.fl.len Land.fl.one) rfl) ?_
  refine GL_step rfl (PS_loadA rfl tya34 (.tail _ (.tail _ (.tail _ (.head _)))) (Lens.id Land.fl.len Land.fl.one) rfl) ?_
  refine GL_step rfl (PS_eql_agg eq34 (by decide) (by kernel_rfl) rfl rfl) ?_
  refine GL_step rfl (PS_move rfl) ?_
  refine GL_gt (t := 34) rfl rfl rfl (fun q => PS_move rfl) ?_
  refine GL_gt (t := 34) rfl rfl rfl (fun q => PS_len_slice rfl Tryd.underlying37 (cvE rfl q)) ?_
  refine GL_gt (t := 34) rfl rfl rfl (fun q => PS_eql (cvE rfl q) rfl) ?_
  refine GL_step rfl (PS_and rfl rfl (fun h => h)) ?_
  refine GL_step rfl (PS_move rfl) ?_
  refine GL_pgt (t := 39) rfl rfl rfl (fun q => PC_of cf8 .nil (fun w hS => keep_acts_spec w (gl0.st hS) (gl1.st hS) (gl2.st hS))) ?_
  refine GL_step rfl (PS_and rfl rfl (fun h => h)) ?_
  refine GL_step rfl (PS_assign rfl) ?_
  refine GL_nil ?_
  refine GQ_sub (.cons (k := 6) rfl (.nil _)) ?_
  refine GQ_then ?_
  refine G_ret ?_
  refine GQ_then_ret ?_
  refine GQ_ret rfl (.tmp rfl .nil) ?_
  intro w1 hS; refine ⟨?_, hS.toKeep⟩; exact congrArg Value.bool (by rw [hk1, y3, hk2]; simp)
 have c1p := kz c1
 have hz : (Turn.doR X b o).2.2 = 0 := by simpa using c1
 obtain ⟨hkg, hks⟩ := Turn.keeps hw hz
 refine G_skip ?_
 refine GQ_sub (.cons (k := 1) rfl (.cons (k := 3) rfl (.cons (k := 7) rfl (.nil _)))) ?_
 refine GQ_then ?_
 refine G_seq ?_
 refine G_seq ?_
 refine G_region ?_
 refine GL_step rfl (PS_loadA rfl tya34 (.head _) (Lens.id Land.fl.len Land.fl.one) rfl) ?_
 refine GL_pure rfl cf9 (.cons rfl .nil) (fun w hS => land_Good_spec _ w) ?_
 refine GL_step rfl (PS_not rfl) ?_
 refine GL_nil ?_
 refine GQ_sub (.cons (k := 1) rfl (.cons (k := 3) rfl (.cons (k := 7) rfl (.cons (k := 44) rfl (.nil _))))) ?_
 refine GQ_then ?_
 refine G_cond rfl (fun c2 => ?_) (fun c2 => ?_)
 ·
  have c2p := kz c2
  refine G_seq ?_
  refine G_region ?_
  refine GL_step rfl (PS_assign rfl) ?_
  refine GL_nil ?_
  refine GQ_sub (.cons (k := 6) rfl (.nil _)) ?_
  refine GQ_then ?_
  refine G_ret ?_
  refine GQ_then_ret ?_
  refine GQ_ret rfl (.tmp rfl .nil) ?_
  exfalso
  rw [hkg] at c2
  exact absurd c2 (by decide)
 have c2p := kz c2
 refine G_skip ?_
 refine GQ_sub (.cons (k := 1) rfl (.cons (k := 3) rfl (.cons (k := 7) rfl (.nil _)))) ?_
 refine GQ_then ?_
 refine G_seq ?_
 refine G_seq ?_
 refine G_region ?_
 refine GL_step rfl (PS_move rfl) ?_
 refine GL_nil ?_
 refine GQ_then ?_
 refine G_block ?_
 refine G_subF (.cons (k := 45) rfl (.cons (k := 1) rfl (.cons (k := 3) rfl (.cons (k := 7) rfl (.nil _))))) ?_
 refine G_loop1_ (fun (k : Int) => 0 ≤ k ∧ k ≤ 9) (fun (k : Int) => (9 - k).toNat) (fun (k : Int) => [(45, .int .i64 k)]) (fun (k : Int) => []) (0) ?_ rfl rfl (fun k hI1 => ?_)
 · exact ⟨by omega, by omega⟩
 obtain ⟨hI11, hI12⟩ := hI1
 refine G_seq ?_
 refine G_region ?_
 refine GL_step rfl (PS_lss rfl rfl) ?_
 refine GL_nil ?_
 refine GQ_then ?_
 refine G_seq ?_
 refine G_cond rfl (fun c3 => ?_) (fun c3 => ?_)
 ·
  have c3p := kz c3
  refine G_skip ?_
  refine GQ_sub (.cons (k := 1) rfl (.cons (k := 3) rfl (.cons (k := 7) rfl (.cons (k := 45) rfl (.nil _))))) ?_
  refine GQ_then ?_
  refine G_seq ?_
  refine G_block ?_
  refine G_seq ?_
  refine G_region ?_
  refine GL_step rfl (PS_move rfl) ?_
  refine GL_step rfl (PS_assign rfl) ?_
  refine GL_nil ?_
  refine GQ_sub (.cons (k := 1) rfl (.cons (k := 3) rfl (.cons (k := 7) rfl (.cons (k := 10) rfl (.cons (k := 45) rfl (.nil _)))))) ?_
  refine GQ_then ?_
  refine G_seq ?_
  refine G_planN (N := 12) [0, 0, 3, 7, 0, 0, 48, 112, 0, 0, 783, 2047] mix (by kernel_rfl) rfl ?_
  refine Plan_float 0 rfl rfl (by kernel_rfl) (OK_s (EX_s (PS_move rfl))) ?_
  refine Plan_float 1 rfl rfl (by kernel_rfl) (OK_s (EX_s (PS_fieldAddr fa34_1 rfl))) ?_
  refine Plan_float 2 rfl rfl (by kernel_rfl) (OK_s (EX_s (PS_indexAddr ia29 rfl rfl (by omega) (by omega)))) ?_
  refine Plan_float 3 rfl rfl (by kernel_rfl) (OK_s (EX_s (PS_loadA rfl tya28 (.tail _ (.tail _ (.tail _ (.head _)))) (Land.l1.comp (Lens.arr (n := 9) Thing.fl (by omega) (by omega))) rfl))) ?_
  refine Plan_float 4 rfl rfl (by kernel_rfl) (OK_s (EX_s (PS_move rfl))) ?_
  refine Plan_float 5 rfl rfl (by kernel_rfl) (OK_s (EX_s (PS_fieldAddr fa34_1 rfl))) ?_
  refine Plan_float 6 rfl rfl (by kernel_rfl) (OK_s (EX_s (PS_indexAddr ia29 rfl rfl (by omega) (by omega)))) ?_
  refine Plan_float 7 rfl rfl (by kernel_rfl) (OK_s (EX_s (PS_loadA rfl tya28 (.head _) (Land.l1.comp (Lens.arr (n := 9) Thing.fl (by omega) (by omega))) rfl))) ?_
  refine Plan_two 8 9 rfl rfl (by kernel_rfl) ?_ ?_
  ·
   refine GL_alloc rfl zv28 rfl (fun b4 => ?_)
   refine GL_hand rfl ⟨?_, ?_⟩
   · exact (Pend_okv rfl (OK_s (EX_s (PS_loadA rfl tya28 (.tail _ (.head _)) (Land.l1.comp (Lens.arr (n := 9) Thing.fl (by omega) (by omega))) rfl))) rfl rfl (Pend_okv rfl (OK_s (EX_s (PS_indexAddr ia29 rfl rfl (by omega) (by omega)))) rfl rfl (Pend_okv rfl (OK_s (EX_s (PS_fieldAddr fa34_1 rfl))) rfl rfl (Pend_okv rfl (OK_s (EX_s (PS_move rfl))) rfl rfl (Pend_okv rfl (OK_s (EX_s (PS_loadA rfl tya28 (.tail _ (.tail _ (.tail _ (.tail _ (.head _))))) (Land.l1.comp (Lens.arr (n := 9) Thing.fl (by omega) (by omega))) rfl))) rfl rfl (Pend_okv rfl (OK_s (EX_s (PS_indexAddr ia29 rfl rfl (by omega) (by omega)))) rfl rfl (Pend_okv rfl (OK_s (EX_s (PS_fieldAddr fa34_1 rfl))) rfl rfl (Pend_okv rfl (OK_s (EX_s (PS_move rfl))) rfl rfl Pend_nil))))))))
   refine Plan_chain 9 rfl (by kernel_rfl) ?_
   refine GL_alloc rfl zv28 rfl (fun b5 => ?_)
   refine GL_hand rfl ⟨?_, ?_⟩
   · exact (Pend_okv rfl (OK_s (EX_s (PS_loadA rfl tya28 (.tail _ (.tail _ (.head _))) (Land.l1.comp (Lens.arr (n := 9) Thing.fl (by omega) (by omega))) rfl))) rfl rfl (Pend_okv rfl (OK_s (EX_s (PS_indexAddr ia29 rfl rfl (by omega) (by omega)))) rfl rfl (Pend_okv rfl (OK_s (EX_s (PS_fieldAddr fa34_1 rfl))) rfl rfl (Pend_okv rfl (OK_s (EX_s (PS_move rfl))) rfl rfl (Pend_okv rfl (OK_s (EX_s (PS_loadA rfl tya28 (.tail _ (.tail _ (.tail _ (.tail _ (.tail _ (.head _)))))) (Land.l1.comp (Lens.arr (n := 9) Thing.fl (by omega) (by omega))) rfl))) rfl rfl (Pend_okv rfl (OK_s (EX_s (PS_indexAddr ia29 rfl rfl (by omega) (by omega)))) rfl rfl (Pend_okv rfl (OK_s (EX_s (PS_fieldAddr fa34_1 rfl))) rfl rfl (Pend_okv rfl (OK_s (EX_s (PS_move rfl))) rfl rfl Pend_nil))))))))
   refine Plan_chain 10 rfl (by kernel_rfl) ?_
   refine GL_unit (PU_store (Lens.id Thing.fl.len Thing.fl.one) rfl rfl rfl sz28 rfl (.tail .head)) ?_
   refine GL_hand0 rfl ⟨?_, ?_⟩
   · exact (Pend_okv rfl (OK_s (EX_s (PS_loadA rfl tya28 (.tail _ (.tail _ (.head _))) (Land.l1.comp (Lens.arr (n := 9) Thing.fl (by omega) (by omega))) rfl))) rfl rfl (Pend_okv rfl (OK_s (EX_s (PS_indexAddr ia29 rfl rfl (by omega) (by omega)))) rfl rfl (Pend_okv rfl (OK_s (EX_s (PS_fieldAddr fa34_1 rfl))) rfl rfl (Pend_okv rfl (OK_s (EX_s (PS_move rfl))) rfl rfl (Pend_skip (by kernel_rfl) (Pend_skip (by kernel_rfl) (Pend_skip (by kernel_rfl) (Pend_skip (by kernel_rfl) Pend_nil))))))))
   refine Plan_chain 11 rfl (by kernel_rfl) ?_
   refine GL_unit (PU_store (Lens.id Thing.fl.len Thing.fl.one) rfl rfl rfl sz28 rfl .head) ?_
   refine GL_hand0 rfl ⟨?_, ?_⟩
   · exact (Pend_skip (by kernel_rfl) (Pend_skip (by kernel_rfl) (Pend_skip (by kernel_rfl) (Pend_skip (by kernel_rfl) (Pend_skip (by kernel_rfl) (Pend_skip (by kernel_rfl) (Pend_skip (by kernel_rfl) (Pend_skip (by kernel_rfl) Pend_nil))))))))
   refine Plan_end (by kernel_rfl) ?_
   refine GQ_sub (.cons (k := 1) rfl (.cons (k := 3) rfl (.cons (k := 7) rfl (.cons (k := 11) rfl (.cons (k := 12) rfl (.cons (k := 45) rfl (.nil _))))))) ?_
   refine GQ_then ?_
   refine G_seq ?_
   refine G_seq ?_
   refine G_region ?_
   refine GL_step rfl (PS_fieldAddr fa28_0 rfl) ?_
   refine GL_step rfl (PS_load rfl tys9 (.tail _ (.head _)) Thing.l0 rfl rfl) ?_
   refine GL_step rfl (PS_fieldAddr fa28_0 rfl) ?_
   refine GL_step rfl (PS_load rfl tys9 (.head _) Thing.l0 rfl rfl) ?_
   refine GL_step rfl (PS_neq_str rfl rfl) ?_
   refine GL_step rfl (PS_move rfl) ?_
   refine GL_gf (t := 61) rfl rfl rfl (fun q => PS_fieldAddr fa28_1 rfl) ?_
   refine GL_gf (t := 61) rfl rfl rfl (fun q => PS_load (cvE rfl (by rw [q]; rfl)) tys3 (.tail _ (.head _)) Thing.l1 rfl rfl) ?_
   refine GL_gf (t := 61) rfl rfl rfl (fun q => PS_fieldAddr fa28_1 rfl) ?_
   refine GL_gf (t := 61) rfl rfl rfl (fun q => PS_load (cvE rfl (by rw [q]; rfl)) tys3 (.head _) Thing.l1 rfl rfl) ?_
   refine GL_gf (t := 61) rfl rfl rfl (fun q => PS_neq (cvE rfl (by rw [q]; rfl)) (cvE rfl (by rw [q]; rfl))) ?_
   refine GL_step rfl (PS_or rfl rfl (fun h => by rw [h]; rfl)) ?_
   refine GL_nil ?_
   refine GQ_sub (.cons (k := 1) rfl (.cons (k := 3) rfl (.cons (k := 7) rfl (.cons (k := 11) rfl (.cons (k := 12) rfl (.cons (k := 45) rfl (.cons (k := 67) rfl (.nil _)))))))) ?_
   refine GQ_then ?_
   refine G_cond rfl (fun c4 => ?_) (fun c4 => ?_)
   ·
    have c4p := kz c4
    refine G_seq ?_
    refine G_region ?_
    refine GL_step rfl (PS_assign rfl) ?_
    refine GL_nil ?_
    refine GQ_sub (.cons (k := 6) rfl (.nil _)) ?_
    refine GQ_then ?_
    refine G_ret ?_
    refine GQ_then_ret ?_
    refine GQ_block_ret ?_
    refine GQ_then_ret ?_
    refine GQ_then_ret ?_
    refine GQ_block_ret ?_
    refine GQ_then_ret ?_
    refine GQ_ret rfl (.tmp rfl .nil) ?_
    exfalso
    have hs := hks.th k hI11 (by omega)
    rw [hs.1, hs.2] at c4
    simp at c4
   have c4p := kz c4
   refine G_skip ?_
   refine GQ_sub (.cons (k := 1) rfl (.cons (k := 3) rfl (.cons (k := 7) rfl (.cons (k := 11) rfl (.cons (k := 12) rfl (.cons (k := 45) rfl (.nil _))))))) ?_
   refine GQ_then ?_
   refine G_seq ?_
   refine G_region ?_
   refine GL_step rfl (PS_fieldAddr fa28_2 rfl) ?_
   refine GL_step rfl (PS_load rfl tys3 (.tail _ (.head _)) Thing.l2 rfl rfl) ?_
   refine GL_step rfl (PS_eql rfl rfl) ?_
   refine GL_step rfl (PS_move rfl) ?_
   refine GL_gt (t := 71) rfl rfl rfl (fun q => PS_fieldAddr fa28_3 rfl) ?_
   refine GL_gt (t := 71) rfl rfl rfl (fun q => PS_load (cvE rfl q) tys3 (.tail _ (.head _)) Thing.l3 rfl rfl) ?_
   refine GL_gt (t := 71) rfl rfl rfl (fun q => PS_move rfl) ?_
   refine GL_gt (t := 71) rfl rfl rfl (fun q => PS_neq (cvE rfl q) (cvE rfl q)) ?_
   refine GL_step rfl (PS_and rfl rfl (fun h => h)) ?_
   refine GL_step rfl (PS_move rfl) ?_
   refine GL_gt (t := 77) rfl rfl rfl (fun q => PS_loadA rfl tya28 (.tail _ (.head _)) (Lens.id Thing.fl.len Thing.fl.one) rfl) ?_
   refine GL_gt (t := 77) rfl rfl rfl (fun q => PS_loadA rfl tya28 (.head _) (Lens.id Thing.fl.len Thing.fl.one) rfl) ?_
   refine GL_gt (t := 77) rfl rfl rfl (fun q => PS_neq_agg eq28 (by decide) (by kernel_rfl) (cvE rfl q) (cvE rfl q)) ?_
   refine GL_step rfl (PS_and rfl rfl (fun h => h)) ?_
   refine GL_nil ?_
   refine GQ_sub (.cons (k := 1) rfl (.cons (k := 3) rfl (.cons (k := 7) rfl (.cons (k := 45) rfl (.cons (k := 81) rfl (.nil _)))))) ?_
   refine GQ_then ?_
   refine G_cond rfl (fun c5 => ?_) (fun c5 => ?_)
   ·
    have c5p := kz c5
    refine G_seq ?_
    refine G_region ?_
    refine GL_step rfl (PS_assign rfl) ?_
    refine GL_nil ?_
    refine GQ_sub (.cons (k := 6) rfl (.nil _)) ?_
    refine GQ_then ?_
    refine G_ret ?_
    refine GQ_block_ret ?_
    refine GQ_then_ret ?_
    refine GQ_then_ret ?_
    refine GQ_block_ret ?_
    refine GQ_then_ret ?_
    refine GQ_ret rfl (.tmp rfl .nil) ?_
    exfalso
    have hs := hks.own k hI11 (by omega)
    simp at c5
    exact c5.2 (hs c5.1.1 c5.1.2).symm
   have c5p := kz c5
   refine G_skip ?_
   refine GQ_sub (.cons (k := 1) rfl (.cons (k := 3) rfl (.cons (k := 7) rfl (.cons (k := 45) rfl (.nil _))))) ?_
   refine GQ_block ?_
   refine GQ_then ?_
   refine G_region ?_
   refine GL_step rfl (PS_add rfl rfl (IntWalk.i64_in _ (by omega))) ?_
   refine GL_step rfl (PS_move rfl) ?_
   refine GL_nil ?_
   refine GQ_sub (.cons (k := 1) rfl (.cons (k := 3) rfl (.cons (k := 7) rfl (.cons (k := 45) rfl (.nil _))))) ?_
   refine GQ_next1_ (k + 1) ?_ ?_ (.cons (k := 45) rfl (.cons (k := 1) rfl (.cons (k := 3) rfl (.cons (k := 7) rfl (.nil _))))) (.cons _ (.cons _ (.refl _)))
   · exact ⟨by omega, by omega⟩
   · omega
  ·
   refine GL_alloc rfl zv28 rfl (fun b6 => ?_)
   refine GL_hand rfl ⟨?_, ?_⟩
   · exact (Pend_okv rfl (OK_s (EX_s (PS_loadA rfl tya28 (.tail _ (.head _)) (Land.l1.comp (Lens.arr (n := 9) Thing.fl (by omega) (by omega))) rfl))) rfl rfl (Pend_okv rfl (OK_s (EX_s (PS_indexAddr ia29 rfl rfl (by omega) (by omega)))) rfl rfl (Pend_okv rfl (OK_s (EX_s (PS_fieldAddr fa34_1 rfl))) rfl rfl (Pend_okv rfl (OK_s (EX_s (PS_move rfl))) rfl rfl (Pend_okv rfl (OK_s (EX_s (PS_loadA rfl tya28 (.tail _ (.tail _ (.tail _ (.tail _ (.head _))))) (Land.l1.comp (Lens.arr (n := 9) Thing.fl (by omega) (by omega))) rfl))) rfl rfl (Pend_okv rfl (OK_s (EX_s (PS_indexAddr ia29 rfl rfl (by omega) (by omega)))) rfl rfl (Pend_okv rfl (OK_s (EX_s (PS_fieldAddr fa34_1 rfl))) rfl rfl (Pend_okv rfl (OK_s (EX_s (PS_move rfl))) rfl rfl Pend_nil))))))))
   refine Plan_chain 8 rfl (by kernel_rfl) ?_
   refine GL_alloc rfl zv28 rfl (fun b7 => ?_)
   refine GL_hand rfl ⟨?_, ?_⟩
   · exact (Pend_okv rfl (OK_s (EX_s (PS_loadA rfl tya28 (.tail _ (.tail _ (.head _))) (Land.l1.comp (Lens.arr (n := 9) Thing.fl (by omega) (by omega))) rfl))) rfl rfl (Pend_okv rfl (OK_s (EX_s (PS_indexAddr ia29 rfl rfl (by omega) (by omega)))) rfl rfl (Pend_okv rfl (OK_s (EX_s (PS_fieldAddr fa34_1 rfl))) rfl rfl (Pend_okv rfl (OK_s (EX_s (PS_move rfl))) rfl rfl (Pend_okv rfl (OK_s (EX_s (PS_loadA rfl tya28 (.tail _ (.tail _ (.tail _ (.tail _ (.tail _ (.head _)))))) (Land.l1.comp (Lens.arr (n := 9) Thing.fl (by omega) (by omega))) rfl))) rfl rfl (Pend_okv rfl (OK_s (EX_s (PS_indexAddr ia29 rfl rfl (by omega) (by omega)))) rfl rfl (Pend_okv rfl (OK_s (EX_s (PS_fieldAddr fa34_1 rfl))) rfl rfl (Pend_okv rfl (OK_s (EX_s (PS_move rfl))) rfl rfl Pend_nil))))))))
   refine Plan_chain 10 rfl (by kernel_rfl) ?_
   refine GL_unit (PU_store (Lens.id Thing.fl.len Thing.fl.one) rfl rfl rfl sz28 rfl .head) ?_
   refine GL_hand0 rfl ⟨?_, ?_⟩
   · exact (Pend_okv rfl (OK_s (EX_s (PS_loadA rfl tya28 (.tail _ (.tail _ (.head _))) (Land.l1.comp (Lens.arr (n := 9) Thing.fl (by omega) (by omega))) rfl))) rfl rfl (Pend_okv rfl (OK_s (EX_s (PS_indexAddr ia29 rfl rfl (by omega) (by omega)))) rfl rfl (Pend_okv rfl (OK_s (EX_s (PS_fieldAddr fa34_1 rfl))) rfl rfl (Pend_okv rfl (OK_s (EX_s (PS_move rfl))) rfl rfl (Pend_skip (by kernel_rfl) (Pend_skip (by kernel_rfl) (Pend_skip (by kernel_rfl) (Pend_skip (by kernel_rfl) Pend_nil))))))))
   refine Plan_chain 11 rfl (by kernel_rfl) ?_
   refine GL_unit (PU_store (Lens.id Thing.fl.len Thing.fl.one) rfl rfl rfl sz28 rfl (.tail .head)) ?_
   refine GL_hand0 rfl ⟨?_, ?_⟩
   · exact (Pend_skip (by kernel_rfl) (Pend_skip (by kernel_rfl) (Pend_skip (by kernel_rfl) (Pend_skip (by kernel_rfl) (Pend_skip (by kernel_rfl) (Pend_skip (by kernel_rfl) (Pend_skip (by kernel_rfl) (Pend_skip (by kernel_rfl) Pend_nil))))))))
   refine Plan_end (by kernel_rfl) ?_
   refine GQ_sub (.cons (k := 1) rfl (.cons (k := 3) rfl (.cons (k := 7) rfl (.cons (k := 11) rfl (.cons (k := 12) rfl (.cons (k := 45) rfl (.nil _))))))) ?_
   refine GQ_then ?_
   refine G_seq ?_
   refine G_seq ?_
   refine G_region ?_
   refine GL_step rfl (PS_fieldAddr fa28_0 rfl) ?_
   refine GL_step rfl (PS_load rfl tys9 (.head _) Thing.l0 rfl rfl) ?_
   refine GL_step rfl (PS_fieldAddr fa28_0 rfl) ?_
   refine GL_step rfl (PS_load rfl tys9 (.tail _ (.head _)) Thing.l0 rfl rfl) ?_
   refine GL_step rfl (PS_neq_str rfl rfl) ?_
   refine GL_step rfl (PS_move rfl) ?_
   refine GL_gf (t := 61) rfl rfl rfl (fun q => PS_fieldAddr fa28_1 rfl) ?_
   refine GL_gf (t := 61) rfl rfl rfl (fun q => PS_load (cvE rfl (by rw [q]; rfl)) tys3 (.head _) Thing.l1 rfl rfl) ?_
   refine GL_gf (t := 61) rfl rfl rfl (fun q => PS_fieldAddr fa28_1 rfl) ?_
   refine GL_gf (t := 61) rfl rfl rfl (fun q => PS_load (cvE rfl (by rw [q]; rfl)) tys3 (.tail _ (.head _)) Thing.l1 rfl rfl) ?_
   refine GL_gf (t := 61) rfl rfl rfl (fun q => PS_neq (cvE rfl (by rw [q]; rfl)) (cvE rfl (by rw [q]; rfl))) ?_
   refine GL_step rfl (PS_or rfl rfl (fun h => by rw [h]; rfl)) ?_
   refine GL_nil ?_
   refine GQ_sub (.cons (k := 1) rfl (.cons (k := 3) rfl (.cons (k := 7) rfl (.cons (k := 11) rfl (.cons (k := 12) rfl (.cons (k := 45) rfl (.cons (k := 67) rfl (.nil _)))))))) ?_
   refine GQ_then ?_
   refine G_cond rfl (fun c6 => ?_) (fun c6 => ?_)
   ·
    have c6p := kz c6
    refine G_seq ?_
    refine G_region ?_
    refine GL_step rfl (PS_assign rfl) ?_
    refine GL_nil ?_
    refine GQ_sub (.cons (k := 6) rfl (.nil _)) ?_
    refine GQ_then ?_
    refine G_ret ?_
    refine GQ_then_ret ?_
    refine GQ_block_ret ?_
    refine GQ_then_ret ?_
    refine GQ_then_ret ?_
    refine GQ_block_ret ?_
    refine GQ_then_ret ?_
    refine GQ_ret rfl (.tmp rfl .nil) ?_
    exfalso
    have hs := hks.th k hI11 (by omega)
    rw [hs.1, hs.2] at c6
    simp at c6
   have c6p := kz c6
   refine G_skip ?_
   refine GQ_sub (.cons (k := 1) rfl (.cons (k := 3) rfl (.cons (k := 7) rfl (.cons (k := 11) rfl (.cons (k := 12) rfl (.cons (k := 45) rfl (.nil _))))))) ?_
   refine GQ_then ?_
   refine G_seq ?_
   refine G_region ?_
   refine GL_step rfl (PS_fieldAddr fa28_2 rfl) ?_
   refine GL_step rfl (PS_load rfl tys3 (.head _) Thing.l2 rfl rfl) ?_
   refine GL_step rfl (PS_eql rfl rfl) ?_
   refine GL_step rfl (PS_move rfl) ?_
   refine GL_gt (t := 71) rfl rfl rfl (fun q => PS_fieldAddr fa28_3 rfl) ?_
   refine GL_gt (t := 71) rfl rfl rfl (fun q => PS_load (cvE rfl q) tys3 (.head _) Thing.l3 rfl rfl) ?_
   refine GL_gt (t := 71) rfl rfl rfl (fun q => PS_move rfl) ?_
   refine GL_gt (t := 71) rfl rfl rfl (fun q => PS_neq (cvE rfl q) (cvE rfl q)) ?_
   refine GL_step rfl (PS_and rfl rfl (fun h => h)) ?_
   refine GL_step rfl (PS_move rfl) ?_
   refine GL_gt (t := 77) rfl rfl rfl (fun q => PS_loadA rfl tya28 (.head _) (Lens.id Thing.fl.len Thing.fl.one) rfl) ?_
   refine GL_gt (t := 77) rfl rfl rfl (fun q => PS_loadA rfl tya28 (.tail _ (.head _)) (Lens.id Thing.fl.len Thing.fl.one) rfl) ?_
   refine GL_gt (t := 77) rfl rfl rfl (fun q => PS_neq_agg eq28 (by decide) (by kernel_rfl) (cvE rfl q) (cvE rfl q)) ?_
   refine GL_step rfl (PS_and rfl rfl (fun h => h)) ?_
   refine GL_nil ?_
   refine GQ_sub (.cons (k := 1) rfl (.cons (k := 3) rfl (.cons (k := 7) rfl (.cons (k := 45) rfl (.cons (k := 81) rfl (.nil _)))))) ?_
   refine GQ_then ?_
   refine G_cond rfl (fun c7 => ?_) (fun c7 => ?_)
   ·
    have c7p := kz c7
    refine G_seq ?_
    refine G_region ?_
    refine GL_step rfl (PS_assign rfl) ?_
    refine GL_nil ?_
    refine GQ_sub (.cons (k := 6) rfl (.nil _)) ?_
    refine GQ_then ?_
    refine G_ret ?_
    refine GQ_block_ret ?_
    refine GQ_then_ret ?_
    refine GQ_then_ret ?_
    refine GQ_block_ret ?_
    refine GQ_then_ret ?_
    refine GQ_ret rfl (.tmp rfl .nil) ?_
    exfalso
    have hs := hks.own k hI11 (by omega)
    simp at c7
    exact c7.2 (hs c7.1.1 c7.1.2).symm
   have c7p := kz c7
   refine G_skip ?_
   refine GQ_sub (.cons (k := 1) rfl (.cons (k := 3) rfl (.cons (k := 7) rfl (.cons (k := 45) rfl (.nil _))))) ?_
   refine GQ_block ?_
   refine GQ_then ?_
   refine G_region ?_
   refine GL_step rfl (PS_add rfl rfl (IntWalk.i64_in _ (by omega))) ?_
   refine GL_step rfl (PS_move rfl) ?_
   refine GL_nil ?_
   refine GQ_sub (.cons (k := 1) rfl (.cons (k := 3) rfl (.cons (k := 7) rfl (.cons (k := 45) rfl (.nil _))))) ?_
   refine GQ_next1_ (k + 1) ?_ ?_ (.cons (k := 45) rfl (.cons (k := 1) rfl (.cons (k := 3) rfl (.cons (k := 7) rfl (.nil _))))) (.cons _ (.cons _ (.refl _)))
   · exact ⟨by omega, by omega⟩
   · omega
 have c3p := kz c3
 refine G_exit ?_
 refine GQ_then_exit ?_
 refine GQ_then_exit ?_
 refine GQ_block_exit ?_
 refine GQ_sub (.cons (k := 1) rfl (.cons (k := 3) rfl (.cons (k := 7) rfl (.nil _)))) ?_
 refine GQ_then ?_
 refine G_seq ?_
 refine G_seq ?_
 refine G_region ?_
 refine GL_step rfl (PS_move rfl) ?_
 refine GL_nil ?_
 refine GQ_then ?_
 refine G_block ?_
 refine G_subF (.cons (k := 83) rfl (.cons (k := 1) rfl (.cons (k := 3) rfl (.cons (k := 7) rfl (.nil _))))) ?_
 refine G_loop1_ (fun (k : Int) => 0 ≤ k ∧ k ≤ 6) (fun (k : Int) => (6 - k).toNat) (fun (k : Int) => [(83, .int .i64 k)]) (fun (k : Int) => []) (0) ?_ rfl rfl (fun k hI2 => ?_)
 · exact ⟨by omega, by omega⟩
 obtain ⟨hI21, hI22⟩ := hI2
 refine G_seq ?_
 refine G_region ?_
 refine GL_step rfl (PS_lss rfl rfl) ?_
 refine GL_nil ?_
 refine GQ_then ?_
 refine G_seq ?_
 refine G_cond rfl (fun c8 => ?_) (fun c8 => ?_)
 ·
  have c8p := kz c8
  refine G_skip ?_
  refine GQ_sub (.cons (k := 1) rfl (.cons (k := 3) rfl (.cons (k := 7) rfl (.cons (k := 83) rfl (.nil _))))) ?_
  refine GQ_then ?_
  refine G_seq ?_
  refine G_block ?_
  refine G_seq ?_
  refine G_region ?_
  refine GL_step rfl (PS_move rfl) ?_
  refine GL_step rfl (PS_assign rfl) ?_
  refine GL_nil ?_
  refine GQ_sub (.cons (k := 1) rfl (.cons (k := 3) rfl (.cons (k := 7) rfl (.cons (k := 13) rfl (.cons (k := 83) rfl (.nil _)))))) ?_
  refine GQ_then ?_
  refine G_seq ?_
  refine G_planN (N := 12) [0, 0, 3, 7, 0, 0, 48, 112, 0, 0, 783, 2047] mix (by kernel_rfl) rfl ?_
  refine Plan_float 0 rfl rfl (by kernel_rfl) (OK_s (EX_s (PS_move rfl))) ?_
  refine Plan_float 1 rfl rfl (by kernel_rfl) (OK_s (EX_s (PS_fieldAddr fa34_2 rfl))) ?_
  refine Plan_float 2 rfl rfl (by kernel_rfl) (OK_s (EX_s (PS_indexAddr ia32 rfl rfl (by omega) (by omega)))) ?_
  refine Plan_float 3 rfl rfl (by kernel_rfl) (OK_s (EX_s (PS_loadA rfl tya31 (.tail _ (.tail _ (.tail _ (.head _)))) (Land.l2.comp (Lens.arr (n := 6) Being.fl (by omega) (by omega))) rfl))) ?_
  refine Plan_float 4 rfl rfl (by kernel_rfl) (OK_s (EX_s (PS_move rfl))) ?_
  refine Plan_float 5 rfl rfl (by kernel_rfl) (OK_s (EX_s (PS_fieldAddr fa34_2 rfl))) ?_
  refine Plan_float 6 rfl rfl (by kernel_rfl) (OK_s (EX_s (PS_indexAddr ia32 rfl rfl (by omega) (by omega)))) ?_
  refine Plan_float 7 rfl rfl (by kernel_rfl) (OK_s (EX_s (PS_loadA rfl tya31 (.head _) (Land.l2.comp (Lens.arr (n := 6) Being.fl (by omega) (by omega))) rfl))) ?_
  refine Plan_two 8 9 rfl rfl (by kernel_rfl) ?_ ?_
  ·
   refine GL_alloc rfl zv31 rfl (fun b8 => ?_)
   refine GL_hand rfl ⟨?_, ?_⟩
   · exact (Pend_okv rfl (OK_s (EX_s (PS_loadA rfl tya31 (.tail _ (.head _)) (Land.l2.comp (Lens.arr (n := 6) Being.fl (by omega) (by omega))) rfl))) rfl rfl (Pend_okv rfl (OK_s (EX_s (PS_indexAddr ia32 rfl rfl (by omega) (by omega)))) rfl rfl (Pend_okv rfl (OK_s (EX_s (PS_fieldAddr fa34_2 rfl))) rfl rfl (Pend_okv rfl (OK_s (EX_s (PS_move rfl))) rfl rfl (Pend_okv rfl (OK_s (EX_s (PS_loadA rfl tya31 (.tail _ (.tail _ (.tail _ (.tail _ (.head _))))) (Land.l2.comp (Lens.arr (n := 6) Being.fl (by omega) (by omega))) rfl))) rfl rfl (Pend_okv rfl (OK_s (EX_s (PS_indexAddr ia32 rfl rfl (by omega) (by omega)))) rfl rfl (Pend_okv rfl (OK_s (EX_s (PS_fieldAddr fa34_2 rfl))) rfl rfl (Pend_okv rfl (OK_s (EX_s (PS_move rfl))) rfl rfl Pend_nil))))))))
   refine Plan_chain 9 rfl (by kernel_rfl) ?_
   refine GL_alloc rfl zv31 rfl (fun b9 => ?_)
   refine GL_hand rfl ⟨?_, ?_⟩
   · exact (Pend_okv rfl (OK_s (EX_s (PS_loadA rfl tya31 (.tail _ (.tail _ (.head _))) (Land.l2.comp (Lens.arr (n := 6) Being.fl (by omega) (by omega))) rfl))) rfl rfl (Pend_okv rfl (OK_s (EX_s (PS_indexAddr ia32 rfl rfl (by omega) (by omega)))) rfl rfl (Pend_okv rfl (OK_s (EX_s (PS_fieldAddr fa34_2 rfl))) rfl rfl (Pend_okv rfl (OK_s (EX_s (PS_move rfl))) rfl rfl (Pend_okv rfl (OK_s (EX_s (PS_loadA rfl tya31 (.tail _ (.tail _ (.tail _ (.tail _ (.tail _ (.head _)))))) (Land.l2.comp (Lens.arr (n := 6) Being.fl (by omega) (by omega))) rfl))) rfl rfl (Pend_okv rfl (OK_s (EX_s (PS_indexAddr ia32 rfl rfl (by omega) (by omega)))) rfl rfl (Pend_okv rfl (OK_s (EX_s (PS_fieldAddr fa34_2 rfl))) rfl rfl (Pend_okv rfl (OK_s (EX_s (PS_move rfl))) rfl rfl Pend_nil))))))))
   refine Plan_chain 10 rfl (by kernel_rfl) ?_
   refine GL_unit (PU_store (Lens.id Being.fl.len Being.fl.one) rfl rfl rfl sz31 rfl (.tail .head)) ?_
   refine GL_hand0 rfl ⟨?_, ?_⟩
   · exact (Pend_okv rfl (OK_s (EX_s (PS_loadA rfl tya31 (.tail _ (.tail _ (.head _))) (Land.l2.comp (Lens.arr (n := 6) Being.fl (by omega) (by omega))) rfl))) rfl rfl (Pend_okv rfl (OK_s (EX_s (PS_indexAddr ia32 rfl rfl (by omega) (by omega)))) rfl rfl (Pend_okv rfl (OK_s (EX_s (PS_fieldAddr fa34_2 rfl))) rfl rfl (Pend_okv rfl (OK_s (EX_s (PS_move rfl))) rfl rfl (Pend_skip (by kernel_rfl) (Pend_skip (by kernel_rfl) (Pend_skip (by kernel_rfl) (Pend_skip (by kernel_rfl) Pend_nil))))))))
   refine Plan_chain 11 rfl (by kernel_rfl) ?_
   refine GL_unit (PU_store (Lens.id Being.fl.len Being.fl.one) rfl rfl rfl sz31 rfl .head) ?_
   refine GL_hand0 rfl ⟨?_, ?_⟩
   · exact (Pend_skip (by kernel_rfl) (Pend_skip (by kernel_rfl) (Pend_skip (by kernel_rfl) (Pend_skip (by kernel_rfl) (Pend_skip (by kernel_rfl) (Pend_skip (by kernel_rfl) (Pend_skip (by kernel_rfl) (Pend_skip (by kernel_rfl) Pend_nil))))))))
   refine Plan_end (by kernel_rfl) ?_
   refine GQ_sub (.cons (k := 1) rfl (.cons (k := 3) rfl (.cons (k := 7) rfl (.cons (k := 13) rfl (.cons (k := 14) rfl (.cons (k := 15) rfl (.cons (k := 83) rfl (.nil _)))))))) ?_
   refine GQ_then ?_
   refine G_seq ?_
   refine G_region ?_
   refine GL_step rfl (PS_fieldAddr fa31_5 rfl) ?_
   refine GL_unit (PU_store Being.l5 rfl rfl rfl sz3 rfl (.tail .head)) ?_
   refine GL_step rfl (PS_fieldAddr fa31_5 rfl) ?_
   refine GL_unit (PU_store Being.l5 rfl rfl rfl sz3 rfl .head) ?_
   refine GL_nil ?_
   refine GQ_sub (.cons (k := 1) rfl (.cons (k := 3) rfl (.cons (k := 7) rfl (.cons (k := 13) rfl (.cons (k := 14) rfl (.cons (k := 15) rfl (.cons (k := 83) rfl (.nil _)))))))) ?_
   refine GQ_then ?_
   refine G_seq ?_
   refine G_region ?_
   refine GL_step rfl (PS_move rfl) ?_
   refine GL_step rfl (PS_move rfl) ?_
   refine GL_step rfl (PS_neq rfl rfl) ?_
   refine GL_step rfl (PS_move rfl) ?_
   refine GL_gt (t := 99) rfl rfl rfl (fun q => PS_loadA rfl tya31 (.tail _ (.head _)) (Lens.id Being.fl.len Being.fl.one) rfl) ?_
   refine GL_gt (t := 99) rfl rfl rfl (fun q => PS_loadA rfl tya31 (.head _) (Lens.id Being.fl.len Being.fl.one) rfl) ?_
   refine GL_gt (t := 99) rfl rfl rfl (fun q => PS_neq_agg eq31 (by decide) (by kernel_rfl) (cvE rfl q) (cvE rfl q)) ?_
   refine GL_step rfl (PS_and rfl rfl (fun h => h)) ?_
   refine GL_nil ?_
   refine GQ_sub (.cons (k := 1) rfl (.cons (k := 3) rfl (.cons (k := 7) rfl (.cons (k := 83) rfl (.cons (k := 103) rfl (.nil _)))))) ?_
   refine GQ_then ?_
   refine G_cond rfl (fun c9 => ?_) (fun c9 => ?_)
   ·
    have c9p := kz c9
    refine G_seq ?_
    refine G_region ?_
    refine GL_step rfl (PS_assign rfl) ?_
    refine GL_nil ?_
    refine GQ_sub (.cons (k := 6) rfl (.nil _)) ?_
    refine GQ_then ?_
    refine G_ret ?_
    refine GQ_block_ret ?_
    refine GQ_then_ret ?_
    refine GQ_then_ret ?_
    refine GQ_block_ret ?_
    refine GQ_then_ret ?_
    refine GQ_ret rfl (.tmp rfl .nil) ?_
    exfalso
    have hs := hks.be k hI21 (by omega)
    have hc := c9
    rw [Bool.and_eq_true, Bool.not_eq_true', Bool.not_eq_true', decide_eq_false_iff_not, decide_eq_false_iff_not] at hc
    exact hc.2 (hs hc.1).symm
   have c9p := kz c9
   refine G_skip ?_
   refine GQ_sub (.cons (k := 1) rfl (.cons (k := 3) rfl (.cons (k := 7) rfl (.cons (k := 83) rfl (.nil _))))) ?_
   refine GQ_block ?_
   refine GQ_then ?_
   refine G_region ?_
   refine GL_step rfl (PS_add rfl rfl (IntWalk.i64_in _ (by omega))) ?_
   refine GL_step rfl (PS_move rfl) ?_
   refine GL_nil ?_
   refine GQ_sub (.cons (k := 1) rfl (.cons (k := 3) rfl (.cons (k := 7) rfl (.cons (k := 83) rfl (.nil _))))) ?_
   refine GQ_next1_ (k + 1) ?_ ?_ (.cons (k := 83) rfl (.cons (k := 1) rfl (.cons (k := 3) rfl (.cons (k := 7) rfl (.nil _))))) (.cons _ (.cons _ (.refl _)))
   · exact ⟨by omega, by omega⟩
   · omega
  ·
   refine GL_alloc rfl zv31 rfl (fun b10 => ?_)
   refine GL_hand rfl ⟨?_, ?_⟩
   · exact (Pend_okv rfl (OK_s (EX_s (PS_loadA rfl tya31 (.tail _ (.head _)) (Land.l2.comp (Lens.arr (n := 6) Being.fl (by omega) (by omega))) rfl))) rfl rfl (Pend_okv rfl (OK_s (EX_s (PS_indexAddr ia32 rfl rfl (by omega) (by omega)))) rfl rfl (Pend_okv rfl (OK_s (EX_s (PS_fieldAddr fa34_2 rfl))) rfl rfl (Pend_okv rfl (OK_s (EX_s (PS_move rfl))) rfl rfl (Pend_okv rfl (OK_s (EX_s (PS_loadA rfl tya31 (.tail _ (.tail _ (.tail _ (.tail _ (.head _))))) (Land.l2.comp (Lens.arr (n := 6) Being.fl (by omega) (by omega))) rfl))) rfl rfl (Pend_okv rfl (OK_s (EX_s (PS_indexAddr ia32 rfl rfl (by omega) (by omega)))) rfl rfl (Pend_okv rfl (OK_s (EX_s (PS_fieldAddr fa34_2 rfl))) rfl rfl (Pend_okv rfl (OK_s (EX_s (PS_move rfl))) rfl rfl Pend_nil))))))))
   refine Plan_chain 8 rfl (by kernel_rfl) ?_
   refine GL_alloc rfl zv31 rfl (fun b11 => ?_)
   refine GL_hand rfl ⟨?_, ?_⟩
   · exact (Pend_okv rfl (OK_s (EX_s (PS_loadA rfl tya31 (.tail _ (.tail _ (.head _))) (Land.l2.comp (Lens.arr (n := 6) Being.fl (by omega) (by omega))) rfl))) rfl rfl (Pend_okv rfl (OK_s (EX_s (PS_indexAddr ia32 rfl rfl (by omega) (by omega)))) rfl rfl (Pend_okv rfl (OK_s (EX_s (PS_fieldAddr fa34_2 rfl))) rfl rfl (Pend_okv rfl (OK_s (EX_s (PS_move rfl))) rfl rfl (Pend_okv rfl (OK_s (EX_s (PS_loadA rfl tya31 (.tail _ (.tail _ (.tail _ (.tail _ (.tail _ (.head _)))))) (Land.l2.comp (Lens.arr (n := 6) Being.fl (by omega) (by omega))) rfl))) rfl rfl (Pend_okv rfl (OK_s (EX_s (PS_indexAddr ia32 rfl rfl (by omega) (by omega)))) rfl rfl (Pend_okv rfl (OK_s (EX_s (PS_fieldAddr fa34_2 rfl))) rfl rfl (Pend_okv rfl (OK_s (EX_s (PS_move rfl))) rfl rfl Pend_nil))))))))
   refine Plan_chain 10 rfl (by kernel_rfl) ?_
   refine GL_unit (PU_store (Lens.id Being.fl.len Being.fl.one) rfl rfl rfl sz31 rfl .head) ?_
   refine GL_hand0 rfl ⟨?_, ?_⟩
   · exact (Pend_okv rfl (OK_s (EX_s (PS_loadA rfl tya31 (.tail _ (.tail _ (.head _))) (Land.l2.comp (Lens.arr (n := 6) Being.fl (by omega) (by omega))) rfl))) rfl rfl (Pend_okv rfl (OK_s (EX_s (PS_indexAddr ia32 rfl rfl (by omega) (by omega)))) rfl rfl (Pend_okv rfl (OK_s (EX_s (PS_fieldAddr fa34_2 rfl))) rfl rfl (Pend_okv rfl (OK_s (EX_s (PS_move rfl))) rfl rfl (Pend_skip (by kernel_rfl) (Pend_skip (by kernel_rfl) (Pend_skip (by kernel_rfl) (Pend_skip (by kernel_rfl) Pend_nil))))))))
   refine Plan_chain 11 rfl (by kernel_rfl) ?_
   refine GL_unit (PU_store (Lens.id Being.fl.len Being.fl.one) rfl rfl rfl sz31 rfl (.tail .head)) ?_
   refine GL_hand0 rfl ⟨?_, ?_⟩
   · exact (Pend_skip (by kernel_rfl) (Pend_skip (by kernel_rfl) (Pend_skip (by kernel_rfl) (Pend_skip (by kernel_rfl) (Pend_skip (by kernel_rfl) (Pend_skip (by kernel_rfl) (Pend_skip (by kernel_rfl) (Pend_skip (by kernel_rfl) Pend_nil))))))))
   refine Plan_end (by kernel_rfl) ?_
   refine GQ_sub (.cons (k := 1) rfl (.cons (k := 3) rfl (.cons (k := 7) rfl (.cons (k := 13) rfl (.cons (k := 14) rfl (.cons (k := 15) rfl (.cons (k := 83) rfl (.nil _)))))))) ?_
   refine GQ_then ?_
   refine G_seq ?_
   refine G_region ?_
   refine GL_step rfl (PS_fieldAddr fa31_5 rfl) ?_
   refine GL_unit (PU_store Being.l5 rfl rfl rfl sz3 rfl .head) ?_
   refine GL_step rfl (PS_fieldAddr fa31_5 rfl) ?_
   refine GL_unit (PU_store Being.l5 rfl rfl rfl sz3 rfl (.tail .head)) ?_
   refine GL_nil ?_
   refine GQ_sub (.cons (k := 1) rfl (.cons (k := 3) rfl (.cons (k := 7) rfl (.cons (k := 13) rfl (.cons (k := 14) rfl (.cons (k := 15) rfl (.cons (k := 83) rfl (.nil _)))))))) ?_
   refine GQ_then ?_
   refine G_seq ?_
   refine G_region ?_
   refine GL_step rfl (PS_move rfl) ?_
   refine GL_step rfl (PS_move rfl) ?_
   refine GL_step rfl (PS_neq rfl rfl) ?_
   refine GL_step rfl (PS_move rfl) ?_
   refine GL_gt (t := 99) rfl rfl rfl (fun q => PS_loadA rfl tya31 (.head _) (Lens.id Being.fl.len Being.fl.one) rfl) ?_
   refine GL_gt (t := 99) rfl rfl rfl (fun q => PS_loadA rfl tya31 (.tail _ (.head _)) (Lens.id Being.fl.len Being.fl.one) rfl) ?_
   refine GL_gt (t := 99) rfl rfl rfl (fun q => PS_neq_agg eq31 (by decide) (by kernel_rfl) (cvE rfl q) (cvE rfl q)) ?_
   refine GL_step rfl (PS_and rfl rfl (fun h => h)) ?_
   refine GL_nil ?_
   refine GQ_sub (.cons (k := 1) rfl (.cons (k := 3) rfl (.cons (k := 7) rfl (.cons (k := 83) rfl (.cons (k := 103) rfl (.nil _)))))) ?_
   refine GQ_then ?_
   refine G_cond rfl (fun c10 => ?_) (fun c10 => ?_)
   ·
    have c10p := kz c10
    refine G_seq ?_
    refine G_region ?_
    refine GL_step rfl (PS_assign rfl) ?_
    refine GL_nil ?_
    refine GQ_sub (.cons (k := 6) rfl (.nil _)) ?_
    refine GQ_then ?_
    refine G_ret ?_
    refine GQ_block_ret ?_
    refine GQ_then_ret ?_
    refine GQ_then_ret ?_
    refine GQ_block_ret ?_
    refine GQ_then_ret ?_
    refine GQ_ret rfl (.tmp rfl .nil) ?_
    exfalso
    have hs := hks.be k hI21 (by omega)
    have hc := c10
    rw [Bool.and_eq_true, Bool.not_eq_true', Bool.not_eq_true', decide_eq_false_iff_not, decide_eq_false_iff_not] at hc
    exact hc.2 (hs hc.1).symm
   have c10p := kz c10
   refine G_skip ?_
   refine GQ_sub (.cons (k := 1) rfl (.cons (k := 3) rfl (.cons (k := 7) rfl (.cons (k := 83) rfl (.nil _))))) ?_
   refine GQ_block ?_
   refine GQ_then ?_
   refine G_region ?_
   refine GL_step rfl (PS_add rfl rfl (IntWalk.i64_in _ (by omega))) ?_
   refine GL_step rfl (PS_move rfl) ?_
   refine GL_nil ?_
   refine GQ_sub (.cons (k := 1) rfl (.cons (k := 3) rfl (.cons (k := 7) rfl (.cons (k := 83) rfl (.nil _))))) ?_
   refine GQ_next1_ (k + 1) ?_ ?_ (.cons (k := 83) rfl (.cons (k := 1) rfl (.cons (k := 3) rfl (.cons (k := 7) rfl (.nil _))))) (.cons _ (.cons _ (.refl _)))
   · exact ⟨by omega, by omega⟩
   · omega
 have c8p := kz c8
 refine G_exit ?_
 refine GQ_then_exit ?_
 refine GQ_then_exit ?_
 refine GQ_block_exit ?_
 refine GQ_sub (.cons (k := 3) rfl (.cons (k := 7) rfl (.nil _))) ?_
 refine GQ_then ?_
 refine G_seq ?_
 refine G_seq ?_
 refine G_region ?_
 refine GL_step rfl (PS_move rfl) ?_
 refine GL_nil ?_
 refine GQ_then ?_
 refine G_block ?_
 refine G_subF (.cons (k := 105) rfl (.cons (k := 3) rfl (.cons (k := 7) rfl (.nil _)))) ?_
 refine G_loop1_ (fun (k : Int) => 0 ≤ k ∧ k ≤ 6) (fun (k : Int) => (6 - k).toNat) (fun (k : Int) => [(105, .int .i64 k)]) (fun (k : Int) => []) (0) ?_ rfl rfl (fun k hI3 => ?_)
 · exact ⟨by omega, by omega⟩
 obtain ⟨hI31, hI32⟩ := hI3
 refine G_seq ?_
 refine G_region ?_
 refine GL_step rfl (PS_lss rfl rfl) ?_
 refine GL_nil ?_
 refine GQ_then ?_
 refine G_seq ?_
 refine G_cond rfl (fun c11 => ?_) (fun c11 => ?_)
 ·
  have c11p := kz c11
  refine G_skip ?_
  refine GQ_sub (.cons (k := 3) rfl (.cons (k := 7) rfl (.cons (k := 105) rfl (.nil _)))) ?_
  refine GQ_then ?_
  refine G_seq ?_
  refine G_block ?_
  refine G_seq ?_
  refine G_region ?_
  refine GL_step rfl (PS_move rfl) ?_
  refine GL_step rfl (PS_assign rfl) ?_
  refine GL_nil ?_
  refine GQ_sub (.cons (k := 3) rfl (.cons (k := 7) rfl (.cons (k := 16) rfl (.cons (k := 105) rfl (.nil _))))) ?_
  refine GQ_then ?_
  refine G_seq ?_
  refine G_planN (N := 37) [0, 0, 3, 7, 15, 0, 0, 96, 224, 480, 1023, 2047, 4095, 4095, 16383, 32767, 65535, 4095, 4095, 397311, 921599, 1970175, 4194303, 8388607, 16777215, 33554431, 33554431, 134217727, 268435455, 536870911, 33554431, 33554431, 3254779903, 7549747199, 16139681791, 34359738367, 68719476735] mix (by kernel_rfl) rfl ?_
  refine Plan_float 0 rfl rfl (by kernel_rfl) (OK_s (EX_s (PS_move rfl))) ?_
  refine Plan_float 1 rfl rfl (by kernel_rfl) (OK_s (EX_s (PS_fieldAddr fa34_0 rfl))) ?_
  refine Plan_float 2 rfl rfl (by kernel_rfl) (OK_s (EX_s (PS_indexAddr ia26 rfl rfl (by omega) (by omega)))) ?_
  refine Plan_float 3 rfl rfl (by kernel_rfl) (OK_s (EX_s (PS_fieldAddr fa25_0 rfl))) ?_
  refine Plan_float 4 rfl rfl (by kernel_rfl) (OK_s (EX_s (PS_load rfl tys9 (.head _) ((Land.l0.comp (Lens.arr (n := 6) Room.fl (by omega) (by omega))).comp Room.l0) rfl rfl))) ?_
  refine Plan_float 5 rfl rfl (by kernel_rfl) (OK_s (EX_s (PS_move rfl))) ?_
  refine Plan_float 6 rfl rfl (by kernel_rfl) (OK_s (EX_s (PS_fieldAddr fa34_0 rfl))) ?_
  refine Plan_float 7 rfl rfl (by kernel_rfl) (OK_s (EX_s (PS_indexAddr ia26 rfl rfl (by omega) (by omega)))) ?_
  refine Plan_float 8 rfl rfl (by kernel_rfl) (OK_s (EX_s (PS_fieldAddr fa25_0 rfl))) ?_
  refine Plan_float 9 rfl rfl (by kernel_rfl) (OK_s (EX_s (PS_load rfl tys9 (.tail _ (.tail _ (.tail _ (.head _)))) ((Land.l0.comp (Lens.arr (n := 6) Room.fl (by omega) (by omega))).comp Room.l0) rfl rfl))) ?_
  refine Plan_float 10 rfl rfl (by kernel_rfl) (OK_s (EX_s (PS_neq_str rfl rfl))) ?_
  refine Plan_float 11 rfl rfl (by kernel_rfl) (OK_s (EX_s (PS_move rfl))) ?_
  refine Plan_float 12 rfl rfl (by kernel_rfl) (OK_gf (t := 119) rfl rfl (fun q => EX_s (PS_move rfl))) ?_
  refine Plan_float 13 rfl rfl (by kernel_rfl) (OK_gf (t := 119) rfl rfl (fun q => EX_s (PS_fieldAddr fa34_0 rfl))) ?_
  refine Plan_float 14 rfl rfl (by kernel_rfl) (OK_gf (t := 119) rfl rfl (fun q => by have q1 := q; (try simp at q1); exact EX_s (PS_indexAddr ia26 (cvE rfl (by rw [q]; rfl)) (cvE rfl (by rw [q]; rfl)) (by omega) (by omega)))) ?_
  refine Plan_float 15 rfl rfl (by kernel_rfl) (OK_gf (t := 119) rfl rfl (fun q => EX_s (PS_fieldAddr fa25_1 (cvE rfl (by rw [q]; rfl))))) ?_
  refine Plan_float 16 rfl rfl (by kernel_rfl) (OK_gf (t := 119) rfl rfl (fun q => by have q1 := q; (try simp at q1); exact EX_s (PS_load (cvE rfl (by rw [q]; rfl)) tys4 (.head _) ((Land.l0.comp (Lens.arr (n := 6) Room.fl (by omega) (by omega))).comp Room.l1) rfl rfl))) ?_
  refine Plan_float 17 rfl rfl (by kernel_rfl) (OK_gf (t := 119) rfl rfl (fun q => EX_s (PS_move rfl))) ?_
  refine Plan_float 18 rfl rfl (by kernel_rfl) (OK_gf (t := 119) rfl rfl (fun q => EX_s (PS_fieldAddr fa34_0 rfl))) ?_
  refine Plan_float 19 rfl rfl (by kernel_rfl) (OK_gf (t := 119) rfl rfl (fun q => by have q1 := q; (try simp at q1); exact EX_s (PS_indexAddr ia26 (cvE rfl (by rw [q]; rfl)) (cvE rfl (by rw [q]; rfl)) (by omega) (by omega)))) ?_
  refine Plan_float 20 rfl rfl (by kernel_rfl) (OK_gf (t := 119) rfl rfl (fun q => EX_s (PS_fieldAddr fa25_1 (cvE rfl (by rw [q]; rfl))))) ?_
  refine Plan_float 21 rfl rfl (by kernel_rfl) (OK_gf (t := 119) rfl rfl (fun q => by have q1 := q; (try simp at q1); exact EX_s (PS_load (cvE rfl (by rw [q]; rfl)) tys4 (.tail _ (.tail _ (.tail _ (.head _)))) ((Land.l0.comp (Lens.arr (n := 6) Room.fl (by omega) (by omega))).comp Room.l1) rfl rfl))) ?_
  refine Plan_float 22 rfl rfl (by kernel_rfl) (OK_gf (t := 119) rfl rfl (fun q => EX_s (PS_neq_bool Tryd.underlying4 (cvE rfl (by rw [q]; rfl)) (cvE rfl (by rw [q]; rfl))))) ?_
  refine Plan_float 23 rfl rfl (by kernel_rfl) (OK_s (EX_s (PS_or rfl rfl (fun h => by rw [h]; rfl)))) ?_
  refine Plan_float 24 rfl rfl (by kernel_rfl) (OK_s (EX_s (PS_move rfl))) ?_
  refine Plan_float 25 rfl rfl (by kernel_rfl) (OK_gf (t := 132) rfl rfl (fun q => EX_s (PS_move rfl))) ?_
  refine Plan_float 26 rfl rfl (by kernel_rfl) (OK_gf (t := 132) rfl rfl (fun q => EX_s (PS_fieldAddr fa34_0 rfl))) ?_
  refine Plan_float 27 rfl rfl (by kernel_rfl) (OK_gf (t := 132) rfl rfl (fun q => by have q1 := q; (try simp at q1); exact EX_s (PS_indexAddr ia26 (cvE rfl (by rw [q]; rfl)) (cvE rfl (by rw [q]; rfl)) (by omega) (by omega)))) ?_
  refine Plan_float 28 rfl rfl (by kernel_rfl) (OK_gf (t := 132) rfl rfl (fun q => EX_s (PS_fieldAddr fa25_2 (cvE rfl (by rw [q]; rfl))))) ?_
  refine Plan_float 29 rfl rfl (by kernel_rfl) (OK_gf (t := 132) rfl rfl (fun q => by have q1 := q; (try simp at q1); exact EX_s (PS_loadA (cvE rfl (by rw [q]; rfl)) tya22 (.head _) ((Land.l0.comp (Lens.arr (n := 6) Room.fl (by omega) (by omega))).comp Room.l2) rfl))) ?_
  refine Plan_float 30 rfl rfl (by kernel_rfl) (OK_gf (t := 132) rfl rfl (fun q => EX_s (PS_move rfl))) ?_
  refine Plan_float 31 rfl rfl (by kernel_rfl) (OK_gf (t := 132) rfl rfl (fun q => EX_s (PS_fieldAddr fa34_0 rfl))) ?_
  refine Plan_float 32 rfl rfl (by kernel_rfl) (OK_gf (t := 132) rfl rfl (fun q => by have q1 := q; (try simp at q1); exact EX_s (PS_indexAddr ia26 (cvE rfl (by rw [q]; rfl)) (cvE rfl (by rw [q]; rfl)) (by omega) (by omega)))) ?_
  refine Plan_float 33 rfl rfl (by kernel_rfl) (OK_gf (t := 132) rfl rfl (fun q => EX_s (PS_fieldAddr fa25_2 (cvE rfl (by rw [q]; rfl))))) ?_
  refine Plan_float 34 rfl rfl (by kernel_rfl) (OK_gf (t := 132) rfl rfl (fun q => by have q1 := q; (try simp at q1); exact EX_s (PS_loadA (cvE rfl (by rw [q]; rfl)) tya22 (.tail _ (.tail _ (.tail _ (.head _)))) ((Land.l0.comp (Lens.arr (n := 6) Room.fl (by omega) (by omega))).comp Room.l2) rfl))) ?_
  refine Plan_float 35 rfl rfl (by kernel_rfl) (OK_gf (t := 132) rfl rfl (fun q => EX_s (PS_neq_agg eq22 (by decide) (by kernel_rfl) (cvE rfl (by rw [q]; rfl)) (cvE rfl (by rw [q]; rfl))))) ?_
  refine Plan_float 36 rfl rfl (by kernel_rfl) (OK_s (EX_s (PS_or rfl rfl (fun h => by rw [h]; rfl)))) ?_
  refine Plan_end (by kernel_rfl) ?_
  refine GQ_sub (.cons (k := 3) rfl (.cons (k := 7) rfl (.cons (k := 105) rfl (.cons (k := 144) rfl (.nil _))))) ?_
  refine GQ_then ?_
  refine G_cond rfl (fun c12 => ?_) (fun c12 => ?_)
  ·
   have c12p := kz c12
   refine G_seq ?_
   refine G_region ?_
   refine GL_step rfl (PS_assign rfl) ?_
   refine GL_nil ?_
   refine GQ_sub (.cons (k := 6) rfl (.nil _)) ?_
   refine GQ_then ?_
   refine G_ret ?_
   refine GQ_block_ret ?_
   refine GQ_then_ret ?_
   refine GQ_then_ret ?_
   refine GQ_block_ret ?_
   refine GQ_then_ret ?_
   refine GQ_ret rfl (.tmp rfl .nil) ?_
   exfalso
   have hs := hks.ro k hI31 (by omega)
   rw [hs.1, hs.2.1, hs.2.2] at c12
   simp at c12
  have c12p := kz c12
  refine G_skip ?_
  refine GQ_sub (.cons (k := 3) rfl (.cons (k := 7) rfl (.cons (k := 105) rfl (.nil _)))) ?_
  refine GQ_block ?_
  refine GQ_then ?_
  refine G_region ?_
  refine GL_step rfl (PS_add rfl rfl (IntWalk.i64_in _ (by omega))) ?_
  refine GL_step rfl (PS_move rfl) ?_
  refine GL_nil ?_
  refine GQ_sub (.cons (k := 3) rfl (.cons (k := 7) rfl (.cons (k := 105) rfl (.nil _)))) ?_
  refine GQ_next1_ (k + 1) ?_ ?_ (.cons (k := 105) rfl (.cons (k := 3) rfl (.cons (k := 7) rfl (.nil _)))) (.refl _)
  · exact ⟨by omega, by omega⟩
  · omega
 have c11p := kz c11
 refine G_exit ?_
 refine GQ_then_exit ?_
 refine GQ_then_exit ?_
 refine GQ_block_exit ?_
 refine GQ_sub (.nil _) ?_
 refine GQ_then ?_
 refine G_seq ?_
 refine G_region ?_
 refine GL_step rfl (PS_assign rfl) ?_
 refine GL_nil ?_
 refine GQ_then ?_
 refine G_ret ?_
 refine GQ_ret rfl (.tmp rfl .nil) ?_
 intro w1 hS; refine ⟨?_, hS.toKeep⟩; rfl
mutual
def cellsD {H : Type} : DataW H → List Value
  | .lit (.int k n) => [.int k n]
  | .lit (.string bs) => [.string ⟨bs.toArray⟩]
  | .lit (.bool b) => [.bool b]
  | .agg ps => cellsDs ps
  | _ => []
def cellsDs {H : Type} : List (DataW H) → List Value
  | [] => []
  | d :: r => cellsD d ++ cellsDs r
end
def cellsE {H : Type} : DataW H → List Value
  | .iface _ (.ptr (.agg ps)) => cellsDs ps
  | _ => []
/-- Where what the errors point to lies. -/
noncomputable def low : Nat := (World.holding Tryd.prog default ⟨#[], #[], []⟩).heap.size
/-- A world in which the listed variables hold what is listed. -/
noncomputable def laidWorld (os : Os) : World := { World.holding Tryd.prog os ⟨#[.cells (cellsE (Rows.laid_strconv_ErrRange : DataW Unit)).toArray 142, .cells (cellsE (Rows.laid_strconv_ErrSyntax : DataW Unit)).toArray 142], #[], []⟩ with heap := (((((((World.holding Tryd.prog os ⟨#[.cells (cellsE (Rows.laid_strconv_ErrRange : DataW Unit)).toArray 142, .cells (cellsE (Rows.laid_strconv_ErrSyntax : DataW Unit)).toArray 142], #[], []⟩).heap.modify 4 fun o => match o with | .cells _ t frozen => .cells #[.iface 140 (.pointer (some ⟨low + 0, 0, none⟩))] t frozen | o => o).modify 3 fun o => match o with | .cells _ t frozen => .cells #[.iface 140 (.pointer (some ⟨low + 1, 0, none⟩))] t frozen | o => o).modify 5 fun o => match o with | .cells _ t frozen => .cells (cellsD (Rows.laid_math_bits_deBruijn32tab : DataW Unit)).toArray t frozen | o => o).modify 6 fun o => match o with | .cells _ t frozen => .cells (cellsD (Rows.laid_math_bits_deBruijn64tab : DataW Unit)).toArray t frozen | o => o).modify 1 fun o => match o with | .cells _ t frozen => .cells (cellsD (Rows.laid_internal_strconv_uint64pow10 : DataW Unit)).toArray t frozen | o => o).modify 0 fun o => match o with | .cells _ t frozen => .cells (cellsD (Rows.laid_inglenook_words_verbs : DataW Unit)).toArray t frozen | o => o) }
set_option maxRecDepth 100000 in
theorem laid_met (os : Os) : laidMet Tryd.prog Rows.rulesKeepRow.laid ((laidWorld os).forCall (fun _ _ => 0) ⟨#[], #[.agg (Land.enc (default : Land)).toArray, .int .i64 0, .agg (Order.enc (default : Order)).toArray], []⟩).memory :=
  laidMet_of_run' 8 (by kernel_rfl) (by kernel_rfl)
set_option maxRecDepth 100000 in
theorem reads (os : Os) {H : Type} (enc : TypeId × Value → H) : ∃ places, DataW.whole enc Tryd.prog ((laidWorld os).forCall (fun _ _ => 0) ⟨#[], #[.agg (Land.enc (default : Land)).toArray, .int .i64 0, .agg (Order.enc (default : Order)).toArray], []⟩).memory Tryd.f3.params.toList Rows.rulesKeepSpec.vars false (#[.agg (Land.enc (default : Land)).toArray, .int .i64 0, .agg (Order.enc (default : Order)).toArray] : Array Value).toList 8 = some ([.agg [.agg (List.replicate 6 (.agg [.lit (.string []), .lit (.bool false), .agg (List.replicate 6 (.lit (.int .i64 0))), .agg (List.replicate 6 (.lit (.bool false)))])), .agg (List.replicate 9 (.agg [.lit (.string []), .lit (.int .i64 0), .lit (.int .i64 0), .lit (.int .i64 0), .lit (.bool false)])), .agg (List.replicate 6 (.agg [.lit (.string []), .lit (.bool false), .lit (.bool false), .lit (.int .i64 0), .lit (.int .i64 0), .lit (.int .i64 0)]))], .lit (.int .i64 0), .agg [.lit (.int .i64 0), .lit (.int .i64 0), .lit (.bool false), .lit (.string []), .lit (.string []), .lit (.string [])]], [], places) := ⟨[], by kernel_rfl⟩
set_option maxRecDepth 100000 in
theorem rulesKeep_lifted (os : Os) (started : os.Started) (H : Type) (enc : TypeId × Value → H) (F : Stop.Interp) :
    ReturnsInHanded {} Tryd.checked os 3 .any ((OpenSpec.ofChange Rows.rulesKeepSpec).preRow enc Tryd.prog Tryd.f3 Rows.rulesKeepRow.domain false Rows.rulesKeepRow.laid) (((OpenSpec.ofChange Rows.rulesKeepSpec).at F).post enc Tryd.prog Tryd.f3 false true false false) := by
  obtain ⟨places, hx⟩ := reads os enc
  refine returnsInHanded_of_row (C := Tryd.checked) (s := (OpenSpec.ofChange Rows.rulesKeepSpec)) own started (by kernel_rfl) Tryd.func3
    (witness_row_at (enc := enc) (C := Tryd.checked) false (laidWorld os) #[.agg (Land.enc (default : Land)).toArray, .int .i64 0, .agg (Order.enc (default : Order)).toArray] rfl (by kernel_rfl) (by kernel_rfl) (by kernel_rfl)
      (OpenSpec.preRow_of_cond 8 hx (by kernel_rfl) (fun k hk => by cases hk) (by kernel_rfl) (laid_met os))) ?_
  intro W base args ds gs before hval hW _ hcond hsz hL hSh _
  refine law_post (B := 4) laidOut (by kernel_rfl) Tryd.underlying4 (by kernel_rfl) rfl (fun ds h => by rw [Tryd.params3] at h; match ds, h with | [d1, d2, d3], _ => rfl) hW ?_
  obtain ⟨p, q, hA, hV, _, _, _⟩ := hW
  rw [Tryd.params3] at hA
  obtain ⟨v0, vs0, d0, ds0, p0, q0, hv0, rfl, rfl, hd0, hA⟩ := trodAll_cons hA
  obtain ⟨v1, vs1, d1, ds1, p1, q1, hv1, rfl, rfl, hd1, hA⟩ := trodAll_cons hA
  obtain ⟨v2, vs2, d2, ds2, p2, q2, hv2, rfl, rfl, hd2, hA⟩ := trodAll_cons hA
  obtain ⟨hvn, rfl, rfl⟩ := trodAll_nil hA
  obtain rfl : args = #[v0, v1, v2] := by cases args; simp_all
  obtain ⟨X, rfl, w0⟩ := open_ag (P := Tryd.prog) (t := 34) (by rw [Tryd.underlying34]) (hval 0 _ _ rfl rfl) dc34 hd0
  obtain ⟨b, rfl, rfl, rfl, w1⟩ := open_int Tryd.underlying3 (hval 1 _ _ rfl rfl) hd1
  have w1 := bounds_i64 w1
  obtain ⟨o, rfl, w2⟩ := open_ag (P := Tryd.prog) (t := 36) (by rw [Tryd.underlying36]) (hval 2 _ _ rfl rfl) dc36 hd2
  exact keep_RulesKeep_spec _ _ _ (by have k1 : ∀ i, 0 ≤ i → i < 9 → (X.things.at i).name.length ≤ 140737488351232 := fun i i0 i1 => (reach3 (q := 1) (oA := 84) (n := 9) (z := 5) (i := i.toNat) (s := (X.things.at i).name) Tryd.underlying34 rfl Tryd.underlying29 (by kernel_rfl) Tryd.underlying28 rfl (by kernel_rfl) Tryd.underlying9 (by kernel_rfl) (by omega) (by decide) hd0 (Land.name_at i0 i1) (sized_arg hsz (j := 0) rfl rfl)); have k2 : ∀ i, 0 ≤ i → i < 6 → (X.beings.at i).name.length ≤ 140737488351232 := fun i i0 i1 => (reach3 (q := 2) (oA := 129) (n := 6) (z := 6) (i := i.toNat) (s := (X.beings.at i).name) Tryd.underlying34 rfl Tryd.underlying32 (by kernel_rfl) Tryd.underlying31 rfl (by kernel_rfl) Tryd.underlying9 (by kernel_rfl) (by omega) (by decide) hd0 (Land.bname_at i0 i1) (sized_arg hsz (j := 0) rfl rfl)); have k3 : ∀ i, 0 ≤ i → i < 6 → (X.rooms.at i).name.length ≤ 140737488351232 := fun i i0 i1 => (reach3 (q := 0) (oA := 0) (n := 6) (z := 14) (i := i.toNat) (s := (X.rooms.at i).name) Tryd.underlying34 rfl Tryd.underlying26 (by kernel_rfl) Tryd.underlying25 rfl (by kernel_rfl) Tryd.underlying9 (by kernel_rfl) (by omega) (by decide) hd0 (Land.rname_at i0 i1) (sized_arg hsz (j := 0) rfl rfl)); exact Land.brief_of k1 k2 k3) (by exact reach1 (i := 4) (o := 4) (s := o.second) Tryd.underlying36 rfl Tryd.underlying9 (by kernel_rfl) hd2 rfl (sized_arg hsz (j := 2) rfl rfl)) (by exact reach1 (i := 3) (o := 3) (s := o.name) Tryd.underlying36 rfl Tryd.underlying9 (by kernel_rfl) hd2 rfl (sized_arg hsz (j := 2) rfl rfl)) W (gv_strs hL mem_laid_inglenook_words_verbs (by kernel_rfl) (by kernel_rfl) Tryd.underlying92 Tryd.underlying9 (by kernel_rfl) (by kernel_rfl)) (gve hL mem_laid_strconv_ErrSyntax rfl (by kernel_rfl) (by kernel_rfl) Tryd.underlying72) (gve hL mem_laid_strconv_ErrRange rfl (by kernel_rfl) (by kernel_rfl) Tryd.underlying72)
theorem rulesKeep_said : Rows.RulesKeepSaid :=
  OpenClaim.holds_of_cond 3 Tryd.f3 rfl rfl rfl rfl rfl rfl rfl ⟨rfl, rfl, rfl, rfl, rfl⟩ rfl rfl rfl rfl rfl (by kernel_rfl) Tryd.func3 (by kernel_rfl)
    (of_decide_eq_true (by kernel_rfl)) (by unfold Func.isWrapper; first | (rw [if_pos (by decide +kernel)]; kernel_rfl) | (rw [if_neg (by decide +kernel)]; exact ⟨rfl, rfl⟩))
    (fun os started H enc _ F => by rw [OpenClaim.pre_eq_preRow]; exact rulesKeep_lifted os started H enc F)
theorem plainArgs (f : FuncId) (fn : Func) (hf : Tryd.pinned.checked.prog.funcNamed "inglenook/inglenookkeep.RulesKeep" = some f) (hfn : Tryd.pinned.checked.prog.funcs[f]? = some fn) :
    true = Tryd.pinned.checked.prog.looks [] ∧ ∀ (j : Nat) t, fn.params[j]? = some t → Tryd.pinned.checked.prog.wantsStandIn t = false := by
  obtain rfl : f = 3 := Option.some.inj ((show Tryd.prog.funcNamed "inglenook/inglenookkeep.RulesKeep" = some 3 by kernel_rfl).symm.trans hf) |>.symm
  obtain rfl : fn = Tryd.f3 := (Option.some.inj (Tryd.func3.symm.trans hfn)).symm
  refine ⟨by kernel_rfl, fun j t ht => ?_⟩
  rw [Tryd.params3] at ht
  have hm : t ∈ [34, 3, 36] := by simpa using Array.mem_of_getElem? ht
  have hall : ([34, 3, 36].all fun u => !Tryd.prog.wantsStandIn u) = true := by kernel_rfl
  exact (show Tryd.prog.wantsStandIn t = false by simpa using List.all_eq_true.1 hall t hm)
theorem rulesKeep_holds : Rows.RulesKeepCardSaid :=
  Claim7.holds_tied_plain_at .later [] _ _ _ _ rulesKeep_said (fun _ h => by cases h) (by kernel_rfl) (fun _ h => by cases h) rulesKeep_row_tie rfl ⟨rfl, rfl⟩ (by kernel_rfl) rfl plainArgs (by kernel_rfl)
end Go.Proofs.YthaobbemigbcgaaDoor
