/- For every input the law RulesLosses returns true. No condition. -/
import Derived.Test.YthaobbemigbcgaaDoorCards
import Derived.Test.YthaobbemigbcgaaDoorTie
import Derived.Deep.DeepHandedRow
import Derived.Test.YthaobbemigbcgaaDoorRows
import Derived.Test.YthaobbemigbcgaaDoorRulesLossesWalks
import Derived.Test.YthaobbemigbcgaaDoorRulesLossesWalks2
import Derived.Test.YthaobbemigbcgaaDoorRulesLossesWalks3
import Derived.Test.YthaobbemigbcgaaDoorRulesLossesWalks4
import Derived.Test.YthaobbemigbcgaaDoorRulesLossesEc3
import Derived.Test.YthaobbemigbcgaaDoorRulesLossesRa1
import Derived.Test.YthaobbemigbcgaaDoorRulesLossesRb1
set_option linter.unusedSimpArgs false
set_option linter.unusedVariables false
set_option maxRecDepth 100000
set_option maxHeartbeats 1000000
namespace Go.Proofs.YthaobbemigbcgaaDoor
open Go Go.Ing Go.RowKit Go.ChangeShapes Go.WideShapes Go.ChangeAt
theorem own : ownKnob Tryd.prog.godebug = none := by kernel_rfl
theorem laidOut : laidOutB Tryd.prog = true := by kernel_rfl
theorem ld_laid_inglenook_words_verbs : (Rows.laid_inglenook_words_verbs : DataW Unit) = strData Land.verbs := by kernel_rfl
theorem mem_laid_inglenook_words_verbs : ("inglenook/words.verbs", (strData Land.verbs : DataW Unit)) ∈ Rows.rulesLossesRow.laid := ld_laid_inglenook_words_verbs ▸ (.tail _ (.tail _ (.tail _ (.tail _ (.tail _ (.head _))))))
theorem mem_laid_strconv_ErrSyntax : ("strconv.ErrSyntax", (Rows.laid_strconv_ErrSyntax : DataW Unit)) ∈ Rows.rulesLossesRow.laid := .tail _ (.tail _ (.tail _ (.tail _ (.head _))))
theorem mem_laid_strconv_ErrRange : ("strconv.ErrRange", (Rows.laid_strconv_ErrRange : DataW Unit)) ∈ Rows.rulesLossesRow.laid := .tail _ (.tail _ (.tail _ (.head _)))
theorem dc9 {H : Type} {enc : TypeId × Value → H} {w : World} : Dc H enc Tryd.prog w (encS) wfS 9 := Dc_string Tryd.underlying9
theorem dc4 {H : Type} {enc : TypeId × Value → H} {w : World} : Dc H enc Tryd.prog w (encB) wfB 4 := Dc_bool Tryd.underlying4
theorem dc3 {H : Type} {enc : TypeId × Value → H} {w : World} : Dc H enc Tryd.prog w (encI) wfI 3 := Dc_int Tryd.underlying3
theorem dc22 {H : Type} {enc : TypeId × Value → H} {w : World} : Dc H enc Tryd.prog w (encA (n := 6) encI) (wfA wfI) 22 := Dc_arr (sz := 1) Tryd.underlying22 (by kernel_rfl) (by kernel_rfl) dc3
theorem dc23 {H : Type} {enc : TypeId × Value → H} {w : World} : Dc H enc Tryd.prog w (encA (n := 6) encB) (wfA wfB) 23 := Dc_arr (sz := 1) Tryd.underlying23 (by kernel_rfl) (by kernel_rfl) dc4
theorem dc25 {H : Type} {enc : TypeId × Value → H} {w : World} : Dc H enc Tryd.prog w (Room.enc) Room.wf 25 := Room.dc Tryd.underlying25 (by kernel_rfl) rfl (by kernel_rfl) dc9 rfl (by kernel_rfl) dc4 rfl (by kernel_rfl) dc22 rfl (by kernel_rfl) dc23
theorem dc26 {H : Type} {enc : TypeId × Value → H} {w : World} : Dc H enc Tryd.prog w (encA (n := 6) Room.enc) (wfA Room.wf) 26 := Dc_arr (sz := 14) Tryd.underlying26 (by kernel_rfl) (by kernel_rfl) dc25
theorem dc28 {H : Type} {enc : TypeId × Value → H} {w : World} : Dc H enc Tryd.prog w (Thing.enc) Thing.wf 28 := Thing.dc Tryd.underlying28 (by kernel_rfl) rfl (by kernel_rfl) dc9 rfl (by kernel_rfl) dc3 rfl (by kernel_rfl) dc3 rfl (by kernel_rfl) dc3 rfl (by kernel_rfl) dc4
theorem dc29 {H : Type} {enc : TypeId × Value → H} {w : World} : Dc H enc Tryd.prog w (encA (n := 9) Thing.enc) (wfA Thing.wf) 29 := Dc_arr (sz := 5) Tryd.underlying29 (by kernel_rfl) (by kernel_rfl) dc28
theorem dc31 {H : Type} {enc : TypeId × Value → H} {w : World} : Dc H enc Tryd.prog w (Being.enc) Being.wf 31 := Being.dc Tryd.underlying31 (by kernel_rfl) rfl (by kernel_rfl) dc9 rfl (by kernel_rfl) dc4 rfl (by kernel_rfl) dc4 rfl (by kernel_rfl) dc3 rfl (by kernel_rfl) dc3 rfl (by kernel_rfl) dc3
theorem dc32 {H : Type} {enc : TypeId × Value → H} {w : World} : Dc H enc Tryd.prog w (encA (n := 6) Being.enc) (wfA Being.wf) 32 := Dc_arr (sz := 6) Tryd.underlying32 (by kernel_rfl) (by kernel_rfl) dc31
theorem dc34 {H : Type} {enc : TypeId × Value → H} {w : World} : Dc H enc Tryd.prog w (Land.enc) Land.wf 34 := Land.dc Tryd.underlying34 (by kernel_rfl) rfl (by kernel_rfl) dc26 rfl (by kernel_rfl) dc29 rfl (by kernel_rfl) dc32
theorem keep_RulesLosses_spec (X : Land) (d : Int) (hw : X.Brief) (w : World) (gl0 : GV 0 Land.verbsV w) (gl1 : GVE 3 w) (gl2 : GVE 4 w) : Ret Tryd.prog 5 #[.agg X.enc.toArray, .int .i64 d] w fun v w' => v = .bool true ∧ Keep w w' := by
 refine Ret_body [] [] Tryd.func5 rfl rfl rfl (St.start w []) ?_
 refine G_seq ?_
 refine G_region ?_
 refine GL_box rfl rfl rfl (fun b1 => ?_)
 refine GL_step rfl (PS_assign rfl) ?_
 refine GL_nil ?_
 refine GQ_sub (.cons (k := 1) rfl (.cons (k := 2) rfl (.nil _))) ?_
 refine GQ_then ?_
 refine G_seq ?_
 refine G_region ?_
 refine GL_step rfl (PS_loadA rfl tya34 (.head _) (Lens.id Land.fl.len Land.fl.one) rfl) ?_
 refine GL_step rfl (PS_move rfl) ?_
 refine GL_callR rfl cf11 (.cons rfl (.cons rfl .nil)) .nil (rules_Round_spec X d hw) (fun w hS => gl0.pull (by simp) hS .nil) (fun v1 B hv => ?_)
 obtain ⟨y2, rfl, y3, rfl⟩ := hv
 refine GL_step rfl (PS_move rfl) ?_
 refine GL_step rfl (PS_extract rfl rfl) ?_
 refine GL_step rfl (PS_extract rfl rfl) ?_
 refine GL_step rfl (PS_extract rfl rfl) ?_
 refine GL_alloc rfl zv34 rfl (fun b2 => ?_)
 refine GL_unit (PU_store (Lens.id Land.fl.len Land.fl.one) rfl rfl rfl sz34 rfl .head) ?_
 refine GL_step rfl (PS_assign rfl) ?_
 refine GL_step rfl (PS_assign rfl) ?_
 refine GL_nil ?_
 refine GQ_sub (.cons (k := 2) rfl (.cons (k := 5) rfl (.cons (k := 6) rfl (.cons (k := 7) rfl (.nil _))))) ?_
 refine GQ_then ?_
 refine G_seq ?_
 refine G_seq ?_
 refine G_region ?_
 refine GL_step rfl (PS_move rfl) ?_
 refine GL_step rfl (PS_neq rfl rfl) ?_
 refine GL_step rfl (PS_move rfl) ?_
 refine GL_pgf (t := 24) rfl rfl rfl (fun q => PC_of cf8 .nil (fun w hS => keep_acts_spec w (gl0.st hS) (gl1.st hS) (gl2.st hS))) ?_
 refine GL_gf (t := 24) rfl rfl rfl (fun q => PS_not (cvE rfl (by rw [q]; rfl))) ?_
 refine GL_step rfl (PS_or rfl rfl (fun h => by rw [h]; rfl)) ?_
 refine GL_nil ?_
 refine GQ_sub (.cons (k := 2) rfl (.cons (k := 5) rfl (.cons (k := 6) rfl (.cons (k := 27) rfl (.nil _))))) ?_
 refine GQ_then ?_
 refine G_cond rfl (fun c1 => ?_) (fun c1 => ?_)
 ·
  have c1p := kz c1
  have hz : (Turn.roundR X d).2.2 ≠ 0 := by simpa using c1
  have hbad := Turn.round_bad hz
  refine G_seq ?_
  refine G_region ?_
  refine GL_step rfl (PS_loadA rfl tya34 (.head _) (Lens.id Land.fl.len Land.fl.one) rfl) ?_
  refine GL_step rfl (PS_loadA rfl tya34 (.tail _ (.tail _ (.head _))) (Lens.id Land.fl.len Land.fl.one) rfl) ?_
  refine GL_step rfl (PS_eql_agg eq34 (by decide) (by kernel_rfl) rfl rfl) ?_
  refine GL_step rfl (PS_move rfl) ?_
  refine GL_pgt (t := 31) rfl rfl rfl (fun q => PC_of cf8 .nil (fun w hS => keep_acts_spec w (gl0.st hS) (gl1.st hS) (gl2.st hS))) ?_
  refine GL_step rfl (PS_and rfl rfl (fun h => h)) ?_
  refine GL_step rfl (PS_assign rfl) ?_
  refine GL_nil ?_
  refine GQ_sub (.cons (k := 4) rfl (.nil _)) ?_
  refine GQ_then ?_
  refine G_ret ?_
  refine GQ_then_ret ?_
  refine GQ_ret rfl (.tmp rfl .nil) ?_
  intro w1 hS; refine ⟨?_, hS.toKeep⟩; exact congrArg Value.bool (by rw [hbad]; simp)
 have c1p := kz c1
 have hz : (Turn.roundR X d).2.2 = 0 := by simpa using c1
 obtain ⟨hls, hgd, hln⟩ := Turn.round_ok hw hz
 have hb10 : ∀ c, 0 ≤ c → c < 6 → 0 ≤ (X.beings.at c).health ∧ (X.beings.at c).health ≤ 10 := fun c c0 c6 => (Turn.good_be (Turn.round_gd hz) c0 c6).health
 refine G_skip ?_
 refine GQ_sub (.cons (k := 2) rfl (.cons (k := 5) rfl (.cons (k := 6) rfl (.nil _)))) ?_
 refine GQ_then ?_
 refine G_seq ?_
 refine G_region ?_
 refine GL_step rfl (PS_buildA Tryd.underlying22 sz3 zv22 rfl .nil) ?_
 refine GL_alloc rfl zv22 rfl (fun b3 => ?_)
 refine GL_unit (PU_store (Lens.id (flA flI).len (flA flI).one) rfl rfl rfl sz22 rfl .head) ?_
 refine GL_nil ?_
 refine GQ_sub (.cons (k := 2) rfl (.cons (k := 5) rfl (.cons (k := 6) rfl (.cons (k := 8) rfl (.nil _))))) ?_
 refine GQ_then ?_
 refine G_seq ?_
 refine G_region ?_
 refine GL_step rfl (PS_buildA Tryd.underlying23 sz4 zv23 rfl .nil) ?_
 refine GL_alloc rfl zv23 rfl (fun b4 => ?_)
 refine GL_unit (PU_store (Lens.id (flA flB).len (flA flB).one) rfl rfl rfl sz23 rfl .head) ?_
 refine GL_nil ?_
 refine GQ_sub (.cons (k := 2) rfl (.cons (k := 5) rfl (.cons (k := 6) rfl (.cons (k := 8) rfl (.cons (k := 9) rfl (.nil _)))))) ?_
 refine GQ_then ?_
 refine G_seq ?_
 refine G_seq ?_
 refine G_region ?_
 refine GL_step rfl (PS_move rfl) ?_
 refine GL_step rfl (PS_len_slice rfl Tryd.underlying37 rfl) ?_
 refine GL_step rfl (PS_move rfl) ?_
 refine GL_nil ?_
 refine GQ_sub (.cons (k := 2) rfl (.cons (k := 5) rfl (.cons (k := 8) rfl (.cons (k := 9) rfl (.cons (k := 36) rfl (.cons (k := 37) rfl (.cons (k := 38) rfl (.nil _)))))))) ?_
 refine GQ_then ?_
 refine G_block ?_
 refine G_subF (.cons (k := 38) rfl (.cons (k := 2) rfl (.cons (k := 5) rfl (.cons (k := 8) rfl (.cons (k := 9) rfl (.cons (k := 36) rfl (.cons (k := 37) rfl (.nil _)))))))) ?_
 refine G_pull (.tail .head) ?_
 refine G_pull (.tail .head) ?_
 refine G_loop3_ (fun (k : Int) (V : Vector Int 6) (D : Vector Bool 6) => 0 ≤ k ∧ k ≤ ((Turn.roundR X d).2.1.length : Int) ∧ V = Turn.hurtA ((Turn.roundR X d).2.1.take k.toNat) ∧ D = Turn.diedA ((Turn.roundR X d).2.1.take k.toNat) ∧ ∀ c, 0 ≤ c → c < 6 → 0 ≤ V.at c ∧ V.at c ≤ 3 * k) (fun (k : Int) (V : Vector Int 6) (D : Vector Bool 6) => (((Turn.roundR X d).2.1.length : Int) - k).toNat) (fun (k : Int) (V : Vector Int 6) (D : Vector Bool 6) => [(38, .int .i64 k)]) (fun (k : Int) (V : Vector Int 6) (D : Vector Bool 6) => [Res.box b4 23 ((encA (n := 6) encB) D), Res.box b3 22 ((encA (n := 6) encI) V)]) (0) (Vector.replicate 6 default) (Vector.replicate 6 default) ?_ rfl rfl (fun k V D hI1 => ?_)
 · exact ⟨by omega, by omega, rfl, rfl, fun c c0 c6 => by rw [Turn.rep_at c c0 c6]; exact ⟨Int.le_refl _, by decide⟩⟩
 obtain ⟨hI11, hI12, hI13, hI14, hI15⟩ := hI1
 refine G_seq ?_
 refine G_region ?_
 refine GL_step rfl (PS_lss rfl rfl) ?_
 refine GL_nil ?_
 refine GQ_then ?_
 refine G_seq ?_
 refine G_cond rfl (fun c2 => ?_) (fun c2 => ?_)
 ·
  have c2p := kz c2
  have hle := hls.ev _ (getD_memG (d := default) (xs := (Turn.roundR X d).2.1) (i := k.toNat) (by omega))
  refine G_skip ?_
  refine GQ_sub (.cons (k := 2) rfl (.cons (k := 5) rfl (.cons (k := 8) rfl (.cons (k := 9) rfl (.cons (k := 36) rfl (.cons (k := 37) rfl (.cons (k := 38) rfl (.nil _)))))))) ?_
  refine GQ_then ?_
  refine G_seq ?_
  refine G_block ?_
  refine G_seq ?_
  refine G_region ?_
  refine GL_step rfl (PS_idxS is37 (by decide) (Kn.own (.tail _ (.tail _ (.tail _ (.head _))))) rfl rfl (by omega) (by omega)) ?_
  refine GL_step rfl (PS_ldG rfl tya48 (by decide) Ing.Event.fl (Kn.own (.tail _ (.tail _ (.tail _ (.head _))))) (by omega)) ?_
  refine GL_alloc rfl zv48 rfl (fun b5 => ?_)
  refine GL_unit (PU_store (Lens.id Ing.Event.fl.len Ing.Event.fl.one) rfl rfl rfl sz48 rfl .head) ?_
  refine GL_nil ?_
  refine GQ_sub (.cons (k := 2) rfl (.cons (k := 5) rfl (.cons (k := 8) rfl (.cons (k := 9) rfl (.cons (k := 11) rfl (.cons (k := 36) rfl (.cons (k := 37) rfl (.cons (k := 38) rfl (.nil _))))))))) ?_
  refine GQ_then ?_
  refine G_seq ?_
  refine G_seq ?_
  refine G_region ?_
  refine GL_step rfl (PS_fieldAddr fa48_0 rfl) ?_
  refine GL_step rfl (PS_load rfl tys3 (.head _) Ing.Event.l0 rfl rfl) ?_
  refine GL_step rfl (PS_eql rfl rfl) ?_
  refine GL_nil ?_
  refine GQ_sub (.cons (k := 2) rfl (.cons (k := 5) rfl (.cons (k := 8) rfl (.cons (k := 9) rfl (.cons (k := 11) rfl (.cons (k := 36) rfl (.cons (k := 37) rfl (.cons (k := 38) rfl (.cons (k := 44) rfl (.nil _)))))))))) ?_
  refine GQ_then ?_
  refine G_cond rfl (fun c3 => ?_) (fun c3 => ?_)
  ·
   have c3p := kz c3
   have hxr := hle.1 (of_decide_eq_true c3)
   have hqb := hI15 _ hxr.2.2.1 hxr.2.2.2
   refine G_seq ?_
   refine G_seq ?_
   refine G_region ?_
   refine GL_step rfl (PS_fieldAddr fa48_5 rfl) ?_
   refine GL_step rfl (PS_load rfl tys3 (.head _) Ing.Event.l5 rfl rfl) ?_
   refine GL_step rfl (PS_lss rfl rfl) ?_
   refine GL_step rfl (PS_move rfl) ?_
   refine GL_gf (t := 48) rfl rfl rfl (fun q => PS_fieldAddr fa48_5 rfl) ?_
   refine GL_gf (t := 48) rfl rfl rfl (fun q => PS_load (cvE rfl (by rw [q]; rfl)) tys3 (.head _) Ing.Event.l5 rfl rfl) ?_
   refine GL_gf (t := 48) rfl rfl rfl (fun q => PS_gtr (cvE rfl (by rw [q]; rfl)) rfl) ?_
   refine GL_step rfl (PS_or rfl rfl (fun h => by rw [h]; rfl)) ?_
   refine GL_step rfl (PS_move rfl) ?_
   refine GL_gf (t := 53) rfl rfl rfl (fun q => PS_fieldAddr fa48_3 rfl) ?_
   refine GL_gf (t := 53) rfl rfl rfl (fun q => PS_load (cvE rfl (by rw [q]; rfl)) tys3 (.head _) Ing.Event.l3 rfl rfl) ?_
   refine GL_gf (t := 53) rfl rfl rfl (fun q => PS_lss (cvE rfl (by rw [q]; rfl)) rfl) ?_
   refine GL_step rfl (PS_or rfl rfl (fun h => by rw [h]; rfl)) ?_
   refine GL_nil ?_
   refine GQ_sub (.cons (k := 2) rfl (.cons (k := 5) rfl (.cons (k := 8) rfl (.cons (k := 9) rfl (.cons (k := 11) rfl (.cons (k := 36) rfl (.cons (k := 37) rfl (.cons (k := 38) rfl (.cons (k := 57) rfl (.nil _)))))))))) ?_
   refine GQ_then ?_
   refine G_cond rfl (fun c4 => ?_) (fun c4 => ?_)
   ·
    have c4p := kz c4
    refine G_seq ?_
    refine G_region ?_
    refine GL_step rfl (PS_assign rfl) ?_
    refine GL_nil ?_
    refine GQ_sub (.cons (k := 4) rfl (.nil _)) ?_
    refine GQ_then ?_
    refine G_ret ?_
    refine GQ_then_ret ?_
    refine GQ_then_ret ?_
    refine GQ_block_ret ?_
    refine GQ_then_ret ?_
    refine GQ_then_ret ?_
    refine GQ_block_ret ?_
    refine GQ_then_ret ?_
    refine GQ_ret rfl (.tmp rfl .nil) ?_
    exfalso
    have hx := hle.1 (of_decide_eq_true c3)
    have hc := c4p
    omega
   have c4p := kz c4
   refine G_skip ?_
   refine GQ_sub (.cons (k := 2) rfl (.cons (k := 5) rfl (.cons (k := 8) rfl (.cons (k := 9) rfl (.cons (k := 11) rfl (.cons (k := 36) rfl (.cons (k := 37) rfl (.cons (k := 38) rfl (.nil _))))))))) ?_
   refine GQ_then ?_
   refine G_planN (N := 9) [0, 1, 3, 7, 0, 16, 63, 127, 255] mix (by kernel_rfl) rfl ?_
   refine Plan_float 0 rfl rfl (by kernel_rfl) (OK_s (EX_s (PS_fieldAddr fa48_3 rfl))) ?_
   refine Plan_float 1 rfl rfl (by kernel_rfl) (OK_s (EX_s (PS_load rfl tys3 (.head _) Ing.Event.l3 rfl rfl))) ?_
   refine Plan_float 2 rfl rfl (by kernel_rfl) (OK_s (EX_s (PS_indexAddr ia22 rfl rfl (by first | exact hyr.1 | exact hyr.2 | exact hxr.2.2.1 | exact hxr.2.2.2 | omega | (have qk := hVb k hI21 (by omega); have qh := hb10 k hI21 (by omega); omega)) (by first | exact hyr.1 | exact hyr.2 | exact hxr.2.2.1 | exact hxr.2.2.2 | omega | (have qk := hVb k hI21 (by omega); have qh := hb10 k hI21 (by omega); omega))))) ?_
   refine Plan_float 3 rfl rfl (by kernel_rfl) (OK_s (EX_s (PS_load rfl tys3 (.tail _ (.tail _ (.head _))) ((Lens.id (flA flI).len (flA flI).one).comp (Lens.arr (n := 6) flI (by first | exact hyr.1 | exact hyr.2 | exact hxr.2.2.1 | exact hxr.2.2.2 | omega | (have qk := hVb k hI21 (by omega); have qh := hb10 k hI21 (by omega); omega)) (by first | exact hyr.1 | exact hyr.2 | exact hxr.2.2.1 | exact hxr.2.2.2 | omega | (have qk := hVb k hI21 (by omega); have qh := hb10 k hI21 (by omega); omega)))) rfl rfl))) ?_
   refine Plan_float 4 rfl rfl (by kernel_rfl) (OK_s (EX_s (PS_fieldAddr fa48_5 rfl))) ?_
   refine Plan_float 5 rfl rfl (by kernel_rfl) (OK_s (EX_s (PS_load rfl tys3 (.head _) Ing.Event.l5 rfl rfl))) ?_
   refine Plan_float 6 rfl rfl (by kernel_rfl) (OK_s (EX_s (PS_add rfl rfl (IntWalk.i64_in _ (by first | exact hyr.1 | exact hyr.2 | exact hxr.2.2.1 | exact hxr.2.2.2 | omega | (have qk := hVb k hI21 (by omega); have qh := hb10 k hI21 (by omega); omega)))))) ?_
   refine Plan_float 7 rfl rfl (by kernel_rfl) (OK_s (EX_s (PS_indexAddr ia22 rfl rfl (by first | exact hyr.1 | exact hyr.2 | exact hxr.2.2.1 | exact hxr.2.2.2 | omega | (have qk := hVb k hI21 (by omega); have qh := hb10 k hI21 (by omega); omega)) (by first | exact hyr.1 | exact hyr.2 | exact hxr.2.2.1 | exact hxr.2.2.2 | omega | (have qk := hVb k hI21 (by omega); have qh := hb10 k hI21 (by omega); omega))))) ?_
   refine Plan_chain 8 rfl (by kernel_rfl) ?_
   refine GL_unit (PU_store ((Lens.id (flA flI).len (flA flI).one).comp (Lens.arr (n := 6) flI (by first | exact hyr.1 | exact hyr.2 | exact hxr.2.2.1 | exact hxr.2.2.2 | omega | (have qk := hVb k hI21 (by omega); have qh := hb10 k hI21 (by omega); omega)) (by first | exact hyr.1 | exact hyr.2 | exact hxr.2.2.1 | exact hxr.2.2.2 | omega | (have qk := hVb k hI21 (by omega); have qh := hb10 k hI21 (by omega); omega)))) rfl rfl rfl sz3 rfl (.tail (.tail .head))) ?_
   refine GL_hand0 rfl ⟨?_, ?_⟩
   · exact (Pend_skip (by kernel_rfl) (Pend_skip (by kernel_rfl) (Pend_skip (by kernel_rfl) (Pend_skip (by kernel_rfl) (Pend_skip (by kernel_rfl) (Pend_skip (by kernel_rfl) (Pend_skip (by kernel_rfl) (Pend_skip (by kernel_rfl) Pend_nil))))))))
   refine Plan_end (by kernel_rfl) ?_
   refine GQ_sub (.cons (k := 2) rfl (.cons (k := 5) rfl (.cons (k := 8) rfl (.cons (k := 9) rfl (.cons (k := 11) rfl (.cons (k := 36) rfl (.cons (k := 37) rfl (.cons (k := 38) rfl (.nil _))))))))) ?_
   refine GQ_then ?_
   refine G_seq ?_
   refine G_region ?_
   refine GL_step rfl (PS_fieldAddr fa48_0 rfl) ?_
   refine GL_step rfl (PS_load rfl tys3 (.head _) Ing.Event.l0 rfl rfl) ?_
   refine GL_step rfl (PS_eql rfl rfl) ?_
   refine GL_nil ?_
   refine GQ_sub (.cons (k := 2) rfl (.cons (k := 5) rfl (.cons (k := 8) rfl (.cons (k := 9) rfl (.cons (k := 11) rfl (.cons (k := 36) rfl (.cons (k := 37) rfl (.cons (k := 38) rfl (.cons (k := 68) rfl (.nil _)))))))))) ?_
   refine GQ_then ?_
   refine G_cond rfl (fun c5 => ?_) (fun c5 => ?_)
   ·
    have c5p := kz c5
    have hyr := hle.2 (of_decide_eq_true c5)
    refine G_region ?_
    refine GL_step rfl (PS_fieldAddr fa48_2 rfl) ?_
    refine GL_step rfl (PS_load rfl tys3 (.head _) Ing.Event.l2 rfl rfl) ?_
    refine GL_step rfl (PS_indexAddr ia23 rfl rfl (by first | exact hyr.1 | exact hyr.2 | exact hxr.2.2.1 | exact hxr.2.2.2 | omega | (have qk := hVb k hI21 (by omega); have qh := hb10 k hI21 (by omega); omega)) (by first | exact hyr.1 | exact hyr.2 | exact hxr.2.2.1 | exact hxr.2.2.2 | omega | (have qk := hVb k hI21 (by omega); have qh := hb10 k hI21 (by omega); omega))) ?_
    refine GL_unit (PU_store ((Lens.id (flA flB).len (flA flB).one).comp (Lens.arr (n := 6) flB (by first | exact hyr.1 | exact hyr.2 | exact hxr.2.2.1 | exact hxr.2.2.2 | omega | (have qk := hVb k hI21 (by omega); have qh := hb10 k hI21 (by omega); omega)) (by first | exact hyr.1 | exact hyr.2 | exact hxr.2.2.1 | exact hxr.2.2.2 | omega | (have qk := hVb k hI21 (by omega); have qh := hb10 k hI21 (by omega); omega)))) rfl rfl rfl sz4 rfl (.tail .head)) ?_
    refine GL_nil ?_
    refine GQ_sub (.cons (k := 2) rfl (.cons (k := 5) rfl (.cons (k := 8) rfl (.cons (k := 9) rfl (.cons (k := 36) rfl (.cons (k := 37) rfl (.cons (k := 38) rfl (.nil _)))))))) ?_
    refine GQ_block ?_
    refine GQ_then ?_
    refine G_region ?_
    refine GL_step rfl (PS_add rfl rfl (IntWalk.i64_in _ (by first | exact hyr.1 | exact hyr.2 | exact hxr.2.2.1 | exact hxr.2.2.2 | omega | (have qk := hVb k hI21 (by omega); have qh := hb10 k hI21 (by omega); omega)))) ?_
    refine GL_step rfl (PS_move rfl) ?_
    refine GL_nil ?_
    refine GQ_sub (.cons (k := 2) rfl (.cons (k := 5) rfl (.cons (k := 8) rfl (.cons (k := 9) rfl (.cons (k := 36) rfl (.cons (k := 37) rfl (.cons (k := 38) rfl (.nil _)))))))) ?_
    refine GQ_next3_ (k + 1) _ _ ?_ ?_ (.cons (k := 38) rfl (.cons (k := 2) rfl (.cons (k := 5) rfl (.cons (k := 8) rfl (.cons (k := 9) rfl (.cons (k := 36) rfl (.cons (k := 37) rfl (.nil _)))))))) (.cons _ (.refl _))
    · exact ⟨by omega, by omega, by rw [take_next (d := default) hI11 (by omega), Turn.hurtA_snoc, Turn.hurtS, if_t c3, ← hI13], by rw [take_next (d := default) hI11 (by omega), Turn.diedA_snoc, Turn.diedS, if_t c5, ← hI14], (by intro c c0 c6; rw [at_put _ _ _ _ hxr.2.2.1 hxr.2.2.2 c0]; have q1 := hI15 c c0 c6; have q2 := hI15 _ hxr.2.2.1 hxr.2.2.2; split <;> omega)⟩
    · omega
   have c5p := kz c5
   refine G_skip ?_
   refine GQ_sub (.cons (k := 2) rfl (.cons (k := 5) rfl (.cons (k := 8) rfl (.cons (k := 9) rfl (.cons (k := 36) rfl (.cons (k := 37) rfl (.cons (k := 38) rfl (.nil _)))))))) ?_
   refine GQ_block ?_
   refine GQ_then ?_
   refine G_region ?_
   refine GL_step rfl (PS_add rfl rfl (IntWalk.i64_in _ (by first | exact hyr.1 | exact hyr.2 | exact hxr.2.2.1 | exact hxr.2.2.2 | omega | (have qk := hVb k hI21 (by omega); have qh := hb10 k hI21 (by omega); omega)))) ?_
   refine GL_step rfl (PS_move rfl) ?_
   refine GL_nil ?_
   refine GQ_sub (.cons (k := 2) rfl (.cons (k := 5) rfl (.cons (k := 8) rfl (.cons (k := 9) rfl (.cons (k := 36) rfl (.cons (k := 37) rfl (.cons (k := 38) rfl (.nil _)))))))) ?_
   refine GQ_next3_ (k + 1) _ _ ?_ ?_ (.cons (k := 38) rfl (.cons (k := 2) rfl (.cons (k := 5) rfl (.cons (k := 8) rfl (.cons (k := 9) rfl (.cons (k := 36) rfl (.cons (k := 37) rfl (.nil _)))))))) (.cons _ (.refl _))
   · exact ⟨by omega, by omega, by rw [take_next (d := default) hI11 (by omega), Turn.hurtA_snoc, Turn.hurtS, if_t c3, ← hI13], by rw [take_next (d := default) hI11 (by omega), Turn.diedA_snoc, Turn.diedS, if_f c5, ← hI14], (by intro c c0 c6; rw [at_put _ _ _ _ hxr.2.2.1 hxr.2.2.2 c0]; have q1 := hI15 c c0 c6; have q2 := hI15 _ hxr.2.2.1 hxr.2.2.2; split <;> omega)⟩
   · omega
  have c3p := kz c3
  refine G_skip ?_
  refine GQ_sub (.cons (k := 2) rfl (.cons (k := 5) rfl (.cons (k := 8) rfl (.cons (k := 9) rfl (.cons (k := 11) rfl (.cons (k := 36) rfl (.cons (k := 37) rfl (.cons (k := 38) rfl (.nil _))))))))) ?_
  refine GQ_then ?_
  refine G_seq ?_
  refine G_region ?_
  refine GL_step rfl (PS_fieldAddr fa48_0 rfl) ?_
  refine GL_step rfl (PS_load rfl tys3 (.head _) Ing.Event.l0 rfl rfl) ?_
  refine GL_step rfl (PS_eql rfl rfl) ?_
  refine GL_nil ?_
  refine GQ_sub (.cons (k := 2) rfl (.cons (k := 5) rfl (.cons (k := 8) rfl (.cons (k := 9) rfl (.cons (k := 11) rfl (.cons (k := 36) rfl (.cons (k := 37) rfl (.cons (k := 38) rfl (.cons (k := 68) rfl (.nil _)))))))))) ?_
  refine GQ_then ?_
  refine G_cond rfl (fun c6 => ?_) (fun c6 => ?_)
  ·
   have c6p := kz c6
   have hyr := hle.2 (of_decide_eq_true c6)
   refine G_region ?_
   refine GL_step rfl (PS_fieldAddr fa48_2 rfl) ?_
   refine GL_step rfl (PS_load rfl tys3 (.head _) Ing.Event.l2 rfl rfl) ?_
   refine GL_step rfl (PS_indexAddr ia23 rfl rfl (by first | exact hyr.1 | exact hyr.2 | exact hxr.2.2.1 | exact hxr.2.2.2 | omega | (have qk := hVb k hI21 (by omega); have qh := hb10 k hI21 (by omega); omega)) (by first | exact hyr.1 | exact hyr.2 | exact hxr.2.2.1 | exact hxr.2.2.2 | omega | (have qk := hVb k hI21 (by omega); have qh := hb10 k hI21 (by omega); omega))) ?_
   refine GL_unit (PU_store ((Lens.id (flA flB).len (flA flB).one).comp (Lens.arr (n := 6) flB (by first | exact hyr.1 | exact hyr.2 | exact hxr.2.2.1 | exact hxr.2.2.2 | omega | (have qk := hVb k hI21 (by omega); have qh := hb10 k hI21 (by omega); omega)) (by first | exact hyr.1 | exact hyr.2 | exact hxr.2.2.1 | exact hxr.2.2.2 | omega | (have qk := hVb k hI21 (by omega); have qh := hb10 k hI21 (by omega); omega)))) rfl rfl rfl sz4 rfl (.tail .head)) ?_
   refine GL_nil ?_
   refine GQ_sub (.cons (k := 2) rfl (.cons (k := 5) rfl (.cons (k := 8) rfl (.cons (k := 9) rfl (.cons (k := 36) rfl (.cons (k := 37) rfl (.cons (k := 38) rfl (.nil _)))))))) ?_
   refine GQ_block ?_
   refine GQ_then ?_
   refine G_region ?_
   refine GL_step rfl (PS_add rfl rfl (IntWalk.i64_in _ (by first | exact hyr.1 | exact hyr.2 | exact hxr.2.2.1 | exact hxr.2.2.2 | omega | (have qk := hVb k hI21 (by omega); have qh := hb10 k hI21 (by omega); omega)))) ?_
   refine GL_step rfl (PS_move rfl) ?_
   refine GL_nil ?_
   refine GQ_sub (.cons (k := 2) rfl (.cons (k := 5) rfl (.cons (k := 8) rfl (.cons (k := 9) rfl (.cons (k := 36) rfl (.cons (k := 37) rfl (.cons (k := 38) rfl (.nil _)))))))) ?_
   refine GQ_next3_ (k + 1) _ _ ?_ ?_ (.cons (k := 38) rfl (.cons (k := 2) rfl (.cons (k := 5) rfl (.cons (k := 8) rfl (.cons (k := 9) rfl (.cons (k := 36) rfl (.cons (k := 37) rfl (.nil _)))))))) (.cons _ (.refl _))
   · exact ⟨by omega, by omega, by rw [take_next (d := default) hI11 (by omega), Turn.hurtA_snoc, Turn.hurtS, if_f c3, ← hI13], by rw [take_next (d := default) hI11 (by omega), Turn.diedA_snoc, Turn.diedS, if_t c6, ← hI14], (by intro c c0 c6; have q1 := hI15 c c0 c6; omega)⟩
   · omega
  have c6p := kz c6
  refine G_skip ?_
  refine GQ_sub (.cons (k := 2) rfl (.cons (k := 5) rfl (.cons (k := 8) rfl (.cons (k := 9) rfl (.cons (k := 36) rfl (.cons (k := 37) rfl (.cons (k := 38) rfl (.nil _)))))))) ?_
  refine GQ_block ?_
  refine GQ_then ?_
  refine G_region ?_
  refine GL_step rfl (PS_add rfl rfl (IntWalk.i64_in _ (by first | exact hyr.1 | exact hyr.2 | exact hxr.2.2.1 | exact hxr.2.2.2 | omega | (have qk := hVb k hI21 (by omega); have qh := hb10 k hI21 (by omega); omega)))) ?_
  refine GL_step rfl (PS_move rfl) ?_
  refine GL_nil ?_
  refine GQ_sub (.cons (k := 2) rfl (.cons (k := 5) rfl (.cons (k := 8) rfl (.cons (k := 9) rfl (.cons (k := 36) rfl (.cons (k := 37) rfl (.cons (k := 38) rfl (.nil _)))))))) ?_
  refine GQ_next3_ (k + 1) _ _ ?_ ?_ (.cons (k := 38) rfl (.cons (k := 2) rfl (.cons (k := 5) rfl (.cons (k := 8) rfl (.cons (k := 9) rfl (.cons (k := 36) rfl (.cons (k := 37) rfl (.nil _)))))))) (.cons _ (.refl _))
  · exact ⟨by omega, by omega, by rw [take_next (d := default) hI11 (by omega), Turn.hurtA_snoc, Turn.hurtS, if_f c3, ← hI13], by rw [take_next (d := default) hI11 (by omega), Turn.diedA_snoc, Turn.diedS, if_f c6, ← hI14], (by intro c c0 c6; have q1 := hI15 c c0 c6; omega)⟩
  · omega
 have c2p := kz c2
 obtain rfl : k = ((Turn.roundR X d).2.1.length : Int) := by omega
 rw [show ((Turn.roundR X d).2.1.length : Int).toNat = (Turn.roundR X d).2.1.length by omega, List.take_length] at hI13 hI14
 have hVe := hI13
 have hDe := hI14
 have hVb := hI15
 refine G_exit ?_
 refine GQ_then_exit ?_
 refine GQ_then_exit ?_
 refine GQ_block_exit ?_
 refine GQ_sub (.cons (k := 2) rfl (.cons (k := 5) rfl (.cons (k := 8) rfl (.cons (k := 9) rfl (.nil _))))) ?_
 refine GQ_then ?_
 refine G_seq ?_
 refine G_seq ?_
 refine G_region ?_
 refine GL_step rfl (PS_move rfl) ?_
 refine GL_nil ?_
 refine GQ_then ?_
 refine G_block ?_
 refine G_subF (.cons (k := 73) rfl (.cons (k := 2) rfl (.cons (k := 5) rfl (.cons (k := 8) rfl (.cons (k := 9) rfl (.nil _)))))) ?_
 refine G_loop1_ (fun (k : Int) => 0 ≤ k ∧ k ≤ 6) (fun (k : Int) => (6 - k).toNat) (fun (k : Int) => [(73, .int .i64 k)]) (fun (k : Int) => []) (0) ?_ rfl rfl (fun k hI2 => ?_)
 · exact ⟨by omega, by omega⟩
 obtain ⟨hI21, hI22⟩ := hI2
 refine G_seq ?_
 refine G_region ?_
 refine GL_step rfl (PS_lss rfl rfl) ?_
 refine GL_nil ?_
 refine GQ_then ?_
 refine G_seq ?_
 refine G_cond rfl (fun c7 => ?_) (fun c7 => ?_)
 ·
  have c7p := kz c7
  refine G_skip ?_
  refine GQ_sub (.cons (k := 2) rfl (.cons (k := 5) rfl (.cons (k := 8) rfl (.cons (k := 9) rfl (.cons (k := 73) rfl (.nil _)))))) ?_
  refine GQ_then ?_
  refine G_seq ?_
  refine G_block ?_
  refine G_seq ?_
  refine G_region ?_
  refine GL_step rfl (PS_move rfl) ?_
  refine GL_step rfl (PS_assign rfl) ?_
  refine GL_nil ?_
  refine GQ_sub (.cons (k := 2) rfl (.cons (k := 5) rfl (.cons (k := 8) rfl (.cons (k := 9) rfl (.cons (k := 12) rfl (.cons (k := 73) rfl (.nil _))))))) ?_
  refine GQ_then ?_
  refine G_seq ?_
  refine G_planN (N := 12) [0, 0, 3, 7, 0, 0, 48, 112, 0, 0, 783, 2047] mix (by kernel_rfl) rfl ?_
  refine Plan_float 0 rfl rfl (by kernel_rfl) (OK_s (EX_s (PS_move rfl))) ?_
  refine Plan_float 1 rfl rfl (by kernel_rfl) (OK_s (EX_s (PS_fieldAddr fa34_2 rfl))) ?_
  refine Plan_float 2 rfl rfl (by kernel_rfl) (OK_s (EX_s (PS_indexAddr ia32 rfl rfl (by first | exact hyr.1 | exact hyr.2 | exact hxr.2.2.1 | exact hxr.2.2.2 | omega | (have qk := hVb k hI21 (by omega); have qh := hb10 k hI21 (by omega); omega)) (by first | exact hyr.1 | exact hyr.2 | exact hxr.2.2.1 | exact hxr.2.2.2 | omega | (have qk := hVb k hI21 (by omega); have qh := hb10 k hI21 (by omega); omega))))) ?_
  refine Plan_float 3 rfl rfl (by kernel_rfl) (OK_s (EX_s (PS_loadA rfl tya31 (.tail _ (.tail _ (.tail _ (.tail _ (.head _))))) (Land.l2.comp (Lens.arr (n := 6) Being.fl (by first | exact hyr.1 | exact hyr.2 | exact hxr.2.2.1 | exact hxr.2.2.2 | omega | (have qk := hVb k hI21 (by omega); have qh := hb10 k hI21 (by omega); omega)) (by first | exact hyr.1 | exact hyr.2 | exact hxr.2.2.1 | exact hxr.2.2.2 | omega | (have qk := hVb k hI21 (by omega); have qh := hb10 k hI21 (by omega); omega)))) rfl))) ?_
  refine Plan_float 4 rfl rfl (by kernel_rfl) (OK_s (EX_s (PS_move rfl))) ?_
  refine Plan_float 5 rfl rfl (by kernel_rfl) (OK_s (EX_s (PS_fieldAddr fa34_2 rfl))) ?_
  refine Plan_float 6 rfl rfl (by kernel_rfl) (OK_s (EX_s (PS_indexAddr ia32 rfl rfl (by first | exact hyr.1 | exact hyr.2 | exact hxr.2.2.1 | exact hxr.2.2.2 | omega | (have qk := hVb k hI21 (by omega); have qh := hb10 k hI21 (by omega); omega)) (by first | exact hyr.1 | exact hyr.2 | exact hxr.2.2.1 | exact hxr.2.2.2 | omega | (have qk := hVb k hI21 (by omega); have qh := hb10 k hI21 (by omega); omega))))) ?_
  refine Plan_float 7 rfl rfl (by kernel_rfl) (OK_s (EX_s (PS_loadA rfl tya31 (.tail _ (.tail _ (.head _))) (Land.l2.comp (Lens.arr (n := 6) Being.fl (by first | exact hyr.1 | exact hyr.2 | exact hxr.2.2.1 | exact hxr.2.2.2 | omega | (have qk := hVb k hI21 (by omega); have qh := hb10 k hI21 (by omega); omega)) (by first | exact hyr.1 | exact hyr.2 | exact hxr.2.2.1 | exact hxr.2.2.2 | omega | (have qk := hVb k hI21 (by omega); have qh := hb10 k hI21 (by omega); omega)))) rfl))) ?_
  refine Plan_two 8 9 rfl rfl (by kernel_rfl) ?_ ?_
  ·
   refine GL_alloc rfl zv31 rfl (fun b6 => ?_)
   refine GL_hand rfl ⟨?_, ?_⟩
   · exact (Pend_okv rfl (OK_s (EX_s (PS_loadA rfl tya31 (.tail _ (.tail _ (.tail _ (.head _)))) (Land.l2.comp (Lens.arr (n := 6) Being.fl (by first | exact hyr.1 | exact hyr.2 | exact hxr.2.2.1 | exact hxr.2.2.2 | omega | (have qk := hVb k hI21 (by omega); have qh := hb10 k hI21 (by omega); omega)) (by first | exact hyr.1 | exact hyr.2 | exact hxr.2.2.1 | exact hxr.2.2.2 | omega | (have qk := hVb k hI21 (by omega); have qh := hb10 k hI21 (by omega); omega)))) rfl))) rfl rfl (Pend_okv rfl (OK_s (EX_s (PS_indexAddr ia32 rfl rfl (by first | exact hyr.1 | exact hyr.2 | exact hxr.2.2.1 | exact hxr.2.2.2 | omega | (have qk := hVb k hI21 (by omega); have qh := hb10 k hI21 (by omega); omega)) (by first | exact hyr.1 | exact hyr.2 | exact hxr.2.2.1 | exact hxr.2.2.2 | omega | (have qk := hVb k hI21 (by omega); have qh := hb10 k hI21 (by omega); omega))))) rfl rfl (Pend_okv rfl (OK_s (EX_s (PS_fieldAddr fa34_2 rfl))) rfl rfl (Pend_okv rfl (OK_s (EX_s (PS_move rfl))) rfl rfl (Pend_okv rfl (OK_s (EX_s (PS_loadA rfl tya31 (.tail _ (.tail _ (.tail _ (.tail _ (.tail _ (.head _)))))) (Land.l2.comp (Lens.arr (n := 6) Being.fl (by first | exact hyr.1 | exact hyr.2 | exact hxr.2.2.1 | exact hxr.2.2.2 | omega | (have qk := hVb k hI21 (by omega); have qh := hb10 k hI21 (by omega); omega)) (by first | exact hyr.1 | exact hyr.2 | exact hxr.2.2.1 | exact hxr.2.2.2 | omega | (have qk := hVb k hI21 (by omega); have qh := hb10 k hI21 (by omega); omega)))) rfl))) rfl rfl (Pend_okv rfl (OK_s (EX_s (PS_indexAddr ia32 rfl rfl (by first | exact hyr.1 | exact hyr.2 | exact hxr.2.2.1 | exact hxr.2.2.2 | omega | (have qk := hVb k hI21 (by omega); have qh := hb10 k hI21 (by omega); omega)) (by first | exact hyr.1 | exact hyr.2 | exact hxr.2.2.1 | exact hxr.2.2.2 | omega | (have qk := hVb k hI21 (by omega); have qh := hb10 k hI21 (by omega); omega))))) rfl rfl (Pend_okv rfl (OK_s (EX_s (PS_fieldAddr fa34_2 rfl))) rfl rfl (Pend_okv rfl (OK_s (EX_s (PS_move rfl))) rfl rfl Pend_nil))))))))
   refine Plan_chain 9 rfl (by kernel_rfl) ?_
   refine GL_alloc rfl zv31 rfl (fun b7 => ?_)
   refine GL_hand rfl ⟨?_, ?_⟩
   · exact (Pend_okv rfl (OK_s (EX_s (PS_loadA rfl tya31 (.tail _ (.tail _ (.tail _ (.tail _ (.head _))))) (Land.l2.comp (Lens.arr (n := 6) Being.fl (by first | exact hyr.1 | exact hyr.2 | exact hxr.2.2.1 | exact hxr.2.2.2 | omega | (have qk := hVb k hI21 (by omega); have qh := hb10 k hI21 (by omega); omega)) (by first | exact hyr.1 | exact hyr.2 | exact hxr.2.2.1 | exact hxr.2.2.2 | omega | (have qk := hVb k hI21 (by omega); have qh := hb10 k hI21 (by omega); omega)))) rfl))) rfl rfl (Pend_okv rfl (OK_s (EX_s (PS_indexAddr ia32 rfl rfl (by first | exact hyr.1 | exact hyr.2 | exact hxr.2.2.1 | exact hxr.2.2.2 | omega | (have qk := hVb k hI21 (by omega); have qh := hb10 k hI21 (by omega); omega)) (by first | exact hyr.1 | exact hyr.2 | exact hxr.2.2.1 | exact hxr.2.2.2 | omega | (have qk := hVb k hI21 (by omega); have qh := hb10 k hI21 (by omega); omega))))) rfl rfl (Pend_okv rfl (OK_s (EX_s (PS_fieldAddr fa34_2 rfl))) rfl rfl (Pend_okv rfl (OK_s (EX_s (PS_move rfl))) rfl rfl (Pend_okv rfl (OK_s (EX_s (PS_loadA rfl tya31 (.tail _ (.tail _ (.tail _ (.tail _ (.tail _ (.tail _ (.head _))))))) (Land.l2.comp (Lens.arr (n := 6) Being.fl (by first | exact hyr.1 | exact hyr.2 | exact hxr.2.2.1 | exact hxr.2.2.2 | omega | (have qk := hVb k hI21 (by omega); have qh := hb10 k hI21 (by omega); omega)) (by first | exact hyr.1 | exact hyr.2 | exact hxr.2.2.1 | exact hxr.2.2.2 | omega | (have qk := hVb k hI21 (by omega); have qh := hb10 k hI21 (by omega); omega)))) rfl))) rfl rfl (Pend_okv rfl (OK_s (EX_s (PS_indexAddr ia32 rfl rfl (by first | exact hyr.1 | exact hyr.2 | exact hxr.2.2.1 | exact hxr.2.2.2 | omega | (have qk := hVb k hI21 (by omega); have qh := hb10 k hI21 (by omega); omega)) (by first | exact hyr.1 | exact hyr.2 | exact hxr.2.2.1 | exact hxr.2.2.2 | omega | (have qk := hVb k hI21 (by omega); have qh := hb10 k hI21 (by omega); omega))))) rfl rfl (Pend_okv rfl (OK_s (EX_s (PS_fieldAddr fa34_2 rfl))) rfl rfl (Pend_okv rfl (OK_s (EX_s (PS_move rfl))) rfl rfl Pend_nil))))))))
   refine Plan_chain 10 rfl (by kernel_rfl) ?_
   refine GL_unit (PU_store (Lens.id Being.fl.len Being.fl.one) rfl rfl rfl sz31 rfl (.tail .head)) ?_
   refine GL_hand0 rfl ⟨?_, ?_⟩
   · exact (Pend_okv rfl (OK_s (EX_s (PS_loadA rfl tya31 (.tail _ (.tail _ (.tail _ (.tail _ (.head _))))) (Land.l2.comp (Lens.arr (n := 6) Being.fl (by first | exact hyr.1 | exact hyr.2 | exact hxr.2.2.1 | exact hxr.2.2.2 | omega | (have qk := hVb k hI21 (by omega); have qh := hb10 k hI21 (by omega); omega)) (by first | exact hyr.1 | exact hyr.2 | exact hxr.2.2.1 | exact hxr.2.2.2 | omega | (have qk := hVb k hI21 (by omega); have qh := hb10 k hI21 (by omega); omega)))) rfl))) rfl rfl (Pend_okv rfl (OK_s (EX_s (PS_indexAddr ia32 rfl rfl (by first | exact hyr.1 | exact hyr.2 | exact hxr.2.2.1 | exact hxr.2.2.2 | omega | (have qk := hVb k hI21 (by omega); have qh := hb10 k hI21 (by omega); omega)) (by first | exact hyr.1 | exact hyr.2 | exact hxr.2.2.1 | exact hxr.2.2.2 | omega | (have qk := hVb k hI21 (by omega); have qh := hb10 k hI21 (by omega); omega))))) rfl rfl (Pend_okv rfl (OK_s (EX_s (PS_fieldAddr fa34_2 rfl))) rfl rfl (Pend_okv rfl (OK_s (EX_s (PS_move rfl))) rfl rfl (Pend_skip (by kernel_rfl) (Pend_skip (by kernel_rfl) (Pend_skip (by kernel_rfl) (Pend_skip (by kernel_rfl) Pend_nil))))))))
   refine Plan_chain 11 rfl (by kernel_rfl) ?_
   refine GL_unit (PU_store (Lens.id Being.fl.len Being.fl.one) rfl rfl rfl sz31 rfl .head) ?_
   refine GL_hand0 rfl ⟨?_, ?_⟩
   · exact (Pend_skip (by kernel_rfl) (Pend_skip (by kernel_rfl) (Pend_skip (by kernel_rfl) (Pend_skip (by kernel_rfl) (Pend_skip (by kernel_rfl) (Pend_skip (by kernel_rfl) (Pend_skip (by kernel_rfl) (Pend_skip (by kernel_rfl) Pend_nil))))))))
   refine Plan_end (by kernel_rfl) ?_
   refine GQ_sub (.cons (k := 2) rfl (.cons (k := 5) rfl (.cons (k := 8) rfl (.cons (k := 9) rfl (.cons (k := 12) rfl (.cons (k := 13) rfl (.cons (k := 14) rfl (.cons (k := 73) rfl (.nil _))))))))) ?_
   refine GQ_then ?_
   refine G_seq ?_
   refine G_seq ?_
   refine G_planN (N := 29) [0, 1, 3, 7, 15, 31, 63, 31, 159, 31, 543, 1567, 3999, 8191, 16383, 32767, 65535, 32767, 163839, 524287, 1048575, 2097151, 4194303, 8388607, 4194303, 20971519, 67108863, 134217727, 268435455] mix (by kernel_rfl) rfl ?_
   refine Plan_float 0 rfl rfl (by kernel_rfl) (OK_s (EX_s (PS_move rfl))) ?_
   refine Plan_float 1 rfl rfl (by kernel_rfl) (OK_s (EX_s (PS_indexAddr ia23 rfl rfl (by first | exact hyr.1 | exact hyr.2 | exact hxr.2.2.1 | exact hxr.2.2.2 | omega | (have qk := hVb k hI21 (by omega); have qh := hb10 k hI21 (by omega); omega)) (by first | exact hyr.1 | exact hyr.2 | exact hxr.2.2.1 | exact hxr.2.2.2 | omega | (have qk := hVb k hI21 (by omega); have qh := hb10 k hI21 (by omega); omega))))) ?_
   refine Plan_float 2 rfl rfl (by kernel_rfl) (OK_s (EX_s (PS_load rfl tys4 (.tail _ (.tail _ (.head _))) ((Lens.id (flA flB).len (flA flB).one).comp (Lens.arr (n := 6) flB (by first | exact hyr.1 | exact hyr.2 | exact hxr.2.2.1 | exact hxr.2.2.2 | omega | (have qk := hVb k hI21 (by omega); have qh := hb10 k hI21 (by omega); omega)) (by first | exact hyr.1 | exact hyr.2 | exact hxr.2.2.1 | exact hxr.2.2.2 | omega | (have qk := hVb k hI21 (by omega); have qh := hb10 k hI21 (by omega); omega)))) rfl rfl))) ?_
   refine Plan_float 3 rfl rfl (by kernel_rfl) (OK_s (EX_s (PS_not rfl))) ?_
   refine Plan_float 4 rfl rfl (by kernel_rfl) (OK_s (EX_s (PS_move rfl))) ?_
   refine Plan_float 5 rfl rfl (by kernel_rfl) (OK_gt (t := 88) rfl rfl (fun q => EX_s (PS_fieldAddr fa31_4 rfl))) ?_
   refine Plan_float 6 rfl rfl (by kernel_rfl) (OK_gt (t := 88) rfl rfl (fun q => EX_s (PS_load (cvE rfl q) tys3 (.head _) Being.l4 rfl rfl))) ?_
   refine Plan_float 7 rfl rfl (by kernel_rfl) (OK_gt (t := 88) rfl rfl (fun q => EX_s (PS_fieldAddr fa31_4 rfl))) ?_
   refine Plan_float 8 rfl rfl (by kernel_rfl) (OK_gt (t := 88) rfl rfl (fun q => EX_s (PS_load (cvE rfl q) tys3 (.tail _ (.head _)) Being.l4 rfl rfl))) ?_
   refine Plan_float 9 rfl rfl (by kernel_rfl) (OK_gt (t := 88) rfl rfl (fun q => EX_s (PS_move rfl))) ?_
   refine Plan_float 10 rfl rfl (by kernel_rfl) (OK_gt (t := 88) rfl rfl (fun q => by have q1 := q; (try simp at q1); exact EX_s (PS_indexAddr ia22 rfl (cvE rfl q) (by first | exact hyr.1 | exact hyr.2 | exact hxr.2.2.1 | exact hxr.2.2.2 | omega | (have qk := hVb k hI21 (by omega); have qh := hb10 k hI21 (by omega); omega)) (by first | exact hyr.1 | exact hyr.2 | exact hxr.2.2.1 | exact hxr.2.2.2 | omega | (have qk := hVb k hI21 (by omega); have qh := hb10 k hI21 (by omega); omega))))) ?_
   refine Plan_float 11 rfl rfl (by kernel_rfl) (OK_gt (t := 88) rfl rfl (fun q => by have q1 := q; (try simp at q1); exact EX_s (PS_load (cvE rfl q) tys3 (.tail _ (.tail _ (.tail _ (.head _)))) ((Lens.id (flA flI).len (flA flI).one).comp (Lens.arr (n := 6) flI (by first | exact hyr.1 | exact hyr.2 | exact hxr.2.2.1 | exact hxr.2.2.2 | omega | (have qk := hVb k hI21 (by omega); have qh := hb10 k hI21 (by omega); omega)) (by first | exact hyr.1 | exact hyr.2 | exact hxr.2.2.1 | exact hxr.2.2.2 | omega | (have qk := hVb k hI21 (by omega); have qh := hb10 k hI21 (by omega); omega)))) rfl rfl))) ?_
   refine Plan_float 12 rfl rfl (by kernel_rfl) (OK_gt (t := 88) rfl rfl (fun q => by have q1 := q; (try simp at q1); exact EX_s (PS_sub (cvE rfl q) (cvE rfl q) (IntWalk.i64_in _ (by first | exact hyr.1 | exact hyr.2 | exact hxr.2.2.1 | exact hxr.2.2.2 | omega | (have qk := hVb k hI21 (by omega); have qh := hb10 k hI21 (by omega); omega)))))) ?_
   refine Plan_float 13 rfl rfl (by kernel_rfl) (OK_gt (t := 88) rfl rfl (fun q => EX_s (PS_neq (cvE rfl q) (cvE rfl q)))) ?_
   refine Plan_float 14 rfl rfl (by kernel_rfl) (OK_gt (t := 88) rfl rfl (fun q => EX_s (PS_move (cvE rfl q)))) ?_
   refine Plan_float 15 rfl rfl (by kernel_rfl) (OK_gfc (t := 98) rfl rfl (fun qc q => EX_s (PS_fieldAddr fa31_3 rfl))) ?_
   refine Plan_float 16 rfl rfl (by kernel_rfl) (OK_gfc (t := 98) rfl rfl (fun qc q => EX_s (PS_load (cvE rfl (by rw [qc, q]; rfl)) tys3 (.head _) Being.l3 rfl rfl))) ?_
   refine Plan_float 17 rfl rfl (by kernel_rfl) (OK_gfc (t := 98) rfl rfl (fun qc q => EX_s (PS_fieldAddr fa31_3 rfl))) ?_
   refine Plan_float 18 rfl rfl (by kernel_rfl) (OK_gfc (t := 98) rfl rfl (fun qc q => EX_s (PS_load (cvE rfl (by rw [qc, q]; rfl)) tys3 (.tail _ (.head _)) Being.l3 rfl rfl))) ?_
   refine Plan_float 19 rfl rfl (by kernel_rfl) (OK_gfc (t := 98) rfl rfl (fun qc q => EX_s (PS_neq (cvE rfl (by rw [qc, q]; rfl)) (cvE rfl (by rw [qc, q]; rfl))))) ?_
   refine Plan_float 20 rfl rfl (by kernel_rfl) (OK_gt (t := 88) rfl rfl (fun q => EX_s (PS_or (cvE rfl q) rfl (fun h => by rw [q, h]; rfl)))) ?_
   refine Plan_float 21 rfl rfl (by kernel_rfl) (OK_gt (t := 88) rfl rfl (fun q => EX_s (PS_move (cvE rfl q)))) ?_
   refine Plan_float 22 rfl rfl (by kernel_rfl) (OK_gfc (t := 105) rfl rfl (fun qc q => EX_s (PS_fieldAddr fa31_1 rfl))) ?_
   refine Plan_float 23 rfl rfl (by kernel_rfl) (OK_gfc (t := 105) rfl rfl (fun qc q => EX_s (PS_load (cvE rfl (by rw [qc, q]; rfl)) tys4 (.head _) Being.l1 rfl rfl))) ?_
   refine Plan_float 24 rfl rfl (by kernel_rfl) (OK_gfc (t := 105) rfl rfl (fun qc q => EX_s (PS_fieldAddr fa31_1 rfl))) ?_
   refine Plan_float 25 rfl rfl (by kernel_rfl) (OK_gfc (t := 105) rfl rfl (fun qc q => EX_s (PS_load (cvE rfl (by rw [qc, q]; rfl)) tys4 (.tail _ (.head _)) Being.l1 rfl rfl))) ?_
   refine Plan_float 26 rfl rfl (by kernel_rfl) (OK_gfc (t := 105) rfl rfl (fun qc q => EX_s (PS_neq_bool Tryd.underlying4 (cvE rfl (by rw [qc, q]; rfl)) (cvE rfl (by rw [qc, q]; rfl))))) ?_
   refine Plan_float 27 rfl rfl (by kernel_rfl) (OK_gt (t := 88) rfl rfl (fun q => EX_s (PS_or (cvE rfl q) rfl (fun h => by rw [q, h]; rfl)))) ?_
   refine Plan_float 28 rfl rfl (by kernel_rfl) (OK_s (EX_s (PS_and rfl rfl (fun h => h)))) ?_
   refine Plan_end (by kernel_rfl) ?_
   refine GQ_sub (.cons (k := 2) rfl (.cons (k := 5) rfl (.cons (k := 8) rfl (.cons (k := 9) rfl (.cons (k := 12) rfl (.cons (k := 13) rfl (.cons (k := 14) rfl (.cons (k := 73) rfl (.cons (k := 112) rfl (.nil _)))))))))) ?_
   refine GQ_then ?_
   refine G_cond rfl (fun c8 => ?_) (fun c8 => ?_)
   ·
    have c8p := kz c8
    refine G_seq ?_
    refine G_region ?_
    refine GL_step rfl (PS_assign rfl) ?_
    refine GL_nil ?_
    refine GQ_sub (.cons (k := 4) rfl (.nil _)) ?_
    refine GQ_then ?_
    refine G_ret ?_
    refine GQ_then_ret ?_
    refine GQ_block_ret ?_
    refine GQ_then_ret ?_
    refine GQ_then_ret ?_
    refine GQ_block_ret ?_
    refine GQ_then_ret ?_
    refine GQ_ret rfl (.tmp rfl .nil) ?_
    exfalso
    have hc := c8
    simp only [Bool.and_eq_true, Bool.or_eq_true, Bool.not_eq_true', decide_eq_false_iff_not, bne_iff_ne, ne_eq] at hc
    obtain ⟨hc1, hc2⟩ := hc
    have hu := hls.un k hI21 (by omega) (by rw [← hDe]; exact hc1)
    rw [hu.2.1, hu.2.2, hVe, hu.1] at hc2
    rcases hc2 with (hc2 | hc2) | hc2 <;> exact hc2 rfl
   have c8p := kz c8
   refine G_skip ?_
   refine GQ_sub (.cons (k := 2) rfl (.cons (k := 5) rfl (.cons (k := 8) rfl (.cons (k := 9) rfl (.cons (k := 12) rfl (.cons (k := 13) rfl (.cons (k := 14) rfl (.cons (k := 73) rfl (.nil _))))))))) ?_
   refine GQ_then ?_
   refine G_seq ?_
   refine G_planN (N := 18) [0, 1, 3, 7, 15, 31, 63, 15, 143, 511, 1023, 2047, 4095, 2047, 10239, 32767, 65535, 131071] mix (by kernel_rfl) rfl ?_
   refine Plan_float 0 rfl rfl (by kernel_rfl) (OK_s (EX_s (PS_move rfl))) ?_
   refine Plan_float 1 rfl rfl (by kernel_rfl) (OK_s (EX_s (PS_indexAddr ia23 rfl rfl (by first | exact hyr.1 | exact hyr.2 | exact hxr.2.2.1 | exact hxr.2.2.2 | omega | (have qk := hVb k hI21 (by omega); have qh := hb10 k hI21 (by omega); omega)) (by first | exact hyr.1 | exact hyr.2 | exact hxr.2.2.1 | exact hxr.2.2.2 | omega | (have qk := hVb k hI21 (by omega); have qh := hb10 k hI21 (by omega); omega))))) ?_
   refine Plan_float 2 rfl rfl (by kernel_rfl) (OK_s (EX_s (PS_load rfl tys4 (.tail _ (.tail _ (.head _))) ((Lens.id (flA flB).len (flA flB).one).comp (Lens.arr (n := 6) flB (by first | exact hyr.1 | exact hyr.2 | exact hxr.2.2.1 | exact hxr.2.2.2 | omega | (have qk := hVb k hI21 (by omega); have qh := hb10 k hI21 (by omega); omega)) (by first | exact hyr.1 | exact hyr.2 | exact hxr.2.2.1 | exact hxr.2.2.2 | omega | (have qk := hVb k hI21 (by omega); have qh := hb10 k hI21 (by omega); omega)))) rfl rfl))) ?_
   refine Plan_float 3 rfl rfl (by kernel_rfl) (OK_s (EX_s (PS_move rfl))) ?_
   refine Plan_float 4 rfl rfl (by kernel_rfl) (OK_gt (t := 116) rfl rfl (fun q => EX_s (PS_move rfl))) ?_
   refine Plan_float 5 rfl rfl (by kernel_rfl) (OK_gt (t := 116) rfl rfl (fun q => by have q1 := q; (try simp at q1); exact EX_s (PS_indexAddr ia22 rfl (cvE rfl q) (by first | exact hyr.1 | exact hyr.2 | exact hxr.2.2.1 | exact hxr.2.2.2 | omega | (have qk := hVb k hI21 (by omega); have qh := hb10 k hI21 (by omega); omega)) (by first | exact hyr.1 | exact hyr.2 | exact hxr.2.2.1 | exact hxr.2.2.2 | omega | (have qk := hVb k hI21 (by omega); have qh := hb10 k hI21 (by omega); omega))))) ?_
   refine Plan_float 6 rfl rfl (by kernel_rfl) (OK_gt (t := 116) rfl rfl (fun q => by have q1 := q; (try simp at q1); exact EX_s (PS_load (cvE rfl q) tys3 (.tail _ (.tail _ (.tail _ (.head _)))) ((Lens.id (flA flI).len (flA flI).one).comp (Lens.arr (n := 6) flI (by first | exact hyr.1 | exact hyr.2 | exact hxr.2.2.1 | exact hxr.2.2.2 | omega | (have qk := hVb k hI21 (by omega); have qh := hb10 k hI21 (by omega); omega)) (by first | exact hyr.1 | exact hyr.2 | exact hxr.2.2.1 | exact hxr.2.2.2 | omega | (have qk := hVb k hI21 (by omega); have qh := hb10 k hI21 (by omega); omega)))) rfl rfl))) ?_
   refine Plan_float 7 rfl rfl (by kernel_rfl) (OK_gt (t := 116) rfl rfl (fun q => EX_s (PS_fieldAddr fa31_4 rfl))) ?_
   refine Plan_float 8 rfl rfl (by kernel_rfl) (OK_gt (t := 116) rfl rfl (fun q => EX_s (PS_load (cvE rfl q) tys3 (.tail _ (.head _)) Being.l4 rfl rfl))) ?_
   refine Plan_float 9 rfl rfl (by kernel_rfl) (OK_gt (t := 116) rfl rfl (fun q => EX_s (PS_lss (cvE rfl q) (cvE rfl q)))) ?_
   refine Plan_float 10 rfl rfl (by kernel_rfl) (OK_gt (t := 116) rfl rfl (fun q => EX_s (PS_move (cvE rfl q)))) ?_
   refine Plan_float 11 rfl rfl (by kernel_rfl) (OK_gfc (t := 123) rfl rfl (fun qc q => EX_s (PS_fieldAddr fa31_1 rfl))) ?_
   refine Plan_float 12 rfl rfl (by kernel_rfl) (OK_gfc (t := 123) rfl rfl (fun qc q => EX_s (PS_load (cvE rfl (by rw [qc, q]; rfl)) tys4 (.head _) Being.l1 rfl rfl))) ?_
   refine Plan_float 13 rfl rfl (by kernel_rfl) (OK_gfc (t := 123) rfl rfl (fun qc q => EX_s (PS_move rfl))) ?_
   refine Plan_float 14 rfl rfl (by kernel_rfl) (OK_gfc (t := 123) rfl rfl (fun qc q => EX_s (PS_geq (cvE rfl (by rw [qc, q]; rfl)) rfl))) ?_
   refine Plan_float 15 rfl rfl (by kernel_rfl) (OK_gfc (t := 123) rfl rfl (fun qc q => EX_s (PS_neq_bool Tryd.underlying4 (cvE rfl (by rw [qc, q]; rfl)) (cvE rfl (by rw [qc, q]; rfl))))) ?_
   refine Plan_float 16 rfl rfl (by kernel_rfl) (OK_gt (t := 116) rfl rfl (fun q => EX_s (PS_or (cvE rfl q) rfl (fun h => by rw [q, h]; rfl)))) ?_
   refine Plan_float 17 rfl rfl (by kernel_rfl) (OK_s (EX_s (PS_and rfl rfl (fun h => h)))) ?_
   refine Plan_end (by kernel_rfl) ?_
   refine GQ_sub (.cons (k := 2) rfl (.cons (k := 5) rfl (.cons (k := 8) rfl (.cons (k := 9) rfl (.cons (k := 73) rfl (.cons (k := 130) rfl (.nil _))))))) ?_
   refine GQ_then ?_
   refine G_cond rfl (fun c9 => ?_) (fun c9 => ?_)
   ·
    have c9p := kz c9
    refine G_seq ?_
    refine G_region ?_
    refine GL_step rfl (PS_assign rfl) ?_
    refine GL_nil ?_
    refine GQ_sub (.cons (k := 4) rfl (.nil _)) ?_
    refine GQ_then ?_
    refine G_ret ?_
    refine GQ_block_ret ?_
    refine GQ_then_ret ?_
    refine GQ_then_ret ?_
    refine GQ_block_ret ?_
    refine GQ_then_ret ?_
    refine GQ_ret rfl (.tmp rfl .nil) ?_
    exfalso
    have hc := c9
    simp only [Bool.and_eq_true, Bool.or_eq_true, decide_eq_true_eq, bne_iff_ne, ne_eq] at hc
    obtain ⟨hc1, hc2⟩ := hc
    have hu := hls.di k hI21 (by omega) (by rw [← hDe]; exact hc1)
    rw [hu.2.1, hVe] at hc2
    rcases hc2 with hc2 | hc2
    · have hu1 : (X.beings.at k).health ≤ (Turn.hurtA (Turn.roundR X d).2.1).at k := hu.1
      omega
    · exact hc2 rfl
   have c9p := kz c9
   refine G_skip ?_
   refine GQ_sub (.cons (k := 2) rfl (.cons (k := 5) rfl (.cons (k := 8) rfl (.cons (k := 9) rfl (.cons (k := 73) rfl (.nil _)))))) ?_
   refine GQ_block ?_
   refine GQ_then ?_
   refine G_region ?_
   refine GL_step rfl (PS_add rfl rfl (IntWalk.i64_in _ (by first | exact hyr.1 | exact hyr.2 | exact hxr.2.2.1 | exact hxr.2.2.2 | omega | (have qk := hVb k hI21 (by omega); have qh := hb10 k hI21 (by omega); omega)))) ?_
   refine GL_step rfl (PS_move rfl) ?_
   refine GL_nil ?_
   refine GQ_sub (.cons (k := 2) rfl (.cons (k := 5) rfl (.cons (k := 8) rfl (.cons (k := 9) rfl (.cons (k := 73) rfl (.nil _)))))) ?_
   refine GQ_next1_ (k + 1) ?_ ?_ (.cons (k := 73) rfl (.cons (k := 2) rfl (.cons (k := 5) rfl (.cons (k := 8) rfl (.cons (k := 9) rfl (.nil _)))))) (.cons _ (.cons _ (.refl _)))
   · exact ⟨by omega, by omega⟩
   · omega
  ·
   refine GL_alloc rfl zv31 rfl (fun b8 => ?_)
   refine GL_hand rfl ⟨?_, ?_⟩
   · exact (Pend_okv rfl (OK_s (EX_s (PS_loadA rfl tya31 (.tail _ (.tail _ (.tail _ (.head _)))) (Land.l2.comp (Lens.arr (n := 6) Being.fl (by first | exact hyr.1 | exact hyr.2 | exact hxr.2.2.1 | exact hxr.2.2.2 | omega | (have qk := hVb k hI21 (by omega); have qh := hb10 k hI21 (by omega); omega)) (by first | exact hyr.1 | exact hyr.2 | exact hxr.2.2.1 | exact hxr.2.2.2 | omega | (have qk := hVb k hI21 (by omega); have qh := hb10 k hI21 (by omega); omega)))) rfl))) rfl rfl (Pend_okv rfl (OK_s (EX_s (PS_indexAddr ia32 rfl rfl (by first | exact hyr.1 | exact hyr.2 | exact hxr.2.2.1 | exact hxr.2.2.2 | omega | (have qk := hVb k hI21 (by omega); have qh := hb10 k hI21 (by omega); omega)) (by first | exact hyr.1 | exact hyr.2 | exact hxr.2.2.1 | exact hxr.2.2.2 | omega | (have qk := hVb k hI21 (by omega); have qh := hb10 k hI21 (by omega); omega))))) rfl rfl (Pend_okv rfl (OK_s (EX_s (PS_fieldAddr fa34_2 rfl))) rfl rfl (Pend_okv rfl (OK_s (EX_s (PS_move rfl))) rfl rfl (Pend_okv rfl (OK_s (EX_s (PS_loadA rfl tya31 (.tail _ (.tail _ (.tail _ (.tail _ (.tail _ (.head _)))))) (Land.l2.comp (Lens.arr (n := 6) Being.fl (by first | exact hyr.1 | exact hyr.2 | exact hxr.2.2.1 | exact hxr.2.2.2 | omega | (have qk := hVb k hI21 (by omega); have qh := hb10 k hI21 (by omega); omega)) (by first | exact hyr.1 | exact hyr.2 | exact hxr.2.2.1 | exact hxr.2.2.2 | omega | (have qk := hVb k hI21 (by omega); have qh := hb10 k hI21 (by omega); omega)))) rfl))) rfl rfl (Pend_okv rfl (OK_s (EX_s (PS_indexAddr ia32 rfl rfl (by first | exact hyr.1 | exact hyr.2 | exact hxr.2.2.1 | exact hxr.2.2.2 | omega | (have qk := hVb k hI21 (by omega); have qh := hb10 k hI21 (by omega); omega)) (by first | exact hyr.1 | exact hyr.2 | exact hxr.2.2.1 | exact hxr.2.2.2 | omega | (have qk := hVb k hI21 (by omega); have qh := hb10 k hI21 (by omega); omega))))) rfl rfl (Pend_okv rfl (OK_s (EX_s (PS_fieldAddr fa34_2 rfl))) rfl rfl (Pend_okv rfl (OK_s (EX_s (PS_move rfl))) rfl rfl Pend_nil))))))))
   refine Plan_chain 8 rfl (by kernel_rfl) ?_
   refine GL_alloc rfl zv31 rfl (fun b9 => ?_)
   refine GL_hand rfl ⟨?_, ?_⟩
   · exact (Pend_okv rfl (OK_s (EX_s (PS_loadA rfl tya31 (.tail _ (.tail _ (.tail _ (.tail _ (.head _))))) (Land.l2.comp (Lens.arr (n := 6) Being.fl (by first | exact hyr.1 | exact hyr.2 | exact hxr.2.2.1 | exact hxr.2.2.2 | omega | (have qk := hVb k hI21 (by omega); have qh := hb10 k hI21 (by omega); omega)) (by first | exact hyr.1 | exact hyr.2 | exact hxr.2.2.1 | exact hxr.2.2.2 | omega | (have qk := hVb k hI21 (by omega); have qh := hb10 k hI21 (by omega); omega)))) rfl))) rfl rfl (Pend_okv rfl (OK_s (EX_s (PS_indexAddr ia32 rfl rfl (by first | exact hyr.1 | exact hyr.2 | exact hxr.2.2.1 | exact hxr.2.2.2 | omega | (have qk := hVb k hI21 (by omega); have qh := hb10 k hI21 (by omega); omega)) (by first | exact hyr.1 | exact hyr.2 | exact hxr.2.2.1 | exact hxr.2.2.2 | omega | (have qk := hVb k hI21 (by omega); have qh := hb10 k hI21 (by omega); omega))))) rfl rfl (Pend_okv rfl (OK_s (EX_s (PS_fieldAddr fa34_2 rfl))) rfl rfl (Pend_okv rfl (OK_s (EX_s (PS_move rfl))) rfl rfl (Pend_okv rfl (OK_s (EX_s (PS_loadA rfl tya31 (.tail _ (.tail _ (.tail _ (.tail _ (.tail _ (.tail _ (.head _))))))) (Land.l2.comp (Lens.arr (n := 6) Being.fl (by first | exact hyr.1 | exact hyr.2 | exact hxr.2.2.1 | exact hxr.2.2.2 | omega | (have qk := hVb k hI21 (by omega); have qh := hb10 k hI21 (by omega); omega)) (by first | exact hyr.1 | exact hyr.2 | exact hxr.2.2.1 | exact hxr.2.2.2 | omega | (have qk := hVb k hI21 (by omega); have qh := hb10 k hI21 (by omega); omega)))) rfl))) rfl rfl (Pend_okv rfl (OK_s (EX_s (PS_indexAddr ia32 rfl rfl (by first | exact hyr.1 | exact hyr.2 | exact hxr.2.2.1 | exact hxr.2.2.2 | omega | (have qk := hVb k hI21 (by omega); have qh := hb10 k hI21 (by omega); omega)) (by first | exact hyr.1 | exact hyr.2 | exact hxr.2.2.1 | exact hxr.2.2.2 | omega | (have qk := hVb k hI21 (by omega); have qh := hb10 k hI21 (by omega); omega))))) rfl rfl (Pend_okv rfl (OK_s (EX_s (PS_fieldAddr fa34_2 rfl))) rfl rfl (Pend_okv rfl (OK_s (EX_s (PS_move rfl))) rfl rfl Pend_nil))))))))
   refine Plan_chain 10 rfl (by kernel_rfl) ?_
   refine GL_unit (PU_store (Lens.id Being.fl.len Being.fl.one) rfl rfl rfl sz31 rfl .head) ?_
   refine GL_hand0 rfl ⟨?_, ?_⟩
   · exact (Pend_okv rfl (OK_s (EX_s (PS_loadA rfl tya31 (.tail _ (.tail _ (.tail _ (.tail _ (.head _))))) (Land.l2.comp (Lens.arr (n := 6) Being.fl (by first | exact hyr.1 | exact hyr.2 | exact hxr.2.2.1 | exact hxr.2.2.2 | omega | (have qk := hVb k hI21 (by omega); have qh := hb10 k hI21 (by omega); omega)) (by first | exact hyr.1 | exact hyr.2 | exact hxr.2.2.1 | exact hxr.2.2.2 | omega | (have qk := hVb k hI21 (by omega); have qh := hb10 k hI21 (by omega); omega)))) rfl))) rfl rfl (Pend_okv rfl (OK_s (EX_s (PS_indexAddr ia32 rfl rfl (by first | exact hyr.1 | exact hyr.2 | exact hxr.2.2.1 | exact hxr.2.2.2 | omega | (have qk := hVb k hI21 (by omega); have qh := hb10 k hI21 (by omega); omega)) (by first | exact hyr.1 | exact hyr.2 | exact hxr.2.2.1 | exact hxr.2.2.2 | omega | (have qk := hVb k hI21 (by omega); have qh := hb10 k hI21 (by omega); omega))))) rfl rfl (Pend_okv rfl (OK_s (EX_s (PS_fieldAddr fa34_2 rfl))) rfl rfl (Pend_okv rfl (OK_s (EX_s (PS_move rfl))) rfl rfl (Pend_skip (by kernel_rfl) (Pend_skip (by kernel_rfl) (Pend_skip (by kernel_rfl) (Pend_skip (by kernel_rfl) Pend_nil))))))))
   refine Plan_chain 11 rfl (by kernel_rfl) ?_
   refine GL_unit (PU_store (Lens.id Being.fl.len Being.fl.one) rfl rfl rfl sz31 rfl (.tail .head)) ?_
   refine GL_hand0 rfl ⟨?_, ?_⟩
   · exact (Pend_skip (by kernel_rfl) (Pend_skip (by kernel_rfl) (Pend_skip (by kernel_rfl) (Pend_skip (by kernel_rfl) (Pend_skip (by kernel_rfl) (Pend_skip (by kernel_rfl) (Pend_skip (by kernel_rfl) (Pend_skip (by kernel_rfl) Pend_nil))))))))
   refine Plan_end (by kernel_rfl) ?_
   refine GQ_sub (.cons (k := 2) rfl (.cons (k := 5) rfl (.cons (k := 8) rfl (.cons (k := 9) rfl (.cons (k := 12) rfl (.cons (k := 13) rfl (.cons (k := 14) rfl (.cons (k := 73) rfl (.nil _))))))))) ?_
   refine GQ_then ?_
   refine G_seq ?_
   refine G_seq ?_
   refine G_planN (N := 29) [0, 1, 3, 7, 15, 31, 63, 31, 159, 31, 543, 1567, 3999, 8191, 16383, 32767, 65535, 32767, 163839, 524287, 1048575, 2097151, 4194303, 8388607, 4194303, 20971519, 67108863, 134217727, 268435455] mix (by kernel_rfl) rfl ?_
   refine Plan_float 0 rfl rfl (by kernel_rfl) (OK_s (EX_s (PS_move rfl))) ?_
   refine Plan_float 1 rfl rfl (by kernel_rfl) (OK_s (EX_s (PS_indexAddr ia23 rfl rfl (by first | exact hyr.1 | exact hyr.2 | exact hxr.2.2.1 | exact hxr.2.2.2 | omega | (have qk := hVb k hI21 (by omega); have qh := hb10 k hI21 (by omega); omega)) (by first | exact hyr.1 | exact hyr.2 | exact hxr.2.2.1 | exact hxr.2.2.2 | omega | (have qk := hVb k hI21 (by omega); have qh := hb10 k hI21 (by omega); omega))))) ?_
   refine Plan_float 2 rfl rfl (by kernel_rfl) (OK_s (EX_s (PS_load rfl tys4 (.tail _ (.tail _ (.head _))) ((Lens.id (flA flB).len (flA flB).one).comp (Lens.arr (n := 6) flB (by first | exact hyr.1 | exact hyr.2 | exact hxr.2.2.1 | exact hxr.2.2.2 | omega | (have qk := hVb k hI21 (by omega); have qh := hb10 k hI21 (by omega); omega)) (by first | exact hyr.1 | exact hyr.2 | exact hxr.2.2.1 | exact hxr.2.2.2 | omega | (have qk := hVb k hI21 (by omega); have qh := hb10 k hI21 (by omega); omega)))) rfl rfl))) ?_
   refine Plan_float 3 rfl rfl (by kernel_rfl) (OK_s (EX_s (PS_not rfl))) ?_
   refine Plan_float 4 rfl rfl (by kernel_rfl) (OK_s (EX_s (PS_move rfl))) ?_
   refine Plan_float 5 rfl rfl (by kernel_rfl) (OK_gt (t := 88) rfl rfl (fun q => EX_s (PS_fieldAddr fa31_4 rfl))) ?_
   refine Plan_float 6 rfl rfl (by kernel_rfl) (OK_gt (t := 88) rfl rfl (fun q => EX_s (PS_load (cvE rfl q) tys3 (.tail _ (.head _)) Being.l4 rfl rfl))) ?_
   refine Plan_float 7 rfl rfl (by kernel_rfl) (OK_gt (t := 88) rfl rfl (fun q => EX_s (PS_fieldAddr fa31_4 rfl))) ?_
   refine Plan_float 8 rfl rfl (by kernel_rfl) (OK_gt (t := 88) rfl rfl (fun q => EX_s (PS_load (cvE rfl q) tys3 (.head _) Being.l4 rfl rfl))) ?_
   refine Plan_float 9 rfl rfl (by kernel_rfl) (OK_gt (t := 88) rfl rfl (fun q => EX_s (PS_move rfl))) ?_
   refine Plan_float 10 rfl rfl (by kernel_rfl) (OK_gt (t := 88) rfl rfl (fun q => by have q1 := q; (try simp at q1); exact EX_s (PS_indexAddr ia22 rfl (cvE rfl q) (by first | exact hyr.1 | exact hyr.2 | exact hxr.2.2.1 | exact hxr.2.2.2 | omega | (have qk := hVb k hI21 (by omega); have qh := hb10 k hI21 (by omega); omega)) (by first | exact hyr.1 | exact hyr.2 | exact hxr.2.2.1 | exact hxr.2.2.2 | omega | (have qk := hVb k hI21 (by omega); have qh := hb10 k hI21 (by omega); omega))))) ?_
   refine Plan_float 11 rfl rfl (by kernel_rfl) (OK_gt (t := 88) rfl rfl (fun q => by have q1 := q; (try simp at q1); exact EX_s (PS_load (cvE rfl q) tys3 (.tail _ (.tail _ (.tail _ (.head _)))) ((Lens.id (flA flI).len (flA flI).one).comp (Lens.arr (n := 6) flI (by first | exact hyr.1 | exact hyr.2 | exact hxr.2.2.1 | exact hxr.2.2.2 | omega | (have qk := hVb k hI21 (by omega); have qh := hb10 k hI21 (by omega); omega)) (by first | exact hyr.1 | exact hyr.2 | exact hxr.2.2.1 | exact hxr.2.2.2 | omega | (have qk := hVb k hI21 (by omega); have qh := hb10 k hI21 (by omega); omega)))) rfl rfl))) ?_
   refine Plan_float 12 rfl rfl (by kernel_rfl) (OK_gt (t := 88) rfl rfl (fun q => by have q1 := q; (try simp at q1); exact EX_s (PS_sub (cvE rfl q) (cvE rfl q) (IntWalk.i64_in _ (by first | exact hyr.1 | exact hyr.2 | exact hxr.2.2.1 | exact hxr.2.2.2 | omega | (have qk := hVb k hI21 (by omega); have qh := hb10 k hI21 (by omega); omega)))))) ?_
   refine Plan_float 13 rfl rfl (by kernel_rfl) (OK_gt (t := 88) rfl rfl (fun q => EX_s (PS_neq (cvE rfl q) (cvE rfl q)))) ?_
   refine Plan_float 14 rfl rfl (by kernel_rfl) (OK_gt (t := 88) rfl rfl (fun q => EX_s (PS_move (cvE rfl q)))) ?_
   refine Plan_float 15 rfl rfl (by kernel_rfl) (OK_gfc (t := 98) rfl rfl (fun qc q => EX_s (PS_fieldAddr fa31_3 rfl))) ?_
   refine Plan_float 16 rfl rfl (by kernel_rfl) (OK_gfc (t := 98) rfl rfl (fun qc q => EX_s (PS_load (cvE rfl (by rw [qc, q]; rfl)) tys3 (.tail _ (.head _)) Being.l3 rfl rfl))) ?_
   refine Plan_float 17 rfl rfl (by kernel_rfl) (OK_gfc (t := 98) rfl rfl (fun qc q => EX_s (PS_fieldAddr fa31_3 rfl))) ?_
   refine Plan_float 18 rfl rfl (by kernel_rfl) (OK_gfc (t := 98) rfl rfl (fun qc q => EX_s (PS_load (cvE rfl (by rw [qc, q]; rfl)) tys3 (.head _) Being.l3 rfl rfl))) ?_
   refine Plan_float 19 rfl rfl (by kernel_rfl) (OK_gfc (t := 98) rfl rfl (fun qc q => EX_s (PS_neq (cvE rfl (by rw [qc, q]; rfl)) (cvE rfl (by rw [qc, q]; rfl))))) ?_
   refine Plan_float 20 rfl rfl (by kernel_rfl) (OK_gt (t := 88) rfl rfl (fun q => EX_s (PS_or (cvE rfl q) rfl (fun h => by rw [q, h]; rfl)))) ?_
   refine Plan_float 21 rfl rfl (by kernel_rfl) (OK_gt (t := 88) rfl rfl (fun q => EX_s (PS_move (cvE rfl q)))) ?_
   refine Plan_float 22 rfl rfl (by kernel_rfl) (OK_gfc (t := 105) rfl rfl (fun qc q => EX_s (PS_fieldAddr fa31_1 rfl))) ?_
   refine Plan_float 23 rfl rfl (by kernel_rfl) (OK_gfc (t := 105) rfl rfl (fun qc q => EX_s (PS_load (cvE rfl (by rw [qc, q]; rfl)) tys4 (.tail _ (.head _)) Being.l1 rfl rfl))) ?_
   refine Plan_float 24 rfl rfl (by kernel_rfl) (OK_gfc (t := 105) rfl rfl (fun qc q => EX_s (PS_fieldAddr fa31_1 rfl))) ?_
   refine Plan_float 25 rfl rfl (by kernel_rfl) (OK_gfc (t := 105) rfl rfl (fun qc q => EX_s (PS_load (cvE rfl (by rw [qc, q]; rfl)) tys4 (.head _) Being.l1 rfl rfl))) ?_
   refine Plan_float 26 rfl rfl (by kernel_rfl) (OK_gfc (t := 105) rfl rfl (fun qc q => EX_s (PS_neq_bool Tryd.underlying4 (cvE rfl (by rw [qc, q]; rfl)) (cvE rfl (by rw [qc, q]; rfl))))) ?_
   refine Plan_float 27 rfl rfl (by kernel_rfl) (OK_gt (t := 88) rfl rfl (fun q => EX_s (PS_or (cvE rfl q) rfl (fun h => by rw [q, h]; rfl)))) ?_
   refine Plan_float 28 rfl rfl (by kernel_rfl) (OK_s (EX_s (PS_and rfl rfl (fun h => h)))) ?_
   refine Plan_end (by kernel_rfl) ?_
   refine GQ_sub (.cons (k := 2) rfl (.cons (k := 5) rfl (.cons (k := 8) rfl (.cons (k := 9) rfl (.cons (k := 12) rfl (.cons (k := 13) rfl (.cons (k := 14) rfl (.cons (k := 73) rfl (.cons (k := 112) rfl (.nil _)))))))))) ?_
   refine GQ_then ?_
   refine G_cond rfl (fun c10 => ?_) (fun c10 => ?_)
   ·
    have c10p := kz c10
    refine G_seq ?_
    refine G_region ?_
    refine GL_step rfl (PS_assign rfl) ?_
    refine GL_nil ?_
    refine GQ_sub (.cons (k := 4) rfl (.nil _)) ?_
    refine GQ_then ?_
    refine G_ret ?_
    refine GQ_then_ret ?_
    refine GQ_block_ret ?_
    refine GQ_then_ret ?_
    refine GQ_then_ret ?_
    refine GQ_block_ret ?_
    refine GQ_then_ret ?_
    refine GQ_ret rfl (.tmp rfl .nil) ?_
    exfalso
    have hc := c10
    simp only [Bool.and_eq_true, Bool.or_eq_true, Bool.not_eq_true', decide_eq_false_iff_not, bne_iff_ne, ne_eq] at hc
    obtain ⟨hc1, hc2⟩ := hc
    have hu := hls.un k hI21 (by omega) (by rw [← hDe]; exact hc1)
    rw [hu.2.1, hu.2.2, hVe, hu.1] at hc2
    rcases hc2 with (hc2 | hc2) | hc2 <;> exact hc2 rfl
   have c10p := kz c10
   refine G_skip ?_
   refine GQ_sub (.cons (k := 2) rfl (.cons (k := 5) rfl (.cons (k := 8) rfl (.cons (k := 9) rfl (.cons (k := 12) rfl (.cons (k := 13) rfl (.cons (k := 14) rfl (.cons (k := 73) rfl (.nil _))))))))) ?_
   refine GQ_then ?_
   refine G_seq ?_
   refine G_planN (N := 18) [0, 1, 3, 7, 15, 31, 63, 15, 143, 511, 1023, 2047, 4095, 2047, 10239, 32767, 65535, 131071] mix (by kernel_rfl) rfl ?_
   refine Plan_float 0 rfl rfl (by kernel_rfl) (OK_s (EX_s (PS_move rfl))) ?_
   refine Plan_float 1 rfl rfl (by kernel_rfl) (OK_s (EX_s (PS_indexAddr ia23 rfl rfl (by first | exact hyr.1 | exact hyr.2 | exact hxr.2.2.1 | exact hxr.2.2.2 | omega | (have qk := hVb k hI21 (by omega); have qh := hb10 k hI21 (by omega); omega)) (by first | exact hyr.1 | exact hyr.2 | exact hxr.2.2.1 | exact hxr.2.2.2 | omega | (have qk := hVb k hI21 (by omega); have qh := hb10 k hI21 (by omega); omega))))) ?_
   refine Plan_float 2 rfl rfl (by kernel_rfl) (OK_s (EX_s (PS_load rfl tys4 (.tail _ (.tail _ (.head _))) ((Lens.id (flA flB).len (flA flB).one).comp (Lens.arr (n := 6) flB (by first | exact hyr.1 | exact hyr.2 | exact hxr.2.2.1 | exact hxr.2.2.2 | omega | (have qk := hVb k hI21 (by omega); have qh := hb10 k hI21 (by omega); omega)) (by first | exact hyr.1 | exact hyr.2 | exact hxr.2.2.1 | exact hxr.2.2.2 | omega | (have qk := hVb k hI21 (by omega); have qh := hb10 k hI21 (by omega); omega)))) rfl rfl))) ?_
   refine Plan_float 3 rfl rfl (by kernel_rfl) (OK_s (EX_s (PS_move rfl))) ?_
   refine Plan_float 4 rfl rfl (by kernel_rfl) (OK_gt (t := 116) rfl rfl (fun q => EX_s (PS_move rfl))) ?_
   refine Plan_float 5 rfl rfl (by kernel_rfl) (OK_gt (t := 116) rfl rfl (fun q => by have q1 := q; (try simp at q1); exact EX_s (PS_indexAddr ia22 rfl (cvE rfl q) (by first | exact hyr.1 | exact hyr.2 | exact hxr.2.2.1 | exact hxr.2.2.2 | omega | (have qk := hVb k hI21 (by omega); have qh := hb10 k hI21 (by omega); omega)) (by first | exact hyr.1 | exact hyr.2 | exact hxr.2.2.1 | exact hxr.2.2.2 | omega | (have qk := hVb k hI21 (by omega); have qh := hb10 k hI21 (by omega); omega))))) ?_
   refine Plan_float 6 rfl rfl (by kernel_rfl) (OK_gt (t := 116) rfl rfl (fun q => by have q1 := q; (try simp at q1); exact EX_s (PS_load (cvE rfl q) tys3 (.tail _ (.tail _ (.tail _ (.head _)))) ((Lens.id (flA flI).len (flA flI).one).comp (Lens.arr (n := 6) flI (by first | exact hyr.1 | exact hyr.2 | exact hxr.2.2.1 | exact hxr.2.2.2 | omega | (have qk := hVb k hI21 (by omega); have qh := hb10 k hI21 (by omega); omega)) (by first | exact hyr.1 | exact hyr.2 | exact hxr.2.2.1 | exact hxr.2.2.2 | omega | (have qk := hVb k hI21 (by omega); have qh := hb10 k hI21 (by omega); omega)))) rfl rfl))) ?_
   refine Plan_float 7 rfl rfl (by kernel_rfl) (OK_gt (t := 116) rfl rfl (fun q => EX_s (PS_fieldAddr fa31_4 rfl))) ?_
   refine Plan_float 8 rfl rfl (by kernel_rfl) (OK_gt (t := 116) rfl rfl (fun q => EX_s (PS_load (cvE rfl q) tys3 (.head _) Being.l4 rfl rfl))) ?_
   refine Plan_float 9 rfl rfl (by kernel_rfl) (OK_gt (t := 116) rfl rfl (fun q => EX_s (PS_lss (cvE rfl q) (cvE rfl q)))) ?_
   refine Plan_float 10 rfl rfl (by kernel_rfl) (OK_gt (t := 116) rfl rfl (fun q => EX_s (PS_move (cvE rfl q)))) ?_
   refine Plan_float 11 rfl rfl (by kernel_rfl) (OK_gfc (t := 123) rfl rfl (fun qc q => EX_s (PS_fieldAddr fa31_1 rfl))) ?_
   refine Plan_float 12 rfl rfl (by kernel_rfl) (OK_gfc (t := 123) rfl rfl (fun qc q => EX_s (PS_load (cvE rfl (by rw [qc, q]; rfl)) tys4 (.tail _ (.head _)) Being.l1 rfl rfl))) ?_
   refine Plan_float 13 rfl rfl (by kernel_rfl) (OK_gfc (t := 123) rfl rfl (fun qc q => EX_s (PS_move rfl))) ?_
   refine Plan_float 14 rfl rfl (by kernel_rfl) (OK_gfc (t := 123) rfl rfl (fun qc q => EX_s (PS_geq (cvE rfl (by rw [qc, q]; rfl)) rfl))) ?_
   refine Plan_float 15 rfl rfl (by kernel_rfl) (OK_gfc (t := 123) rfl rfl (fun qc q => EX_s (PS_neq_bool Tryd.underlying4 (cvE rfl (by rw [qc, q]; rfl)) (cvE rfl (by rw [qc, q]; rfl))))) ?_
   refine Plan_float 16 rfl rfl (by kernel_rfl) (OK_gt (t := 116) rfl rfl (fun q => EX_s (PS_or (cvE rfl q) rfl (fun h => by rw [q, h]; rfl)))) ?_
   refine Plan_float 17 rfl rfl (by kernel_rfl) (OK_s (EX_s (PS_and rfl rfl (fun h => h)))) ?_
   refine Plan_end (by kernel_rfl) ?_
   refine GQ_sub (.cons (k := 2) rfl (.cons (k := 5) rfl (.cons (k := 8) rfl (.cons (k := 9) rfl (.cons (k := 73) rfl (.cons (k := 130) rfl (.nil _))))))) ?_
   refine GQ_then ?_
   refine G_cond rfl (fun c11 => ?_) (fun c11 => ?_)
   ·
    have c11p := kz c11
    refine G_seq ?_
    refine G_region ?_
    refine GL_step rfl (PS_assign rfl) ?_
    refine GL_nil ?_
    refine GQ_sub (.cons (k := 4) rfl (.nil _)) ?_
    refine GQ_then ?_
    refine G_ret ?_
    refine GQ_block_ret ?_
    refine GQ_then_ret ?_
    refine GQ_then_ret ?_
    refine GQ_block_ret ?_
    refine GQ_then_ret ?_
    refine GQ_ret rfl (.tmp rfl .nil) ?_
    exfalso
    have hc := c11
    simp only [Bool.and_eq_true, Bool.or_eq_true, decide_eq_true_eq, bne_iff_ne, ne_eq] at hc
    obtain ⟨hc1, hc2⟩ := hc
    have hu := hls.di k hI21 (by omega) (by rw [← hDe]; exact hc1)
    rw [hu.2.1, hVe] at hc2
    rcases hc2 with hc2 | hc2
    · have hu1 : (X.beings.at k).health ≤ (Turn.hurtA (Turn.roundR X d).2.1).at k := hu.1
      omega
    · exact hc2 rfl
   have c11p := kz c11
   refine G_skip ?_
   refine GQ_sub (.cons (k := 2) rfl (.cons (k := 5) rfl (.cons (k := 8) rfl (.cons (k := 9) rfl (.cons (k := 73) rfl (.nil _)))))) ?_
   refine GQ_block ?_
   refine GQ_then ?_
   refine G_region ?_
   refine GL_step rfl (PS_add rfl rfl (IntWalk.i64_in _ (by first | exact hyr.1 | exact hyr.2 | exact hxr.2.2.1 | exact hxr.2.2.2 | omega | (have qk := hVb k hI21 (by omega); have qh := hb10 k hI21 (by omega); omega)))) ?_
   refine GL_step rfl (PS_move rfl) ?_
   refine GL_nil ?_
   refine GQ_sub (.cons (k := 2) rfl (.cons (k := 5) rfl (.cons (k := 8) rfl (.cons (k := 9) rfl (.cons (k := 73) rfl (.nil _)))))) ?_
   refine GQ_next1_ (k + 1) ?_ ?_ (.cons (k := 73) rfl (.cons (k := 2) rfl (.cons (k := 5) rfl (.cons (k := 8) rfl (.cons (k := 9) rfl (.nil _)))))) (.cons _ (.cons _ (.refl _)))
   · exact ⟨by omega, by omega⟩
   · omega
 have c7p := kz c7
 refine G_exit ?_
 refine GQ_then_exit ?_
 refine GQ_then_exit ?_
 refine GQ_block_exit ?_
 refine GQ_sub (.cons (k := 5) rfl (.nil _)) ?_
 refine GQ_then ?_
 refine G_seq ?_
 refine G_region ?_
 refine GL_step rfl (PS_loadA rfl tya34 (.tail _ (.tail _ (.head _))) (Lens.id Land.fl.len Land.fl.one) rfl) ?_
 refine GL_pure rfl cf9 (.cons rfl .nil) (fun w hS => land_Good_spec _ w) ?_
 refine GL_step rfl (PS_assign rfl) ?_
 refine GL_nil ?_
 refine GQ_sub (.cons (k := 4) rfl (.nil _)) ?_
 refine GQ_then ?_
 refine G_ret ?_
 refine GQ_ret rfl (.tmp rfl .nil) ?_
 intro w1 hS; refine ⟨?_, hS.toKeep⟩; exact congrArg Value.bool hgd
mutual
def cellsD {H : Type} : DataW H → List Value
  | .lit (.int k n) => [.int k n]
  | .lit (.string bs) => [.string ⟨bs.toArray⟩]
  | .lit (.bool b) => [.bool b]
  | .agg ps => cellsDs ps
  | _ => []
def cellsDs {H : Type} : List (DataW H) → List Value
  | [] => []
  | d :: r => cellsD d ++ cellsDs r
end
def cellsE {H : Type} : DataW H → List Value
  | .iface _ (.ptr (.agg ps)) => cellsDs ps
  | _ => []
/-- Where what the errors point to lies. -/
noncomputable def low : Nat := (World.holding Tryd.prog default ⟨#[], #[], []⟩).heap.size
/-- A world in which the listed variables hold what is listed. -/
noncomputable def laidWorld (os : Os) : World := { World.holding Tryd.prog os ⟨#[.cells (cellsE (Rows.laid_strconv_ErrRange : DataW Unit)).toArray 142, .cells (cellsE (Rows.laid_strconv_ErrSyntax : DataW Unit)).toArray 142], #[], []⟩ with heap := (((((((World.holding Tryd.prog os ⟨#[.cells (cellsE (Rows.laid_strconv_ErrRange : DataW Unit)).toArray 142, .cells (cellsE (Rows.laid_strconv_ErrSyntax : DataW Unit)).toArray 142], #[], []⟩).heap.modify 4 fun o => match o with | .cells _ t frozen => .cells #[.iface 140 (.pointer (some ⟨low + 0, 0, none⟩))] t frozen | o => o).modify 3 fun o => match o with | .cells _ t frozen => .cells #[.iface 140 (.pointer (some ⟨low + 1, 0, none⟩))] t frozen | o => o).modify 5 fun o => match o with | .cells _ t frozen => .cells (cellsD (Rows.laid_math_bits_deBruijn32tab : DataW Unit)).toArray t frozen | o => o).modify 6 fun o => match o with | .cells _ t frozen => .cells (cellsD (Rows.laid_math_bits_deBruijn64tab : DataW Unit)).toArray t frozen | o => o).modify 1 fun o => match o with | .cells _ t frozen => .cells (cellsD (Rows.laid_internal_strconv_uint64pow10 : DataW Unit)).toArray t frozen | o => o).modify 0 fun o => match o with | .cells _ t frozen => .cells (cellsD (Rows.laid_inglenook_words_verbs : DataW Unit)).toArray t frozen | o => o) }
set_option maxRecDepth 100000 in
theorem laid_met (os : Os) : laidMet Tryd.prog Rows.rulesLossesRow.laid ((laidWorld os).forCall (fun _ _ => 0) ⟨#[], #[.agg (Land.enc (default : Land)).toArray, .int .i64 0], []⟩).memory :=
  laidMet_of_run' 8 (by kernel_rfl) (by kernel_rfl)
set_option maxRecDepth 100000 in
theorem reads (os : Os) {H : Type} (enc : TypeId × Value → H) : ∃ places, DataW.whole enc Tryd.prog ((laidWorld os).forCall (fun _ _ => 0) ⟨#[], #[.agg (Land.enc (default : Land)).toArray, .int .i64 0], []⟩).memory Tryd.f5.params.toList Rows.rulesLossesSpec.vars false (#[.agg (Land.enc (default : Land)).toArray, .int .i64 0] : Array Value).toList 8 = some ([.agg [.agg (List.replicate 6 (.agg [.lit (.string []), .lit (.bool false), .agg (List.replicate 6 (.lit (.int .i64 0))), .agg (List.replicate 6 (.lit (.bool false)))])), .agg (List.replicate 9 (.agg [.lit (.string []), .lit (.int .i64 0), .lit (.int .i64 0), .lit (.int .i64 0), .lit (.bool false)])), .agg (List.replicate 6 (.agg [.lit (.string []), .lit (.bool false), .lit (.bool false), .lit (.int .i64 0), .lit (.int .i64 0), .lit (.int .i64 0)]))], .lit (.int .i64 0)], [], places) := ⟨[], by kernel_rfl⟩
set_option maxRecDepth 100000 in
theorem rulesLosses_lifted (os : Os) (started : os.Started) (H : Type) (enc : TypeId × Value → H) (F : Stop.Interp) :
    ReturnsInHanded {} Tryd.checked os 5 .any ((OpenSpec.ofChange Rows.rulesLossesSpec).preRow enc Tryd.prog Tryd.f5 Rows.rulesLossesRow.domain false Rows.rulesLossesRow.laid) (((OpenSpec.ofChange Rows.rulesLossesSpec).at F).post enc Tryd.prog Tryd.f5 false true false false) := by
  obtain ⟨places, hx⟩ := reads os enc
  refine returnsInHanded_of_row (C := Tryd.checked) (s := (OpenSpec.ofChange Rows.rulesLossesSpec)) own started (by kernel_rfl) Tryd.func5
    (witness_row_at (enc := enc) (C := Tryd.checked) false (laidWorld os) #[.agg (Land.enc (default : Land)).toArray, .int .i64 0] rfl (by kernel_rfl) (by kernel_rfl) (by kernel_rfl)
      (OpenSpec.preRow_of_cond 8 hx (by kernel_rfl) (fun k hk => by cases hk) (by kernel_rfl) (laid_met os))) ?_
  intro W base args ds gs before hval hW _ hcond hsz hL hSh _
  refine law_post (B := 4) laidOut (by kernel_rfl) Tryd.underlying4 (by kernel_rfl) rfl (fun ds h => by rw [Tryd.params5] at h; match ds, h with | [d1, d2], _ => rfl) hW ?_
  obtain ⟨p, q, hA, hV, _, _, _⟩ := hW
  rw [Tryd.params5] at hA
  obtain ⟨v0, vs0, d0, ds0, p0, q0, hv0, rfl, rfl, hd0, hA⟩ := trodAll_cons hA
  obtain ⟨v1, vs1, d1, ds1, p1, q1, hv1, rfl, rfl, hd1, hA⟩ := trodAll_cons hA
  obtain ⟨hvn, rfl, rfl⟩ := trodAll_nil hA
  obtain rfl : args = #[v0, v1] := by cases args; simp_all
  obtain ⟨X, rfl, w0⟩ := open_ag (P := Tryd.prog) (t := 34) (by rw [Tryd.underlying34]) (hval 0 _ _ rfl rfl) dc34 hd0
  obtain ⟨d, rfl, rfl, rfl, w1⟩ := open_int Tryd.underlying3 (hval 1 _ _ rfl rfl) hd1
  have w1 := bounds_i64 w1
  exact keep_RulesLosses_spec _ _ (by have k1 : ∀ i, 0 ≤ i → i < 9 → (X.things.at i).name.length ≤ 140737488351232 := fun i i0 i1 => (reach3 (q := 1) (oA := 84) (n := 9) (z := 5) (i := i.toNat) (s := (X.things.at i).name) Tryd.underlying34 rfl Tryd.underlying29 (by kernel_rfl) Tryd.underlying28 rfl (by kernel_rfl) Tryd.underlying9 (by kernel_rfl) (by omega) (by decide) hd0 (Land.name_at i0 i1) (sized_arg hsz (j := 0) rfl rfl)); have k2 : ∀ i, 0 ≤ i → i < 6 → (X.beings.at i).name.length ≤ 140737488351232 := fun i i0 i1 => (reach3 (q := 2) (oA := 129) (n := 6) (z := 6) (i := i.toNat) (s := (X.beings.at i).name) Tryd.underlying34 rfl Tryd.underlying32 (by kernel_rfl) Tryd.underlying31 rfl (by kernel_rfl) Tryd.underlying9 (by kernel_rfl) (by omega) (by decide) hd0 (Land.bname_at i0 i1) (sized_arg hsz (j := 0) rfl rfl)); have k3 : ∀ i, 0 ≤ i → i < 6 → (X.rooms.at i).name.length ≤ 140737488351232 := fun i i0 i1 => (reach3 (q := 0) (oA := 0) (n := 6) (z := 14) (i := i.toNat) (s := (X.rooms.at i).name) Tryd.underlying34 rfl Tryd.underlying26 (by kernel_rfl) Tryd.underlying25 rfl (by kernel_rfl) Tryd.underlying9 (by kernel_rfl) (by omega) (by decide) hd0 (Land.rname_at i0 i1) (sized_arg hsz (j := 0) rfl rfl)); exact Land.brief_of k1 k2 k3) W (gv_strs hL mem_laid_inglenook_words_verbs (by kernel_rfl) (by kernel_rfl) Tryd.underlying92 Tryd.underlying9 (by kernel_rfl) (by kernel_rfl)) (gve hL mem_laid_strconv_ErrSyntax rfl (by kernel_rfl) (by kernel_rfl) Tryd.underlying72) (gve hL mem_laid_strconv_ErrRange rfl (by kernel_rfl) (by kernel_rfl) Tryd.underlying72)
theorem rulesLosses_said : Rows.RulesLossesSaid :=
  OpenClaim.holds_of_cond 5 Tryd.f5 rfl rfl rfl rfl rfl rfl rfl ⟨rfl, rfl, rfl, rfl, rfl⟩ rfl rfl rfl rfl rfl (by kernel_rfl) Tryd.func5 (by kernel_rfl)
    (of_decide_eq_true (by kernel_rfl)) (by unfold Func.isWrapper; first | (rw [if_pos (by decide +kernel)]; kernel_rfl) | (rw [if_neg (by decide +kernel)]; exact ⟨rfl, rfl⟩))
    (fun os started H enc _ F => by rw [OpenClaim.pre_eq_preRow]; exact rulesLosses_lifted os started H enc F)
theorem plainArgs (f : FuncId) (fn : Func) (hf : Tryd.pinned.checked.prog.funcNamed "inglenook/inglenookkeep.RulesLosses" = some f) (hfn : Tryd.pinned.checked.prog.funcs[f]? = some fn) :
    true = Tryd.pinned.checked.prog.looks [] ∧ ∀ (j : Nat) t, fn.params[j]? = some t → Tryd.pinned.checked.prog.wantsStandIn t = false := by
  obtain rfl : f = 5 := Option.some.inj ((show Tryd.prog.funcNamed "inglenook/inglenookkeep.RulesLosses" = some 5 by kernel_rfl).symm.trans hf) |>.symm
  obtain rfl : fn = Tryd.f5 := (Option.some.inj (Tryd.func5.symm.trans hfn)).symm
  refine ⟨by kernel_rfl, fun j t ht => ?_⟩
  rw [Tryd.params5] at ht
  have hm : t ∈ [34, 3] := by simpa using Array.mem_of_getElem? ht
  have hall : ([34, 3].all fun u => !Tryd.prog.wantsStandIn u) = true := by kernel_rfl
  exact (show Tryd.prog.wantsStandIn t = false by simpa using List.all_eq_true.1 hall t hm)
theorem rulesLosses_holds : Rows.RulesLossesCardSaid :=
  Claim7.holds_tied_plain_at .later [] _ _ _ _ rulesLosses_said (fun _ h => by cases h) (by kernel_rfl) (fun _ h => by cases h) rulesLosses_row_tie rfl ⟨rfl, rfl⟩ (by kernel_rfl) rfl plainArgs (by kernel_rfl)
end Go.Proofs.YthaobbemigbcgaaDoor
