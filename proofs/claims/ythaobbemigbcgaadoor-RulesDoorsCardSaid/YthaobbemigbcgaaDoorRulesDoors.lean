/- For every input the law RulesDoors returns true. No condition. -/
import Derived.Test.YthaobbemigbcgaaDoorCards
import Derived.Test.YthaobbemigbcgaaDoorTie
import Derived.Deep.DeepHandedRow
import Derived.Test.YthaobbemigbcgaaDoorRows
import Derived.Test.YthaobbemigbcgaaDoorRulesDoorsWalks
import Derived.Test.YthaobbemigbcgaaDoorRulesDoorsWalks2
import Derived.Test.YthaobbemigbcgaaDoorRulesDoorsWalks3
import Derived.Test.YthaobbemigbcgaaDoorRulesDoorsWalks4
import Derived.Test.YthaobbemigbcgaaDoorRulesDoorsEc3
import Derived.Test.YthaobbemigbcgaaDoorRulesDoorsRa1
import Derived.Test.YthaobbemigbcgaaDoorRulesDoorsRb1
set_option linter.unusedSimpArgs false
set_option linter.unusedVariables false
set_option maxRecDepth 100000
set_option maxHeartbeats 1000000
namespace Go.Proofs.YthaobbemigbcgaaDoor
open Go Go.Ing Go.RowKit Go.ChangeShapes Go.WideShapes Go.ChangeAt
theorem own : ownKnob Tryd.prog.godebug = none := by kernel_rfl
theorem laidOut : laidOutB Tryd.prog = true := by kernel_rfl
theorem ld_laid_inglenook_words_verbs : (Rows.laid_inglenook_words_verbs : DataW Unit) = strData Land.verbs := by kernel_rfl
theorem mem_laid_inglenook_words_verbs : ("inglenook/words.verbs", (strData Land.verbs : DataW Unit)) ∈ Rows.rulesDoorsRow.laid := ld_laid_inglenook_words_verbs ▸ (.tail _ (.tail _ (.tail _ (.tail _ (.tail _ (.head _))))))
theorem mem_laid_strconv_ErrSyntax : ("strconv.ErrSyntax", (Rows.laid_strconv_ErrSyntax : DataW Unit)) ∈ Rows.rulesDoorsRow.laid := .tail _ (.tail _ (.tail _ (.tail _ (.head _))))
theorem mem_laid_strconv_ErrRange : ("strconv.ErrRange", (Rows.laid_strconv_ErrRange : DataW Unit)) ∈ Rows.rulesDoorsRow.laid := .tail _ (.tail _ (.tail _ (.head _)))
theorem dc9 {H : Type} {enc : TypeId × Value → H} {w : World} : Dc H enc Tryd.prog w (encS) wfS 9 := Dc_string Tryd.underlying9
theorem dc4 {H : Type} {enc : TypeId × Value → H} {w : World} : Dc H enc Tryd.prog w (encB) wfB 4 := Dc_bool Tryd.underlying4
theorem dc3 {H : Type} {enc : TypeId × Value → H} {w : World} : Dc H enc Tryd.prog w (encI) wfI 3 := Dc_int Tryd.underlying3
theorem dc22 {H : Type} {enc : TypeId × Value → H} {w : World} : Dc H enc Tryd.prog w (encA (n := 6) encI) (wfA wfI) 22 := Dc_arr (sz := 1) Tryd.underlying22 (by kernel_rfl) (by kernel_rfl) dc3
theorem dc23 {H : Type} {enc : TypeId × Value → H} {w : World} : Dc H enc Tryd.prog w (encA (n := 6) encB) (wfA wfB) 23 := Dc_arr (sz := 1) Tryd.underlying23 (by kernel_rfl) (by kernel_rfl) dc4
theorem dc25 {H : Type} {enc : TypeId × Value → H} {w : World} : Dc H enc Tryd.prog w (Room.enc) Room.wf 25 := Room.dc Tryd.underlying25 (by kernel_rfl) rfl (by kernel_rfl) dc9 rfl (by kernel_rfl) dc4 rfl (by kernel_rfl) dc22 rfl (by kernel_rfl) dc23
theorem dc26 {H : Type} {enc : TypeId × Value → H} {w : World} : Dc H enc Tryd.prog w (encA (n := 6) Room.enc) (wfA Room.wf) 26 := Dc_arr (sz := 14) Tryd.underlying26 (by kernel_rfl) (by kernel_rfl) dc25
theorem dc28 {H : Type} {enc : TypeId × Value → H} {w : World} : Dc H enc Tryd.prog w (Thing.enc) Thing.wf 28 := Thing.dc Tryd.underlying28 (by kernel_rfl) rfl (by kernel_rfl) dc9 rfl (by kernel_rfl) dc3 rfl (by kernel_rfl) dc3 rfl (by kernel_rfl) dc3 rfl (by kernel_rfl) dc4
theorem dc29 {H : Type} {enc : TypeId × Value → H} {w : World} : Dc H enc Tryd.prog w (encA (n := 9) Thing.enc) (wfA Thing.wf) 29 := Dc_arr (sz := 5) Tryd.underlying29 (by kernel_rfl) (by kernel_rfl) dc28
theorem dc31 {H : Type} {enc : TypeId × Value → H} {w : World} : Dc H enc Tryd.prog w (Being.enc) Being.wf 31 := Being.dc Tryd.underlying31 (by kernel_rfl) rfl (by kernel_rfl) dc9 rfl (by kernel_rfl) dc4 rfl (by kernel_rfl) dc4 rfl (by kernel_rfl) dc3 rfl (by kernel_rfl) dc3 rfl (by kernel_rfl) dc3
theorem dc32 {H : Type} {enc : TypeId × Value → H} {w : World} : Dc H enc Tryd.prog w (encA (n := 6) Being.enc) (wfA Being.wf) 32 := Dc_arr (sz := 6) Tryd.underlying32 (by kernel_rfl) (by kernel_rfl) dc31
theorem dc34 {H : Type} {enc : TypeId × Value → H} {w : World} : Dc H enc Tryd.prog w (Land.enc) Land.wf 34 := Land.dc Tryd.underlying34 (by kernel_rfl) rfl (by kernel_rfl) dc26 rfl (by kernel_rfl) dc29 rfl (by kernel_rfl) dc32
theorem keep_RulesDoors_spec (X : Land) (b d : Int) (hw : X.Brief) (w : World) (gl0 : GV 0 Land.verbsV w) (gl1 : GVE 3 w) (gl2 : GVE 4 w) : Ret Tryd.prog 4 #[.agg X.enc.toArray, .int .i64 b, .int .i64 d] w fun v w' => v = .bool true ∧ Keep w w' := by
 have hpk := Line.pick_rng (k := d) (n := 6) (by decide)
 refine Ret_body [] [] Tryd.func4 rfl rfl rfl (St.start w []) ?_
 refine G_seq ?_
 refine G_region ?_
 refine GL_box rfl rfl rfl (fun b1 => ?_)
 refine GL_step rfl (PS_assign rfl) ?_
 refine GL_nil ?_
 refine GQ_sub (.cons (k := 1) rfl (.cons (k := 2) rfl (.cons (k := 3) rfl (.nil _)))) ?_
 refine GQ_then ?_
 refine G_seq ?_
 refine G_region ?_
 refine GL_step rfl (PS_move rfl) ?_
 refine GL_pure rfl cf10 (.cons rfl (.cons rfl .nil)) (fun w hS => keep_pick_spec _ _ (by omega) (by omega) w) ?_
 refine GL_step rfl (PS_assign rfl) ?_
 refine GL_nil ?_
 refine GQ_sub (.cons (k := 1) rfl (.cons (k := 2) rfl (.cons (k := 3) rfl (.nil _)))) ?_
 refine GQ_then ?_
 refine G_seq ?_
 refine G_region ?_
 refine GL_step rfl (PS_loadA rfl tya34 (.head _) (Lens.id Land.fl.len Land.fl.one) rfl) ?_
 refine GL_step rfl (PS_move rfl) ?_
 refine GL_step rfl (PS_move rfl) ?_
 refine GL_step rfl (PS_add rfl rfl (IntWalk.i64_in _ (by first | omega | (dsimp only; omega)))) ?_
 refine GL_step rfl (PS_build pl36 zv36 rfl (.cons Order.l0 rfl rfl rfl .nil)) ?_
 refine GL_callR rfl cf7 (.cons rfl (.cons rfl (.cons rfl .nil))) .nil (rules_Do_spec X b (Turn.goO (Line.pick d 6)) hw (Nat.zero_le _) (Nat.zero_le _)) (fun w hS => ⟨gl0.pull (by simp) hS .nil, gl1.pull (by simp) hS .nil, gl2.pull (by simp) hS .nil⟩) (fun v1 B hv => ?_)
 obtain ⟨y2, rfl, y3, rfl⟩ := hv
 refine GL_step rfl (PS_move rfl) ?_
 refine GL_step rfl (PS_extract rfl rfl) ?_
 refine GL_step rfl (PS_extract rfl rfl) ?_
 refine GL_step rfl (PS_extract rfl rfl) ?_
 refine GL_alloc rfl zv34 rfl (fun b2 => ?_)
 refine GL_unit (PU_store (Lens.id Land.fl.len Land.fl.one) rfl rfl rfl sz34 rfl .head) ?_
 refine GL_step rfl (PS_assign rfl) ?_
 refine GL_step rfl (PS_assign rfl) ?_
 refine GL_nil ?_
 refine GQ_sub (.cons (k := 1) rfl (.cons (k := 2) rfl (.cons (k := 3) rfl (.cons (k := 7) rfl (.cons (k := 9) rfl (.nil _)))))) ?_
 refine GQ_then ?_
 refine G_seq ?_
 refine G_seq ?_
 refine G_region ?_
 refine GL_step rfl (PS_move rfl) ?_
 refine GL_step rfl (PS_neq rfl rfl) ?_
 refine GL_step rfl (PS_move rfl) ?_
 refine GL_pgf (t := 25) rfl rfl rfl (fun q => PC_of cf8 .nil (fun w hS => keep_acts_spec w (gl0.st hS) (gl1.st hS) (gl2.st hS))) ?_
 refine GL_gf (t := 25) rfl rfl rfl (fun q => PS_not (cvE rfl (by rw [q]; rfl))) ?_
 refine GL_step rfl (PS_or rfl rfl (fun h => by rw [h]; rfl)) ?_
 refine GL_nil ?_
 refine GQ_sub (.cons (k := 1) rfl (.cons (k := 2) rfl (.cons (k := 3) rfl (.cons (k := 7) rfl (.cons (k := 28) rfl (.nil _)))))) ?_
 refine GQ_then ?_
 refine G_cond rfl (fun c1 => ?_) (fun c1 => ?_)
 ·
  have c1p := kz c1
  refine G_seq ?_
  refine G_region ?_
  refine GL_pure rfl cf8 .nil (fun w hS => keep_acts_spec w (gl0.st hS) (gl1.st hS) (gl2.st hS)) ?_
  refine GL_step rfl (PS_assign rfl) ?_
  refine GL_nil ?_
  refine GQ_sub (.cons (k := 6) rfl (.nil _)) ?_
  refine GQ_then ?_
  refine G_ret ?_
  refine GQ_then_ret ?_
  refine GQ_ret rfl (.tmp rfl .nil) ?_
  intro w1 hS; refine ⟨?_, hS.toKeep⟩; rfl
 have c1p := kz c1
 have hz : (Turn.doR X b (Turn.goO (Line.pick d 6))).2.2 = 0 := by simpa using c1
 have hk := Turn.do_ok hz
 have hb := hk.br
 have hl := Turn.doors hz hpk.1 hpk.2
 refine G_skip ?_
 refine GQ_sub (.cons (k := 1) rfl (.cons (k := 2) rfl (.cons (k := 3) rfl (.cons (k := 7) rfl (.nil _))))) ?_
 refine GQ_then ?_
 refine G_seq ?_
 refine G_region ?_
 refine GL_step rfl (PS_move rfl) ?_
 refine GL_step rfl (PS_fieldAddr fa34_2 rfl) ?_
 refine GL_step rfl (PS_indexAddr ia32 rfl rfl (by first | omega | (dsimp only; omega)) (by first | omega | (dsimp only; omega))) ?_
 refine GL_step rfl (PS_fieldAddr fa31_3 rfl) ?_
 refine GL_step rfl (PS_load rfl tys3 (.tail _ (.tail _ (.head _))) ((Land.l2.comp (Lens.arr (n := 6) Being.fl (by first | omega | (dsimp only; omega)) (by first | omega | (dsimp only; omega)))).comp Being.l3) rfl rfl) ?_
 refine GL_step rfl (PS_assign rfl) ?_
 refine GL_nil ?_
 refine GQ_sub (.cons (k := 1) rfl (.cons (k := 2) rfl (.cons (k := 3) rfl (.cons (k := 7) rfl (.cons (k := 10) rfl (.nil _)))))) ?_
 refine GQ_then ?_
 refine G_seq ?_
 refine G_seq ?_
 refine G_region ?_
 refine GL_step rfl (PS_move rfl) ?_
 refine GL_step rfl (PS_fieldAddr fa34_2 rfl) ?_
 refine GL_step rfl (PS_indexAddr ia32 rfl rfl (by first | omega | (dsimp only; omega)) (by first | omega | (dsimp only; omega))) ?_
 refine GL_step rfl (PS_fieldAddr fa31_3 rfl) ?_
 refine GL_step rfl (PS_load rfl tys3 (.head _) ((Land.l2.comp (Lens.arr (n := 6) Being.fl (by first | omega | (dsimp only; omega)) (by first | omega | (dsimp only; omega)))).comp Being.l3) rfl rfl) ?_
 refine GL_step rfl (PS_move rfl) ?_
 refine GL_step rfl (PS_eql rfl rfl) ?_
 refine GL_nil ?_
 refine GQ_sub (.cons (k := 1) rfl (.cons (k := 2) rfl (.cons (k := 3) rfl (.cons (k := 7) rfl (.cons (k := 10) rfl (.cons (k := 41) rfl (.nil _))))))) ?_
 refine GQ_then ?_
 refine G_cond rfl (fun c2 => ?_) (fun c2 => ?_)
 ·
  have c2p := kz c2
  have hr : ((Turn.doR X b (Turn.goO (Line.pick d 6))).1.beings.at b).room = (X.beings.at b).room := of_decide_eq_true c2
  have hq := hl.1 hr
  have hr6 : 0 ≤ (X.beings.at b).room ∧ (X.beings.at b).room < 6 := (hk.fit hw).room
  have hx6 : 0 ≤ (X.rooms.at (X.beings.at b).room).exits.at (Line.pick d 6) ∧ (X.rooms.at (X.beings.at b).room).exits.at (Line.pick d 6) ≤ 6 := (hk.fit hw).exit hpk.1 hpk.2
  refine G_seq ?_
  refine G_region ?_
  refine GL_step rfl (PS_move rfl) ?_
  refine GL_step rfl (PS_move rfl) ?_
  refine GL_step rfl (PS_fieldAddr fa34_0 rfl) ?_
  refine GL_step rfl (PS_indexAddr ia26 rfl rfl (by first | omega | (dsimp only; omega)) (by first | omega | (dsimp only; omega))) ?_
  refine GL_step rfl (PS_fieldAddr fa25_2 rfl) ?_
  refine GL_step rfl (PS_indexAddr ia22 rfl rfl (by first | omega | (dsimp only; omega)) (by first | omega | (dsimp only; omega))) ?_
  refine GL_step rfl (PS_load rfl tys3 (.tail _ (.tail _ (.head _))) (((Land.l0.comp (Lens.arr (n := 6) Room.fl (by first | omega | (dsimp only; omega)) (by first | omega | (dsimp only; omega)))).comp Room.l2).comp (Lens.arr (n := 6) flI (by first | omega | (dsimp only; omega)) (by first | omega | (dsimp only; omega)))) rfl rfl) ?_
  refine GL_step rfl (PS_eql rfl rfl) ?_
  refine GL_step rfl (PS_move rfl) ?_
  refine GL_gf (t := 50) rfl rfl rfl (fun q => PS_move rfl) ?_
  refine GL_gf (t := 50) rfl rfl rfl (fun q => PS_move rfl) ?_
  refine GL_gf (t := 50) rfl rfl rfl (fun q => PS_fieldAddr fa34_0 rfl) ?_
  refine GL_gf (t := 50) rfl rfl rfl (fun q => by have q1 := q; (try simp at q1); exact PS_indexAddr ia26 (cvE rfl (by rw [q]; rfl)) (cvE rfl (by rw [q]; rfl)) (by first | omega | (dsimp only; omega)) (by first | omega | (dsimp only; omega))) ?_
  refine GL_gf (t := 50) rfl rfl rfl (fun q => PS_fieldAddr fa25_3 (cvE rfl (by rw [q]; rfl))) ?_
  refine GL_gf (t := 50) rfl rfl rfl (fun q => by have q1 := q; (try simp at q1); exact PS_indexAddr ia23 (cvE rfl (by rw [q]; rfl)) (cvE rfl (by rw [q]; rfl)) (by first | omega | (dsimp only; omega)) (by first | omega | (dsimp only; omega))) ?_
  refine GL_gf (t := 50) rfl rfl rfl (fun q => by have q1 := q; (try simp at q1); exact PS_load (cvE rfl (by rw [q]; rfl)) tys4 (.tail _ (.tail _ (.head _))) (((Land.l0.comp (Lens.arr (n := 6) Room.fl (by first | omega | (dsimp only; omega)) (by first | omega | (dsimp only; omega)))).comp Room.l3).comp (Lens.arr (n := 6) flB (by first | omega | (dsimp only; omega)) (by first | omega | (dsimp only; omega)))) rfl rfl) ?_
  refine GL_step rfl (PS_or rfl rfl (fun h => by rw [h]; rfl)) ?_
  refine GL_step rfl (PS_move rfl) ?_
  refine GL_gf (t := 59) rfl rfl rfl (fun q => PS_move rfl) ?_
  refine GL_gf (t := 59) rfl rfl rfl (fun q => PS_move rfl) ?_
  refine GL_gf (t := 59) rfl rfl rfl (fun q => PS_fieldAddr fa34_0 rfl) ?_
  refine GL_gf (t := 59) rfl rfl rfl (fun q => by have q1 := q; (try simp at q1); exact PS_indexAddr ia26 (cvE rfl (by rw [q]; rfl)) (cvE rfl (by rw [q]; rfl)) (by first | omega | (dsimp only; omega)) (by first | omega | (dsimp only; omega))) ?_
  refine GL_gf (t := 59) rfl rfl rfl (fun q => PS_fieldAddr fa25_2 (cvE rfl (by rw [q]; rfl))) ?_
  refine GL_gf (t := 59) rfl rfl rfl (fun q => by have q1 := q; (try simp at q1); exact PS_indexAddr ia22 (cvE rfl (by rw [q]; rfl)) (cvE rfl (by rw [q]; rfl)) (by first | omega | (dsimp only; omega)) (by first | omega | (dsimp only; omega))) ?_
  refine GL_gf (t := 59) rfl rfl rfl (fun q => by have q1 := q; (try simp at q1); exact PS_load (cvE rfl (by rw [q]; rfl)) tys3 (.tail _ (.tail _ (.head _))) (((Land.l0.comp (Lens.arr (n := 6) Room.fl (by first | omega | (dsimp only; omega)) (by first | omega | (dsimp only; omega)))).comp Room.l2).comp (Lens.arr (n := 6) flI (by first | omega | (dsimp only; omega)) (by first | omega | (dsimp only; omega)))) rfl rfl) ?_
  refine GL_gf (t := 59) rfl rfl rfl (fun q => PS_move rfl) ?_
  refine GL_gf (t := 59) rfl rfl rfl (fun q => by have q1 := q; (try simp at q1); exact PS_add (cvE rfl (by rw [q]; rfl)) rfl (IntWalk.i64_in _ (by first | omega | (dsimp only; omega)))) ?_
  refine GL_gf (t := 59) rfl rfl rfl (fun q => PS_eql (cvE rfl (by rw [q]; rfl)) (cvE rfl (by rw [q]; rfl))) ?_
  refine GL_step rfl (PS_or rfl rfl (fun h => by rw [h]; rfl)) ?_
  refine GL_step rfl (PS_assign rfl) ?_
  refine GL_nil ?_
  refine GQ_sub (.cons (k := 6) rfl (.nil _)) ?_
  refine GQ_then ?_
  refine G_ret ?_
  refine GQ_then_ret ?_
  refine GQ_ret rfl (.tmp rfl .nil) ?_
  intro w1 hS; refine ⟨?_, hS.toKeep⟩; exact congrArg Value.bool (by rcases hq with e | e | e <;> simp [e])
 have c2p := kz c2
 have hr : ((Turn.doR X b (Turn.goO (Line.pick d 6))).1.beings.at b).room ≠ (X.beings.at b).room := of_decide_eq_false c2
 obtain ⟨hq1, hq2, hq3, hq4⟩ := hl.2 hr
 have hr6 : 0 ≤ (X.beings.at b).room ∧ (X.beings.at b).room < 6 := (hk.fit hw).room
 have hx6 : 0 ≤ (X.rooms.at (X.beings.at b).room).exits.at (Line.pick d 6) ∧ (X.rooms.at (X.beings.at b).room).exits.at (Line.pick d 6) ≤ 6 := (hk.fit hw).exit hpk.1 hpk.2
 refine G_skip ?_
 refine GQ_sub (.cons (k := 1) rfl (.cons (k := 2) rfl (.cons (k := 3) rfl (.cons (k := 7) rfl (.cons (k := 10) rfl (.nil _)))))) ?_
 refine GQ_then ?_
 refine G_seq ?_
 refine G_planN (N := 39) [0, 0, 3, 7, 15, 0, 0, 0, 160, 416, 992, 2016, 4064, 8191, 16383, 32767, 32767, 32767, 196607, 458751, 1048575, 2097151, 4194303, 8388607, 16777215, 33554431, 67108863, 33554431, 167772159, 536870911, 1073741823, 2147483647, 4294967295, 8589934591, 4294967295, 21474836479, 68719476735, 137438953471, 274877906943] mix (by kernel_rfl) rfl ?_
 refine Plan_float 0 rfl rfl (by kernel_rfl) (OK_s (EX_s (PS_move rfl))) ?_
 refine Plan_float 1 rfl rfl (by kernel_rfl) (OK_s (EX_s (PS_fieldAddr fa34_2 rfl))) ?_
 refine Plan_float 2 rfl rfl (by kernel_rfl) (OK_s (EX_s (PS_indexAddr ia32 rfl rfl (by first | omega | (dsimp only; omega)) (by first | omega | (dsimp only; omega))))) ?_
 refine Plan_float 3 rfl rfl (by kernel_rfl) (OK_s (EX_s (PS_fieldAddr fa31_3 rfl))) ?_
 refine Plan_float 4 rfl rfl (by kernel_rfl) (OK_s (EX_s (PS_load rfl tys3 (.head _) ((Land.l2.comp (Lens.arr (n := 6) Being.fl (by first | omega | (dsimp only; omega)) (by first | omega | (dsimp only; omega)))).comp Being.l3) rfl rfl))) ?_
 refine Plan_float 5 rfl rfl (by kernel_rfl) (OK_s (EX_s (PS_move rfl))) ?_
 refine Plan_float 6 rfl rfl (by kernel_rfl) (OK_s (EX_s (PS_move rfl))) ?_
 refine Plan_float 7 rfl rfl (by kernel_rfl) (OK_s (EX_s (PS_fieldAddr fa34_0 rfl))) ?_
 refine Plan_float 8 rfl rfl (by kernel_rfl) (OK_s (EX_s (PS_indexAddr ia26 rfl rfl (by first | omega | (dsimp only; omega)) (by first | omega | (dsimp only; omega))))) ?_
 refine Plan_float 9 rfl rfl (by kernel_rfl) (OK_s (EX_s (PS_fieldAddr fa25_2 rfl))) ?_
 refine Plan_float 10 rfl rfl (by kernel_rfl) (OK_s (EX_s (PS_indexAddr ia22 rfl rfl (by first | omega | (dsimp only; omega)) (by first | omega | (dsimp only; omega))))) ?_
 refine Plan_float 11 rfl rfl (by kernel_rfl) (OK_s (EX_s (PS_load rfl tys3 (.tail _ (.tail _ (.head _))) (((Land.l0.comp (Lens.arr (n := 6) Room.fl (by first | omega | (dsimp only; omega)) (by first | omega | (dsimp only; omega)))).comp Room.l2).comp (Lens.arr (n := 6) flI (by first | omega | (dsimp only; omega)) (by first | omega | (dsimp only; omega)))) rfl rfl))) ?_
 refine Plan_float 12 rfl rfl (by kernel_rfl) (OK_s (EX_s (PS_sub rfl rfl (IntWalk.i64_in _ (by first | omega | (dsimp only; omega)))))) ?_
 refine Plan_float 13 rfl rfl (by kernel_rfl) (OK_s (EX_s (PS_eql rfl rfl))) ?_
 refine Plan_float 14 rfl rfl (by kernel_rfl) (OK_s (EX_s (PS_move rfl))) ?_
 refine Plan_float 15 rfl rfl (by kernel_rfl) (OK_gt (t := 85) rfl rfl (fun q => EX_s (PS_move rfl))) ?_
 refine Plan_float 16 rfl rfl (by kernel_rfl) (OK_gt (t := 85) rfl rfl (fun q => EX_s (PS_move rfl))) ?_
 refine Plan_float 17 rfl rfl (by kernel_rfl) (OK_gt (t := 85) rfl rfl (fun q => EX_s (PS_fieldAddr fa34_0 rfl))) ?_
 refine Plan_float 18 rfl rfl (by kernel_rfl) (OK_gt (t := 85) rfl rfl (fun q => by have q1 := q; (try simp at q1); exact EX_s (PS_indexAddr ia26 (cvE rfl q) (cvE rfl q) (by first | omega | (dsimp only; omega)) (by first | omega | (dsimp only; omega))))) ?_
 refine Plan_float 19 rfl rfl (by kernel_rfl) (OK_gt (t := 85) rfl rfl (fun q => EX_s (PS_fieldAddr fa25_3 (cvE rfl q)))) ?_
 refine Plan_float 20 rfl rfl (by kernel_rfl) (OK_gt (t := 85) rfl rfl (fun q => by have q1 := q; (try simp at q1); exact EX_s (PS_indexAddr ia23 (cvE rfl q) (cvE rfl q) (by first | omega | (dsimp only; omega)) (by first | omega | (dsimp only; omega))))) ?_
 refine Plan_float 21 rfl rfl (by kernel_rfl) (OK_gt (t := 85) rfl rfl (fun q => by have q1 := q; (try simp at q1); exact EX_s (PS_load (cvE rfl q) tys4 (.tail _ (.tail _ (.head _))) (((Land.l0.comp (Lens.arr (n := 6) Room.fl (by first | omega | (dsimp only; omega)) (by first | omega | (dsimp only; omega)))).comp Room.l3).comp (Lens.arr (n := 6) flB (by first | omega | (dsimp only; omega)) (by first | omega | (dsimp only; omega)))) rfl rfl))) ?_
 refine Plan_float 22 rfl rfl (by kernel_rfl) (OK_gt (t := 85) rfl rfl (fun q => EX_s (PS_not (cvE rfl q)))) ?_
 refine Plan_float 23 rfl rfl (by kernel_rfl) (OK_s (EX_s (PS_and rfl rfl (fun h => h)))) ?_
 refine Plan_float 24 rfl rfl (by kernel_rfl) (OK_s (EX_s (PS_move rfl))) ?_
 refine Plan_float 25 rfl rfl (by kernel_rfl) (OK_gt (t := 95) rfl rfl (fun q => EX_s (PS_fieldAddr fa34_1 rfl))) ?_
 refine Plan_float 26 rfl rfl (by kernel_rfl) (OK_gt (t := 95) rfl rfl (fun q => EX_s (PS_loadA (cvE rfl q) tya29 (.head _) Land.l1 rfl))) ?_
 refine Plan_float 27 rfl rfl (by kernel_rfl) (OK_gt (t := 95) rfl rfl (fun q => EX_s (PS_fieldAddr fa34_1 rfl))) ?_
 refine Plan_float 28 rfl rfl (by kernel_rfl) (OK_gt (t := 95) rfl rfl (fun q => EX_s (PS_loadA (cvE rfl q) tya29 (.tail _ (.tail _ (.head _))) Land.l1 rfl))) ?_
 refine Plan_float 29 rfl rfl (by kernel_rfl) (OK_gt (t := 95) rfl rfl (fun q => EX_s (PS_eql_agg eq29 (by decide) (by kernel_rfl) (cvE rfl q) (cvE rfl q)))) ?_
 refine Plan_float 30 rfl rfl (by kernel_rfl) (OK_s (EX_s (PS_and rfl rfl (fun h => h)))) ?_
 refine Plan_float 31 rfl rfl (by kernel_rfl) (OK_s (EX_s (PS_move rfl))) ?_
 refine Plan_float 32 rfl rfl (by kernel_rfl) (OK_gt (t := 102) rfl rfl (fun q => EX_s (PS_fieldAddr fa34_0 rfl))) ?_
 refine Plan_float 33 rfl rfl (by kernel_rfl) (OK_gt (t := 102) rfl rfl (fun q => EX_s (PS_loadA (cvE rfl q) tya26 (.head _) Land.l0 rfl))) ?_
 refine Plan_float 34 rfl rfl (by kernel_rfl) (OK_gt (t := 102) rfl rfl (fun q => EX_s (PS_fieldAddr fa34_0 rfl))) ?_
 refine Plan_float 35 rfl rfl (by kernel_rfl) (OK_gt (t := 102) rfl rfl (fun q => EX_s (PS_loadA (cvE rfl q) tya26 (.tail _ (.tail _ (.head _))) Land.l0 rfl))) ?_
 refine Plan_float 36 rfl rfl (by kernel_rfl) (OK_gt (t := 102) rfl rfl (fun q => EX_s (PS_eql_agg eq26 (by decide) (by kernel_rfl) (cvE rfl q) (cvE rfl q)))) ?_
 refine Plan_float 37 rfl rfl (by kernel_rfl) (OK_s (EX_s (PS_and rfl rfl (fun h => h)))) ?_
 refine Plan_float 38 rfl rfl (by kernel_rfl) (OK_s (EX_s (PS_assign rfl))) ?_
 refine Plan_end (by kernel_rfl) ?_
 refine GQ_sub (.cons (k := 6) rfl (.nil _)) ?_
 refine GQ_then ?_
 refine G_ret ?_
 refine GQ_ret rfl (.tmp rfl .nil) ?_
 intro w1 hS; refine ⟨?_, hS.toKeep⟩; exact congrArg Value.bool (by rw [hq3, hq4, hq2, ← hq1]; simp)
mutual
def cellsD {H : Type} : DataW H → List Value
  | .lit (.int k n) => [.int k n]
  | .lit (.string bs) => [.string ⟨bs.toArray⟩]
  | .lit (.bool b) => [.bool b]
  | .agg ps => cellsDs ps
  | _ => []
def cellsDs {H : Type} : List (DataW H) → List Value
  | [] => []
  | d :: r => cellsD d ++ cellsDs r
end
def cellsE {H : Type} : DataW H → List Value
  | .iface _ (.ptr (.agg ps)) => cellsDs ps
  | _ => []
/-- Where what the errors point to lies. -/
noncomputable def low : Nat := (World.holding Tryd.prog default ⟨#[], #[], []⟩).heap.size
/-- A world in which the listed variables hold what is listed. -/
noncomputable def laidWorld (os : Os) : World := { World.holding Tryd.prog os ⟨#[.cells (cellsE (Rows.laid_strconv_ErrRange : DataW Unit)).toArray 142, .cells (cellsE (Rows.laid_strconv_ErrSyntax : DataW Unit)).toArray 142], #[], []⟩ with heap := (((((((World.holding Tryd.prog os ⟨#[.cells (cellsE (Rows.laid_strconv_ErrRange : DataW Unit)).toArray 142, .cells (cellsE (Rows.laid_strconv_ErrSyntax : DataW Unit)).toArray 142], #[], []⟩).heap.modify 4 fun o => match o with | .cells _ t frozen => .cells #[.iface 140 (.pointer (some ⟨low + 0, 0, none⟩))] t frozen | o => o).modify 3 fun o => match o with | .cells _ t frozen => .cells #[.iface 140 (.pointer (some ⟨low + 1, 0, none⟩))] t frozen | o => o).modify 5 fun o => match o with | .cells _ t frozen => .cells (cellsD (Rows.laid_math_bits_deBruijn32tab : DataW Unit)).toArray t frozen | o => o).modify 6 fun o => match o with | .cells _ t frozen => .cells (cellsD (Rows.laid_math_bits_deBruijn64tab : DataW Unit)).toArray t frozen | o => o).modify 1 fun o => match o with | .cells _ t frozen => .cells (cellsD (Rows.laid_internal_strconv_uint64pow10 : DataW Unit)).toArray t frozen | o => o).modify 0 fun o => match o with | .cells _ t frozen => .cells (cellsD (Rows.laid_inglenook_words_verbs : DataW Unit)).toArray t frozen | o => o) }
set_option maxRecDepth 100000 in
theorem laid_met (os : Os) : laidMet Tryd.prog Rows.rulesDoorsRow.laid ((laidWorld os).forCall (fun _ _ => 0) ⟨#[], #[.agg (Land.enc (default : Land)).toArray, .int .i64 0, .int .i64 0], []⟩).memory :=
  laidMet_of_run' 8 (by kernel_rfl) (by kernel_rfl)
set_option maxRecDepth 100000 in
theorem reads (os : Os) {H : Type} (enc : TypeId × Value → H) : ∃ places, DataW.whole enc Tryd.prog ((laidWorld os).forCall (fun _ _ => 0) ⟨#[], #[.agg (Land.enc (default : Land)).toArray, .int .i64 0, .int .i64 0], []⟩).memory Tryd.f4.params.toList Rows.rulesDoorsSpec.vars false (#[.agg (Land.enc (default : Land)).toArray, .int .i64 0, .int .i64 0] : Array Value).toList 8 = some ([.agg [.agg (List.replicate 6 (.agg [.lit (.string []), .lit (.bool false), .agg (List.replicate 6 (.lit (.int .i64 0))), .agg (List.replicate 6 (.lit (.bool false)))])), .agg (List.replicate 9 (.agg [.lit (.string []), .lit (.int .i64 0), .lit (.int .i64 0), .lit (.int .i64 0), .lit (.bool false)])), .agg (List.replicate 6 (.agg [.lit (.string []), .lit (.bool false), .lit (.bool false), .lit (.int .i64 0), .lit (.int .i64 0), .lit (.int .i64 0)]))], .lit (.int .i64 0), .lit (.int .i64 0)], [], places) := ⟨[], by kernel_rfl⟩
set_option maxRecDepth 100000 in
theorem rulesDoors_lifted (os : Os) (started : os.Started) (H : Type) (enc : TypeId × Value → H) (F : Stop.Interp) :
    ReturnsInHanded {} Tryd.checked os 4 .any ((OpenSpec.ofChange Rows.rulesDoorsSpec).preRow enc Tryd.prog Tryd.f4 Rows.rulesDoorsRow.domain false Rows.rulesDoorsRow.laid) (((OpenSpec.ofChange Rows.rulesDoorsSpec).at F).post enc Tryd.prog Tryd.f4 false true false false) := by
  obtain ⟨places, hx⟩ := reads os enc
  refine returnsInHanded_of_row (C := Tryd.checked) (s := (OpenSpec.ofChange Rows.rulesDoorsSpec)) own started (by kernel_rfl) Tryd.func4
    (witness_row_at (enc := enc) (C := Tryd.checked) false (laidWorld os) #[.agg (Land.enc (default : Land)).toArray, .int .i64 0, .int .i64 0] rfl (by kernel_rfl) (by kernel_rfl) (by kernel_rfl)
      (OpenSpec.preRow_of_cond 8 hx (by kernel_rfl) (fun k hk => by cases hk) (by kernel_rfl) (laid_met os))) ?_
  intro W base args ds gs before hval hW _ hcond hsz hL hSh _
  refine law_post (B := 4) laidOut (by kernel_rfl) Tryd.underlying4 (by kernel_rfl) rfl (fun ds h => by rw [Tryd.params4] at h; match ds, h with | [d1, d2, d3], _ => rfl) hW ?_
  obtain ⟨p, q, hA, hV, _, _, _⟩ := hW
  rw [Tryd.params4] at hA
  obtain ⟨v0, vs0, d0, ds0, p0, q0, hv0, rfl, rfl, hd0, hA⟩ := trodAll_cons hA
  obtain ⟨v1, vs1, d1, ds1, p1, q1, hv1, rfl, rfl, hd1, hA⟩ := trodAll_cons hA
  obtain ⟨v2, vs2, d2, ds2, p2, q2, hv2, rfl, rfl, hd2, hA⟩ := trodAll_cons hA
  obtain ⟨hvn, rfl, rfl⟩ := trodAll_nil hA
  obtain rfl : args = #[v0, v1, v2] := by cases args; simp_all
  obtain ⟨X, rfl, w0⟩ := open_ag (P := Tryd.prog) (t := 34) (by rw [Tryd.underlying34]) (hval 0 _ _ rfl rfl) dc34 hd0
  obtain ⟨b, rfl, rfl, rfl, w1⟩ := open_int Tryd.underlying3 (hval 1 _ _ rfl rfl) hd1
  have w1 := bounds_i64 w1
  obtain ⟨d, rfl, rfl, rfl, w2⟩ := open_int Tryd.underlying3 (hval 2 _ _ rfl rfl) hd2
  have w2 := bounds_i64 w2
  exact keep_RulesDoors_spec _ _ _ (by have k1 : ∀ i, 0 ≤ i → i < 9 → (X.things.at i).name.length ≤ 140737488351232 := fun i i0 i1 => (reach3 (q := 1) (oA := 84) (n := 9) (z := 5) (i := i.toNat) (s := (X.things.at i).name) Tryd.underlying34 rfl Tryd.underlying29 (by kernel_rfl) Tryd.underlying28 rfl (by kernel_rfl) Tryd.underlying9 (by kernel_rfl) (by omega) (by decide) hd0 (Land.name_at i0 i1) (sized_arg hsz (j := 0) rfl rfl)); have k2 : ∀ i, 0 ≤ i → i < 6 → (X.beings.at i).name.length ≤ 140737488351232 := fun i i0 i1 => (reach3 (q := 2) (oA := 129) (n := 6) (z := 6) (i := i.toNat) (s := (X.beings.at i).name) Tryd.underlying34 rfl Tryd.underlying32 (by kernel_rfl) Tryd.underlying31 rfl (by kernel_rfl) Tryd.underlying9 (by kernel_rfl) (by omega) (by decide) hd0 (Land.bname_at i0 i1) (sized_arg hsz (j := 0) rfl rfl)); have k3 : ∀ i, 0 ≤ i → i < 6 → (X.rooms.at i).name.length ≤ 140737488351232 := fun i i0 i1 => (reach3 (q := 0) (oA := 0) (n := 6) (z := 14) (i := i.toNat) (s := (X.rooms.at i).name) Tryd.underlying34 rfl Tryd.underlying26 (by kernel_rfl) Tryd.underlying25 rfl (by kernel_rfl) Tryd.underlying9 (by kernel_rfl) (by omega) (by decide) hd0 (Land.rname_at i0 i1) (sized_arg hsz (j := 0) rfl rfl)); exact Land.brief_of k1 k2 k3) W (gv_strs hL mem_laid_inglenook_words_verbs (by kernel_rfl) (by kernel_rfl) Tryd.underlying92 Tryd.underlying9 (by kernel_rfl) (by kernel_rfl)) (gve hL mem_laid_strconv_ErrSyntax rfl (by kernel_rfl) (by kernel_rfl) Tryd.underlying72) (gve hL mem_laid_strconv_ErrRange rfl (by kernel_rfl) (by kernel_rfl) Tryd.underlying72)
theorem rulesDoors_said : Rows.RulesDoorsSaid :=
  OpenClaim.holds_of_cond 4 Tryd.f4 rfl rfl rfl rfl rfl rfl rfl ⟨rfl, rfl, rfl, rfl, rfl⟩ rfl rfl rfl rfl rfl (by kernel_rfl) Tryd.func4 (by kernel_rfl)
    (of_decide_eq_true (by kernel_rfl)) (by unfold Func.isWrapper; first | (rw [if_pos (by decide +kernel)]; kernel_rfl) | (rw [if_neg (by decide +kernel)]; exact ⟨rfl, rfl⟩))
    (fun os started H enc _ F => by rw [OpenClaim.pre_eq_preRow]; exact rulesDoors_lifted os started H enc F)
theorem plainArgs (f : FuncId) (fn : Func) (hf : Tryd.pinned.checked.prog.funcNamed "inglenook/inglenookkeep.RulesDoors" = some f) (hfn : Tryd.pinned.checked.prog.funcs[f]? = some fn) :
    true = Tryd.pinned.checked.prog.looks [] ∧ ∀ (j : Nat) t, fn.params[j]? = some t → Tryd.pinned.checked.prog.wantsStandIn t = false := by
  obtain rfl : f = 4 := Option.some.inj ((show Tryd.prog.funcNamed "inglenook/inglenookkeep.RulesDoors" = some 4 by kernel_rfl).symm.trans hf) |>.symm
  obtain rfl : fn = Tryd.f4 := (Option.some.inj (Tryd.func4.symm.trans hfn)).symm
  refine ⟨by kernel_rfl, fun j t ht => ?_⟩
  rw [Tryd.params4] at ht
  have hm : t ∈ [34, 3, 3] := by simpa using Array.mem_of_getElem? ht
  have hall : ([34, 3, 3].all fun u => !Tryd.prog.wantsStandIn u) = true := by kernel_rfl
  exact (show Tryd.prog.wantsStandIn t = false by simpa using List.all_eq_true.1 hall t hm)
theorem rulesDoors_holds : Rows.RulesDoorsCardSaid :=
  Claim7.holds_tied_plain_at .later [] _ _ _ _ rulesDoors_said (fun _ h => by cases h) (by kernel_rfl) (fun _ h => by cases h) rulesDoors_row_tie rfl ⟨rfl, rfl⟩ (by kernel_rfl) rfl plainArgs (by kernel_rfl)
end Go.Proofs.YthaobbemigbcgaaDoor
