/- What the functions that the law RulesFights reaches compute: walks, part 2. No condition. -/
import Derived.Test.YthaobbemigbcgaaGreatDoorCards
import Derived.Test.YthaobbemigbcgaaGreatDoorTie
import Derived.Deep.DeepHandedRow
import Derived.Test.YthaobbemigbcgaaGreatDoorRows
import Derived.Test.YthaobbemigbcgaaGreatDoorRulesFightsEc3
import Derived.Test.YthaobbemigbcgaaGreatDoorRulesFightsRa1
import Derived.Test.YthaobbemigbcgaaGreatDoorRulesFightsRb1
import Derived.Test.YthaobbemigbcgaaGreatDoorRulesFightsWalks
set_option linter.unusedSimpArgs false
set_option linter.unusedVariables false
set_option maxRecDepth 100000
set_option maxHeartbeats 1000000
namespace Go.Proofs.YthaobbemigbcgaaGreatDoor
open Go Go.Ing Go.RowKit Go.ChangeShapes Go.WideShapes Go.ChangeAt
theorem rules_Round_spec (X : Land) (d : Int) (hw : X.Brief) : CtrR Tryz.prog 12 #[.agg X.enc.toArray, .int .i64 d] [] (fun w => (GV 1 Land.verbsV w ∧ 1 ∉ feet [])) (fun v B => ∃ h : Hd, v = .tuple #[.agg ((Turn.roundR X d).1.enc).toArray, h.val, .int .i64 (Turn.roundR X d).2.2] ∧ h.len = (Turn.roundR X d).2.1.length ∧ B = [Res.own h 60 16 ((Turn.roundR X d).2.1.flatMap Ing.Event.enc)]) := by
 intro w hS0 hH
 obtain ⟨gl0, gm0⟩ := hH
 have hm := tmod3 d
 refine Ret_body _ _ Tryz.func12 rfl rfl rfl (hS0) ?_
 refine G_seq ?_
 refine G_region ?_
 refine GL_box rfl rfl rfl (fun b1 => ?_)
 refine GL_alloc rfl zv34 rfl (fun b2 => ?_)
 refine GL_step rfl (PS_assign rfl) ?_
 refine GL_step rfl (PS_assign rfl) ?_
 refine GL_nil ?_
 refine GQ_sub (.cons (k := 1) rfl (.cons (k := 2) rfl (.cons (k := 4) rfl (.nil _)))) ?_
 refine GQ_then ?_
 refine G_seq ?_
 refine G_seq ?_
 refine G_region ?_
 refine GL_step rfl (PS_loadA rfl tya34 (.tail _ (.head _)) (Lens.id Land.fl.len Land.fl.one) rfl) ?_
 refine GL_pure rfl cf16 (.cons rfl .nil) (fun w hS => land_Good_spec _ w) ?_
 refine GL_step rfl (PS_not rfl) ?_
 refine GL_nil ?_
 refine GQ_sub (.cons (k := 1) rfl (.cons (k := 2) rfl (.cons (k := 4) rfl (.cons (k := 16) rfl (.nil _))))) ?_
 refine GQ_then ?_
 refine G_cond rfl (fun c1 => ?_) (fun c1 => ?_)
 ·
  have c1p := kz c1
  refine G_seq ?_
  refine G_region ?_
  refine GL_step rfl (PS_loadA rfl tya34 (.tail _ (.head _)) (Lens.id Land.fl.len Land.fl.one) rfl) ?_
  refine GL_unit (PU_store (Lens.id Land.fl.len Land.fl.one) rfl rfl rfl sz34 rfl .head) ?_
  refine GL_step rfl (PS_assign rfl) ?_
  refine GL_step rfl (PS_assign rfl) ?_
  refine GL_nil ?_
  refine GQ_sub (.cons (k := 4) rfl (.cons (k := 5) rfl (.cons (k := 6) rfl (.nil _)))) ?_
  refine GQ_then ?_
  refine G_ret ?_
  refine GQ_then_ret ?_
  refine GQ_ret rfl (.cell rfl (.head _) (.inl ⟨(by rw [Land.fl.len]; exact tya34), rfl⟩) (.tmp rfl (.tmp rfl .nil))) ?_
  intro w1 hS
  have hS := hS.own_nil 60 16
  have hS := (hS.perm (Pulls.perm (.cons .head .nil))).headL
  have hq : Turn.roundR X d = _ := if_t c1
  refine ⟨_, ⟨⟨none, 0, 0⟩, ?hv, ?hl, ?hB⟩, hS⟩
  case hv => rw [hq]; rfl
  case hl => rw [hq]; rfl
  case hB => rw [hq]; rfl
 have c1p := kz c1
 refine G_skip ?_
 refine GQ_sub (.cons (k := 1) rfl (.cons (k := 2) rfl (.cons (k := 4) rfl (.nil _)))) ?_
 refine GQ_then ?_
 refine G_seq ?_
 refine G_region ?_
 refine GL_step rfl (PS_assign rfl) ?_
 refine GL_nil ?_
 refine GQ_then ?_
 refine G_seq ?_
 refine G_seq ?_
 refine G_region ?_
 refine GL_step rfl (PS_move rfl) ?_
 refine GL_nil ?_
 refine GQ_then ?_
 refine G_block ?_
 refine G_subF (.cons (k := 7) rfl (.cons (k := 18) rfl (.cons (k := 1) rfl (.cons (k := 2) rfl (.cons (k := 4) rfl (.nil _)))))) ?_
 refine G_nilF Ing.Event.enc 60 16 ?_
 refine G_pull (.tail (.tail .head)) ?_
 refine G_pull (.tail .head) ?_
 refine G_loop3_ (fun (k : Int) (s : Land × List Ing.Event) (h : Hd) => 0 ≤ k ∧ k ≤ 6 ∧ s = Turn.roundK X d k.toNat ∧ s.1.good = true ∧ s.1.Brief ∧ (s.2.length : Int) ≤ 13 * k ∧ h.len = s.2.length) (fun (k : Int) (s : Land × List Ing.Event) (h : Hd) => (6 - k).toNat) (fun (k : Int) (s : Land × List Ing.Event) (h : Hd) => [(7, h.val), (18, .int .i64 k)]) (fun (k : Int) (s : Land × List Ing.Event) (h : Hd) => [Res.own h 60 16 (s.2.flatMap Ing.Event.enc), Res.box b1 34 (Land.enc s.1)]) (0) ((X, [])) (_) ?_ rfl rfl (fun k s h hI1 => ?_)
 · exact ⟨by omega, by omega, rfl, by simpa using c1, hw, by simp, rfl⟩
 obtain ⟨hI11, hI12, hI13, hI14, hI15, hI16, hI17⟩ := hI1
 refine G_seq ?_
 refine G_region ?_
 refine GL_step rfl (PS_lss rfl rfl) ?_
 refine GL_nil ?_
 refine GQ_then ?_
 refine G_seq ?_
 refine G_cond rfl (fun c2 => ?_) (fun c2 => ?_)
 ·
  have c2p := kz c2
  have hbe := Turn.good_be hI14 hI11 (show k < 6 by omega)
  have hfo := hbe.foe
  refine G_skip ?_
  refine GQ_sub (.cons (k := 1) rfl (.cons (k := 2) rfl (.cons (k := 4) rfl (.cons (k := 7) rfl (.cons (k := 18) rfl (.nil _)))))) ?_
  refine GQ_then ?_
  refine G_seq ?_
  refine G_block ?_
  refine G_seq ?_
  refine G_region ?_
  refine GL_step rfl (PS_move rfl) ?_
  refine GL_step rfl (PS_assign rfl) ?_
  refine GL_nil ?_
  refine GQ_sub (.cons (k := 1) rfl (.cons (k := 2) rfl (.cons (k := 4) rfl (.cons (k := 7) rfl (.cons (k := 8) rfl (.cons (k := 18) rfl (.nil _))))))) ?_
  refine GQ_then ?_
  refine G_seq ?_
  refine G_region ?_
  refine GL_step rfl (PS_move rfl) ?_
  refine GL_step rfl (PS_fieldAddr fa34_2 rfl) ?_
  refine GL_step rfl (PS_indexAddr ia32 rfl rfl (by first | omega | (dsimp only; omega) | (have := tmod3 (d.tmod 3 + 3 + k); omega)) (by first | omega | (dsimp only; omega) | (have := tmod3 (d.tmod 3 + 3 + k); omega))) ?_
  refine GL_step rfl (PS_loadA rfl tya31 (.tail _ (.head _)) (Land.l2.comp (Lens.arr (n := 6) Being.fl (by first | omega | (dsimp only; omega) | (have := tmod3 (d.tmod 3 + 3 + k); omega)) (by first | omega | (dsimp only; omega) | (have := tmod3 (d.tmod 3 + 3 + k); omega)))) rfl) ?_
  refine GL_alloc rfl zv31 rfl (fun b3 => ?_)
  refine GL_unit (PU_store (Lens.id Being.fl.len Being.fl.one) rfl rfl rfl sz31 rfl .head) ?_
  refine GL_nil ?_
  refine GQ_sub (.cons (k := 1) rfl (.cons (k := 2) rfl (.cons (k := 4) rfl (.cons (k := 7) rfl (.cons (k := 8) rfl (.cons (k := 9) rfl (.cons (k := 18) rfl (.nil _)))))))) ?_
  refine GQ_then ?_
  refine G_seq ?_
  refine G_seq ?_
  refine G_region ?_
  refine GL_step rfl (PS_fieldAddr fa31_1 rfl) ?_
  refine GL_step rfl (PS_load rfl tys4 (.head _) Being.l1 rfl rfl) ?_
  refine GL_step rfl (PS_not rfl) ?_
  refine GL_step rfl (PS_move rfl) ?_
  refine GL_gf (t := 28) rfl rfl rfl (fun q => PS_fieldAddr fa31_5 rfl) ?_
  refine GL_gf (t := 28) rfl rfl rfl (fun q => PS_load (cvE rfl (by rw [q]; rfl)) tys3 (.head _) Being.l5 rfl rfl) ?_
  refine GL_gf (t := 28) rfl rfl rfl (fun q => PS_eql (cvE rfl (by rw [q]; rfl)) rfl) ?_
  refine GL_step rfl (PS_or rfl rfl (fun h => by rw [h]; rfl)) ?_
  refine GL_nil ?_
  refine GQ_sub (.cons (k := 1) rfl (.cons (k := 2) rfl (.cons (k := 4) rfl (.cons (k := 7) rfl (.cons (k := 8) rfl (.cons (k := 9) rfl (.cons (k := 18) rfl (.cons (k := 32) rfl (.nil _))))))))) ?_
  refine GQ_then ?_
  refine G_cond rfl (fun c3 => ?_) (fun c3 => ?_)
  ·
   have c3p := kz c3
   refine G_exit ?_
   refine GQ_then_exit ?_
   refine GQ_block_exit ?_
   refine GQ_sub (.cons (k := 1) rfl (.cons (k := 2) rfl (.cons (k := 4) rfl (.cons (k := 7) rfl (.cons (k := 18) rfl (.nil _)))))) ?_
   refine GQ_then ?_
   refine G_region ?_
   refine GL_step rfl (PS_add rfl rfl (IntWalk.i64_in _ (by first | omega | (dsimp only; omega) | (have := tmod3 (d.tmod 3 + 3 + k); omega)))) ?_
   refine GL_step rfl (PS_move rfl) ?_
   refine GL_nil ?_
   refine GQ_sub (.cons (k := 1) rfl (.cons (k := 2) rfl (.cons (k := 4) rfl (.cons (k := 7) rfl (.cons (k := 18) rfl (.nil _)))))) ?_
   refine GQ_next3_ (k + 1) (s) _ ?_ ?_ (.cons (k := 7) rfl (.cons (k := 18) rfl (.cons (k := 1) rfl (.cons (k := 2) rfl (.cons (k := 4) rfl (.nil _)))))) (.cons _ (.refl _))
   · have hrs : Turn.roundS d k s = _ := (if_t c3)
     have hrg := Turn.roundS_good (draw := d) hI14 hI15 hI11 (by omega)
     rw [hrs] at hrg
     exact ⟨by omega, by omega, by rw [Turn.roundK_step hI11, ← hI13, hrs], hrg.1, hrg.2.1, (by have := hrg.2.2; omega), (by first | assumption | (have hso : (Turn.struck s.1 k ((s.1.beings.at k).foe - 1) (Turn.hit d k)).out.length = 1 := rfl; (try dsimp only at *); simp only [List.length_append] at *; omega))⟩
   · omega
  have c3p := kz c3
  have hf0 : 0 ≤ ((s.1.beings.at k).foe - 1) ∧ ((s.1.beings.at k).foe - 1) < 6 := by omega
  have hbf := (Turn.good_be hI14 hf0.1 hf0.2).health
  refine G_skip ?_
  refine GQ_sub (.cons (k := 1) rfl (.cons (k := 2) rfl (.cons (k := 4) rfl (.cons (k := 7) rfl (.cons (k := 8) rfl (.cons (k := 9) rfl (.cons (k := 18) rfl (.nil _)))))))) ?_
  refine GQ_then ?_
  refine G_seq ?_
  refine G_region ?_
  refine GL_step rfl (PS_fieldAddr fa31_5 rfl) ?_
  refine GL_step rfl (PS_load rfl tys3 (.head _) Being.l5 rfl rfl) ?_
  refine GL_step rfl (PS_sub rfl rfl (IntWalk.i64_in _ (by first | omega | (dsimp only; omega) | (have := tmod3 (d.tmod 3 + 3 + k); omega)))) ?_
  refine GL_step rfl (PS_assign rfl) ?_
  refine GL_nil ?_
  refine GQ_sub (.cons (k := 1) rfl (.cons (k := 2) rfl (.cons (k := 4) rfl (.cons (k := 7) rfl (.cons (k := 8) rfl (.cons (k := 9) rfl (.cons (k := 10) rfl (.cons (k := 18) rfl (.nil _))))))))) ?_
  refine GQ_then ?_
  refine G_seq ?_
  refine G_seq ?_
  refine G_planN (N := 16) [0, 0, 3, 7, 15, 31, 63, 127, 127, 511, 1023, 2047, 127, 4223, 16383, 32767] mix (by kernel_rfl) rfl ?_
  refine Plan_float 0 rfl rfl (by kernel_rfl) (OK_s (EX_s (PS_move rfl))) ?_
  refine Plan_float 1 rfl rfl (by kernel_rfl) (OK_s (EX_s (PS_fieldAddr fa34_2 rfl))) ?_
  refine Plan_float 2 rfl rfl (by kernel_rfl) (OK_s (EX_s (PS_indexAddr ia32 rfl rfl (by first | omega | (dsimp only; omega) | (have := tmod3 (d.tmod 3 + 3 + k); omega)) (by first | omega | (dsimp only; omega) | (have := tmod3 (d.tmod 3 + 3 + k); omega))))) ?_
  refine Plan_float 3 rfl rfl (by kernel_rfl) (OK_s (EX_s (PS_fieldAddr fa31_1 rfl))) ?_
  refine Plan_float 4 rfl rfl (by kernel_rfl) (OK_s (EX_s (PS_load rfl tys4 (.tail _ (.tail _ (.head _))) ((Land.l2.comp (Lens.arr (n := 6) Being.fl (by first | omega | (dsimp only; omega) | (have := tmod3 (d.tmod 3 + 3 + k); omega)) (by first | omega | (dsimp only; omega) | (have := tmod3 (d.tmod 3 + 3 + k); omega)))).comp Being.l1) rfl rfl))) ?_
  refine Plan_float 5 rfl rfl (by kernel_rfl) (OK_s (EX_s (PS_not rfl))) ?_
  refine Plan_float 6 rfl rfl (by kernel_rfl) (OK_s (EX_s (PS_move rfl))) ?_
  refine Plan_float 7 rfl rfl (by kernel_rfl) (OK_gf (t := 42) rfl rfl (fun q => EX_s (PS_move rfl))) ?_
  refine Plan_float 8 rfl rfl (by kernel_rfl) (OK_gf (t := 42) rfl rfl (fun q => EX_s (PS_fieldAddr fa34_2 rfl))) ?_
  refine Plan_float 9 rfl rfl (by kernel_rfl) (OK_gf (t := 42) rfl rfl (fun q => by have q1 := q; (try simp at q1); exact EX_s (PS_indexAddr ia32 (cvE rfl (by rw [q]; rfl)) (cvE rfl (by rw [q]; rfl)) (by first | omega | (dsimp only; omega) | (have := tmod3 (d.tmod 3 + 3 + k); omega)) (by first | omega | (dsimp only; omega) | (have := tmod3 (d.tmod 3 + 3 + k); omega))))) ?_
  refine Plan_float 10 rfl rfl (by kernel_rfl) (OK_gf (t := 42) rfl rfl (fun q => EX_s (PS_fieldAddr fa31_3 (cvE rfl (by rw [q]; rfl))))) ?_
  refine Plan_float 11 rfl rfl (by kernel_rfl) (OK_gf (t := 42) rfl rfl (fun q => by have q1 := q; (try simp at q1); exact EX_s (PS_load (cvE rfl (by rw [q]; rfl)) tys3 (.tail _ (.tail _ (.head _))) ((Land.l2.comp (Lens.arr (n := 6) Being.fl (by first | omega | (dsimp only; omega) | (have := tmod3 (d.tmod 3 + 3 + k); omega)) (by first | omega | (dsimp only; omega) | (have := tmod3 (d.tmod 3 + 3 + k); omega)))).comp Being.l3) rfl rfl))) ?_
  refine Plan_float 12 rfl rfl (by kernel_rfl) (OK_gf (t := 42) rfl rfl (fun q => EX_s (PS_fieldAddr fa31_3 rfl))) ?_
  refine Plan_float 13 rfl rfl (by kernel_rfl) (OK_gf (t := 42) rfl rfl (fun q => EX_s (PS_load (cvE rfl (by rw [q]; rfl)) tys3 (.head _) Being.l3 rfl rfl))) ?_
  refine Plan_float 14 rfl rfl (by kernel_rfl) (OK_gf (t := 42) rfl rfl (fun q => EX_s (PS_neq (cvE rfl (by rw [q]; rfl)) (cvE rfl (by rw [q]; rfl))))) ?_
  refine Plan_float 15 rfl rfl (by kernel_rfl) (OK_s (EX_s (PS_or rfl rfl (fun h => by rw [h]; rfl)))) ?_
  refine Plan_end (by kernel_rfl) ?_
  refine GQ_sub (.cons (k := 1) rfl (.cons (k := 2) rfl (.cons (k := 4) rfl (.cons (k := 7) rfl (.cons (k := 8) rfl (.cons (k := 10) rfl (.cons (k := 18) rfl (.cons (k := 51) rfl (.nil _))))))))) ?_
  refine GQ_then ?_
  refine G_cond rfl (fun c4 => ?_) (fun c4 => ?_)
  ·
   have c4p := kz c4
   refine G_seq ?_
   refine G_region ?_
   refine GL_step rfl (PS_move rfl) ?_
   refine GL_step rfl (PS_fieldAddr fa34_2 rfl) ?_
   refine GL_step rfl (PS_indexAddr ia32 rfl rfl (by first | omega | (dsimp only; omega) | (have := tmod3 (d.tmod 3 + 3 + k); omega)) (by first | omega | (dsimp only; omega) | (have := tmod3 (d.tmod 3 + 3 + k); omega))) ?_
   refine GL_step rfl (PS_fieldAddr fa31_5 rfl) ?_
   refine GL_unit (PU_store ((Land.l2.comp (Lens.arr (n := 6) Being.fl (by first | omega | (dsimp only; omega) | (have := tmod3 (d.tmod 3 + 3 + k); omega)) (by first | omega | (dsimp only; omega) | (have := tmod3 (d.tmod 3 + 3 + k); omega)))).comp Being.l5) rfl rfl rfl sz3 rfl (.tail (.tail .head))) ?_
   refine GL_nil ?_
   refine GQ_sub (.cons (k := 1) rfl (.cons (k := 2) rfl (.cons (k := 4) rfl (.cons (k := 7) rfl (.cons (k := 18) rfl (.nil _)))))) ?_
   refine GQ_then ?_
   refine G_exit ?_
   refine GQ_then_exit ?_
   refine GQ_block_exit ?_
   refine GQ_then ?_
   refine G_region ?_
   refine GL_step rfl (PS_add rfl rfl (IntWalk.i64_in _ (by first | omega | (dsimp only; omega) | (have := tmod3 (d.tmod 3 + 3 + k); omega)))) ?_
   refine GL_step rfl (PS_move rfl) ?_
   refine GL_nil ?_
   refine GQ_sub (.cons (k := 1) rfl (.cons (k := 2) rfl (.cons (k := 4) rfl (.cons (k := 7) rfl (.cons (k := 18) rfl (.nil _)))))) ?_
   refine GQ_next3_ (k + 1) ((s.1.putB k { s.1.beings.at k with foe := 0 }, s.2)) _ ?_ ?_ (.cons (k := 7) rfl (.cons (k := 18) rfl (.cons (k := 1) rfl (.cons (k := 2) rfl (.cons (k := 4) rfl (.nil _)))))) (.cons _ (.refl _))
   · have hrs : Turn.roundS d k s = _ := ((if_f c3).trans (if_t c4))
     have hrg := Turn.roundS_good (draw := d) hI14 hI15 hI11 (by omega)
     rw [hrs] at hrg
     exact ⟨by omega, by omega, by rw [Turn.roundK_step hI11, ← hI13, hrs], hrg.1, hrg.2.1, (by have := hrg.2.2; omega), (by first | assumption | (have hso : (Turn.struck s.1 k ((s.1.beings.at k).foe - 1) (Turn.hit d k)).out.length = 1 := rfl; (try dsimp only at *); simp only [List.length_append] at *; omega))⟩
   · omega
  have c4p := kz c4
  have hsf := Turn.struck_fit (b := k) (n := Turn.hit d k) hI14 hI15 (foe := ((s.1.beings.at k).foe - 1)) hf0.1 hf0.2 c4p.1
  have hht := Turn.hit_rng (draw := d) hI11
  refine G_skip ?_
  refine GQ_sub (.cons (k := 1) rfl (.cons (k := 2) rfl (.cons (k := 4) rfl (.cons (k := 7) rfl (.cons (k := 8) rfl (.cons (k := 10) rfl (.cons (k := 18) rfl (.nil _)))))))) ?_
  refine GQ_then ?_
  refine G_seq ?_
  refine G_region ?_
  refine GL_step rfl (PS_move rfl) ?_
  refine GL_step rfl (PS_rem rfl rfl (by first | omega | (dsimp only; omega) | (have := tmod3 (d.tmod 3 + 3 + k); omega))) ?_
  refine GL_step rfl (PS_add rfl rfl (IntWalk.i64_in _ (by first | omega | (dsimp only; omega) | (have := tmod3 (d.tmod 3 + 3 + k); omega)))) ?_
  refine GL_step rfl (PS_move rfl) ?_
  refine GL_step rfl (PS_add rfl rfl (IntWalk.i64_in _ (by first | omega | (dsimp only; omega) | (have := tmod3 (d.tmod 3 + 3 + k); omega)))) ?_
  refine GL_step rfl (PS_rem rfl rfl (by first | omega | (dsimp only; omega) | (have := tmod3 (d.tmod 3 + 3 + k); omega))) ?_
  refine GL_step rfl (PS_add rfl rfl (IntWalk.i64_in _ (by first | omega | (dsimp only; omega) | (have := tmod3 (d.tmod 3 + 3 + k); omega)))) ?_
  refine GL_step rfl (PS_assign rfl) ?_
  refine GL_nil ?_
  refine GQ_sub (.cons (k := 1) rfl (.cons (k := 2) rfl (.cons (k := 4) rfl (.cons (k := 7) rfl (.cons (k := 8) rfl (.cons (k := 10) rfl (.cons (k := 11) rfl (.cons (k := 18) rfl (.nil _))))))))) ?_
  refine GQ_then ?_
  refine G_seq ?_
  refine G_region ?_
  refine GL_step rfl (PS_loadA rfl tya34 (.tail _ (.tail _ (.head _))) (Lens.id Land.fl.len Land.fl.one) rfl) ?_
  refine GL_step rfl (PS_move rfl) ?_
  refine GL_step rfl (PS_build pl53 zv53 rfl (.cons TurnV.l0 rfl rfl rfl (.cons TurnV.l1 rfl rfl rfl .nil))) ?_
  refine GL_box rfl rfl rfl (fun b4 => ?_)
  refine GL_step rfl (PS_assign rfl) ?_
  refine GL_nil ?_
  refine GQ_sub (.cons (k := 1) rfl (.cons (k := 2) rfl (.cons (k := 4) rfl (.cons (k := 7) rfl (.cons (k := 10) rfl (.cons (k := 11) rfl (.cons (k := 12) rfl (.cons (k := 18) rfl (.nil _))))))))) ?_
  refine GQ_then ?_
  refine G_seq ?_
  refine G_region ?_
  refine GL_step rfl (PS_move rfl) ?_
  refine GL_step rfl (PS_move rfl) ?_
  refine GL_step rfl (PS_move rfl) ?_
  refine GL_step rfl (PS_build pl60 zv60 rfl (.cons Ing.Event.l0 rfl rfl rfl (.cons Ing.Event.l3 rfl rfl rfl (.cons Ing.Event.l5 rfl rfl rfl .nil)))) ?_
  refine GL_nilF Ing.Event.enc 60 16 ?_
  refine GL_callL rfl cf23 (.cons rfl (.cons rfl .nil)) (.cons (.tail .head) (.cons .head .nil)) (rules_turn_happens_spec _ ⟨s.1, k, []⟩ _ { Turn.evk 14 with other := ((s.1.beings.at k).foe - 1), n := Turn.hit d k } rfl (show 0 ≤ k ∧ k < 6 by omega) (show ((s.1.beings.at k).foe - 1) < 6 by omega) (Nat.zero_le _)) (fun v3 B hv => ?_)
  obtain ⟨y4, rfl, y5, rfl⟩ := hv
  refine GL_nil ?_
  refine GQ_sub (.cons (k := 1) rfl (.cons (k := 2) rfl (.cons (k := 4) rfl (.cons (k := 7) rfl (.cons (k := 10) rfl (.cons (k := 11) rfl (.cons (k := 12) rfl (.cons (k := 18) rfl (.nil _))))))))) ?_
  refine GQ_then ?_
  refine G_seq ?_
  refine G_planN (N := 16) [0, 0, 0, 0, 12, 28, 60, 0, 252, 508, 1, 1025, 3073, 8191, 16383, 32767] mix (by kernel_rfl) rfl ?_
  refine Plan_float 0 rfl rfl (by kernel_rfl) (OK_s (EX_s (PS_move rfl))) ?_
  refine Plan_float 1 rfl rfl (by kernel_rfl) (OK_s (EX_s (PS_move rfl))) ?_
  refine Plan_float 2 rfl rfl (by kernel_rfl) (OK_s (EX_s (PS_move rfl))) ?_
  refine Plan_float 3 rfl rfl (by kernel_rfl) (OK_s (EX_s (PS_fieldAddr fa34_2 rfl))) ?_
  refine Plan_float 4 rfl rfl (by kernel_rfl) (OK_s (EX_s (PS_indexAddr ia32 rfl rfl (by first | omega | (dsimp only; omega) | (have := tmod3 (d.tmod 3 + 3 + k); omega)) (by first | omega | (dsimp only; omega) | (have := tmod3 (d.tmod 3 + 3 + k); omega))))) ?_
  refine Plan_float 5 rfl rfl (by kernel_rfl) (OK_s (EX_s (PS_fieldAddr fa31_4 rfl))) ?_
  refine Plan_float 6 rfl rfl (by kernel_rfl) (OK_s (EX_s (PS_load rfl tys3 (.tail _ (.tail _ (.tail _ (.tail _ (.head _))))) ((Land.l2.comp (Lens.arr (n := 6) Being.fl (by first | omega | (dsimp only; omega) | (have := tmod3 (d.tmod 3 + 3 + k); omega)) (by first | omega | (dsimp only; omega) | (have := tmod3 (d.tmod 3 + 3 + k); omega)))).comp Being.l4) rfl rfl))) ?_
  refine Plan_float 7 rfl rfl (by kernel_rfl) (OK_s (EX_s (PS_move rfl))) ?_
  refine Plan_float 8 rfl rfl (by kernel_rfl) (OK_s (EX_s (PS_sub rfl rfl (IntWalk.i64_in _ (by first | omega | (dsimp only; omega) | (have := tmod3 (d.tmod 3 + 3 + k); omega)))))) ?_
  refine Plan_float 9 rfl rfl (by kernel_rfl) (OK_s (EX_s (PS_max2 rfl rfl))) ?_
  refine Plan_float 10 rfl rfl (by kernel_rfl) (OK_s (EX_s (PS_nilCheck rfl))) ?_
  refine Plan_float 11 rfl rfl (by kernel_rfl) (OK_s (EX_s (PS_fieldAddr fa53_0 rfl))) ?_
  refine Plan_float 12 rfl rfl (by kernel_rfl) (OK_s (EX_s (PS_fieldAddr fa34_2 rfl))) ?_
  refine Plan_float 13 rfl rfl (by kernel_rfl) (OK_s (EX_s (PS_indexAddr ia32 rfl rfl (by first | omega | (dsimp only; omega) | (have := tmod3 (d.tmod 3 + 3 + k); omega)) (by first | omega | (dsimp only; omega) | (have := tmod3 (d.tmod 3 + 3 + k); omega))))) ?_
  refine Plan_float 14 rfl rfl (by kernel_rfl) (OK_s (EX_s (PS_fieldAddr fa31_4 rfl))) ?_
  refine Plan_chain 15 rfl (by kernel_rfl) ?_
  refine GL_unit (PU_store (((TurnV.l0.comp Land.l2).comp (Lens.arr (n := 6) Being.fl (by first | omega | (dsimp only; omega) | (have := tmod3 (d.tmod 3 + 3 + k); omega)) (by first | omega | (dsimp only; omega) | (have := tmod3 (d.tmod 3 + 3 + k); omega)))).comp Being.l4) rfl rfl rfl sz3 rfl .head) ?_
  refine GL_hand0 rfl ⟨?_, ?_⟩
  · exact (Pend_skip (by kernel_rfl) (Pend_skip (by kernel_rfl) (Pend_skip (by kernel_rfl) (Pend_skip (by kernel_rfl) (Pend_skip (by kernel_rfl) (Pend_skip (by kernel_rfl) (Pend_skip (by kernel_rfl) (Pend_skip (by kernel_rfl) (Pend_skip (by kernel_rfl) (Pend_skip (by kernel_rfl) (Pend_skip (by kernel_rfl) (Pend_skip (by kernel_rfl) (Pend_skip (by kernel_rfl) (Pend_skip (by kernel_rfl) (Pend_skip (by kernel_rfl) Pend_nil)))))))))))))))
  refine Plan_end (by kernel_rfl) ?_
  refine GQ_sub (.cons (k := 1) rfl (.cons (k := 2) rfl (.cons (k := 4) rfl (.cons (k := 7) rfl (.cons (k := 10) rfl (.cons (k := 12) rfl (.cons (k := 18) rfl (.nil _)))))))) ?_
  refine GQ_then ?_
  refine G_seq ?_
  have hl1 : y4.len = 1 := y5
  refine G_region ?_
  refine GL_step rfl (PS_move rfl) ?_
  refine GL_step rfl (PS_move rfl) ?_
  refine GL_step rfl (PS_nilCheck rfl) ?_
  refine GL_step rfl (PS_fieldAddr fa53_2 rfl) ?_
  refine GL_step rfl (PS_load rfl tys35 (.head _) TurnV.l2 rfl rfl) ?_
  refine GL_appendF Ing.Event.fl rfl Tryz.underlying35 sz60 zv60 rfl by60 (by decide) (by decide) rfl rfl (fun w hS => Src.sliceT Tryz.underlying35 ((Kn.own (.tail _ (.head _))) w hS)) (by (try dsimp only at *); omega) (fun _ => (.tail (.tail (.tail .head)))) (fun h6 h6l h6z => ?_)
  refine GL_step rfl (PS_assign rfl) ?_
  refine GL_nil ?_
  refine GQ_sub (.cons (k := 1) rfl (.cons (k := 2) rfl (.cons (k := 4) rfl (.cons (k := 7) rfl (.cons (k := 10) rfl (.cons (k := 12) rfl (.cons (k := 18) rfl (.nil _)))))))) ?_
  refine GQ_then ?_
  refine G_seq ?_
  refine G_region ?_
  refine GL_step rfl (PS_move rfl) ?_
  refine GL_step rfl (PS_nilCheck rfl) ?_
  refine GL_step rfl (PS_fieldAddr fa53_0 rfl) ?_
  refine GL_step rfl (PS_loadA rfl tya34 (.head _) TurnV.l0 rfl) ?_
  refine GL_unit (PU_store (Lens.id Land.fl.len Land.fl.one) rfl rfl rfl sz34 rfl (.tail (.tail (.tail (.tail .head))))) ?_
  refine GL_nil ?_
  refine GQ_sub (.cons (k := 1) rfl (.cons (k := 2) rfl (.cons (k := 4) rfl (.cons (k := 7) rfl (.cons (k := 10) rfl (.cons (k := 18) rfl (.nil _))))))) ?_
  refine GQ_then ?_
  refine G_seq ?_
  refine G_region ?_
  refine GL_step rfl (PS_move rfl) ?_
  refine GL_step rfl (PS_fieldAddr fa34_2 rfl) ?_
  refine GL_step rfl (PS_indexAddr ia32 rfl rfl (by first | omega | (dsimp only; omega) | (have := tmod3 (d.tmod 3 + 3 + k); omega)) (by first | omega | (dsimp only; omega) | (have := tmod3 (d.tmod 3 + 3 + k); omega))) ?_
  refine GL_step rfl (PS_fieldAddr fa31_4 rfl) ?_
  refine GL_step rfl (PS_load rfl tys3 (.tail _ (.tail _ (.tail _ (.tail _ (.head _))))) ((Land.l2.comp (Lens.arr (n := 6) Being.fl (by first | omega | (dsimp only; omega) | (have := tmod3 (d.tmod 3 + 3 + k); omega)) (by first | omega | (dsimp only; omega) | (have := tmod3 (d.tmod 3 + 3 + k); omega)))).comp Being.l4) rfl rfl) ?_
  refine GL_step rfl (PS_eql rfl rfl) ?_
  refine GL_nil ?_
  refine GQ_sub (.cons (k := 1) rfl (.cons (k := 2) rfl (.cons (k := 4) rfl (.cons (k := 7) rfl (.cons (k := 10) rfl (.cons (k := 18) rfl (.cons (k := 102) rfl (.nil _)))))))) ?_
  refine GQ_then ?_
  refine G_cond rfl (fun c5 => ?_) (fun c5 => ?_)
  ·
   have c5p := kz c5
   refine G_seq ?_
   refine G_region ?_
   refine GL_step rfl (PS_assign rfl) ?_
   refine GL_nil ?_
   refine GQ_sub (.cons (k := 1) rfl (.cons (k := 2) rfl (.cons (k := 4) rfl (.cons (k := 7) rfl (.cons (k := 10) rfl (.cons (k := 18) rfl (.nil _))))))) ?_
   refine GQ_then ?_
   refine G_seq ?_
   refine G_region ?_
   refine GL_step rfl (PS_loadA rfl tya34 (.tail _ (.tail _ (.tail _ (.tail _ (.head _))))) (Lens.id Land.fl.len Land.fl.one) rfl) ?_
   refine GL_step rfl (PS_move rfl) ?_
   refine GL_callR rfl cf24 (.cons rfl (.cons rfl .nil)) .nil (rules_die_spec (Turn.struck s.1 k ((s.1.beings.at k).foe - 1) (Turn.hit d k)).w ((s.1.beings.at k).foe - 1) hsf) (fun w hS => gl0.pull gm0 hS .nil) (fun v7 B hv => ?_)
   obtain ⟨y8, rfl, y9, rfl⟩ := hv
   refine GL_step rfl (PS_move rfl) ?_
   refine GL_step rfl (PS_extract rfl rfl) ?_
   refine GL_step rfl (PS_extract rfl rfl) ?_
   refine GL_unit (PU_store (Lens.id Land.fl.len Land.fl.one) rfl rfl rfl sz34 rfl (.tail (.tail (.tail (.tail (.tail .head)))))) ?_
   refine GL_step rfl (PS_assign rfl) ?_
   refine GL_nil ?_
   refine GQ_sub (.cons (k := 1) rfl (.cons (k := 2) rfl (.cons (k := 4) rfl (.cons (k := 7) rfl (.cons (k := 13) rfl (.cons (k := 18) rfl (.nil _))))))) ?_
   refine GQ_then ?_
   have hl2 : y8.len ≤ 12 := by rw [y9]; exact (Turn.dieT_good hsf).2.2
   refine G_region ?_
   refine GL_step rfl (PS_move rfl) ?_
   refine GL_step rfl (PS_move rfl) ?_
   refine GL_appendF Ing.Event.fl rfl Tryz.underlying35 sz60 zv60 rfl by60 (by decide) (by decide) rfl rfl (fun w hS => Src.sliceT Tryz.underlying35 ((Kn.own (.head _)) w hS)) (by (try dsimp only at *); omega) (fun _ => (.tail (.tail (.tail (.tail .head))))) (fun h11 h11l h11z => ?_)
   refine GL_step rfl (PS_assign rfl) ?_
   refine GL_nil ?_
   refine GQ_sub (.cons (k := 1) rfl (.cons (k := 2) rfl (.cons (k := 4) rfl (.cons (k := 7) rfl (.cons (k := 18) rfl (.nil _)))))) ?_
   refine GQ_block ?_
   refine GQ_then ?_
   refine G_region ?_
   refine GL_step rfl (PS_add rfl rfl (IntWalk.i64_in _ (by first | omega | (dsimp only; omega) | (have := tmod3 (d.tmod 3 + 3 + k); omega)))) ?_
   refine GL_step rfl (PS_move rfl) ?_
   refine GL_nil ?_
   refine GQ_sub (.cons (k := 1) rfl (.cons (k := 2) rfl (.cons (k := 4) rfl (.cons (k := 7) rfl (.cons (k := 18) rfl (.nil _)))))) ?_
   refine GQ_next3_ (k + 1) (((Turn.dieT (Turn.struck s.1 k ((s.1.beings.at k).foe - 1) (Turn.hit d k)).w ((s.1.beings.at k).foe - 1)).w, (s.2 ++ (Turn.struck s.1 k ((s.1.beings.at k).foe - 1) (Turn.hit d k)).out) ++ (Turn.dieT (Turn.struck s.1 k ((s.1.beings.at k).foe - 1) (Turn.hit d k)).w ((s.1.beings.at k).foe - 1)).out)) _ ?_ ?_ (.cons (k := 7) rfl (.cons (k := 18) rfl (.cons (k := 1) rfl (.cons (k := 2) rfl (.cons (k := 4) rfl (.nil _)))))) (.cons _ (.cons _ (.cons _ (.cons _ (.refl _)))))
   · have hrs : Turn.roundS d k s = _ := ((if_f c3).trans ((if_f c4).trans (if_t c5)))
     have hrg := Turn.roundS_good (draw := d) hI14 hI15 hI11 (by omega)
     rw [hrs] at hrg
     exact ⟨by omega, by omega, by rw [Turn.roundK_step hI11, ← hI13, hrs], hrg.1, hrg.2.1, (by have := hrg.2.2; omega), (by first | assumption | (have hso : (Turn.struck s.1 k ((s.1.beings.at k).foe - 1) (Turn.hit d k)).out.length = 1 := rfl; (try dsimp only at *); simp only [List.length_append] at *; omega))⟩
   · omega
  have c5p := kz c5
  refine G_skip ?_
  refine GQ_sub (.cons (k := 1) rfl (.cons (k := 2) rfl (.cons (k := 4) rfl (.cons (k := 7) rfl (.cons (k := 18) rfl (.nil _)))))) ?_
  refine GQ_block ?_
  refine GQ_then ?_
  refine G_region ?_
  refine GL_step rfl (PS_add rfl rfl (IntWalk.i64_in _ (by first | omega | (dsimp only; omega) | (have := tmod3 (d.tmod 3 + 3 + k); omega)))) ?_
  refine GL_step rfl (PS_move rfl) ?_
  refine GL_nil ?_
  refine GQ_sub (.cons (k := 1) rfl (.cons (k := 2) rfl (.cons (k := 4) rfl (.cons (k := 7) rfl (.cons (k := 18) rfl (.nil _)))))) ?_
  refine GQ_next3_ (k + 1) (((Turn.struck s.1 k ((s.1.beings.at k).foe - 1) (Turn.hit d k)).w, s.2 ++ (Turn.struck s.1 k ((s.1.beings.at k).foe - 1) (Turn.hit d k)).out)) _ ?_ ?_ (.cons (k := 7) rfl (.cons (k := 18) rfl (.cons (k := 1) rfl (.cons (k := 2) rfl (.cons (k := 4) rfl (.nil _)))))) (.cons _ (.cons _ (.cons _ (.refl _))))
  · have hrs : Turn.roundS d k s = _ := ((if_f c3).trans ((if_f c4).trans (if_f c5)))
    have hrg := Turn.roundS_good (draw := d) hI14 hI15 hI11 (by omega)
    rw [hrs] at hrg
    exact ⟨by omega, by omega, by rw [Turn.roundK_step hI11, ← hI13, hrs], hrg.1, hrg.2.1, (by have := hrg.2.2; omega), (by first | assumption | (have hso : (Turn.struck s.1 k ((s.1.beings.at k).foe - 1) (Turn.hit d k)).out.length = 1 := rfl; (try dsimp only at *); simp only [List.length_append] at *; omega))⟩
  · omega
 have c2p := kz c2
 obtain rfl : k = 6 := by omega
 refine G_exit ?_
 refine GQ_then_exit ?_
 refine GQ_then_exit ?_
 refine GQ_block_exit ?_
 refine GQ_sub (.cons (k := 2) rfl (.cons (k := 4) rfl (.cons (k := 7) rfl (.nil _)))) ?_
 refine GQ_then ?_
 refine G_seq ?_
 refine G_region ?_
 refine GL_step rfl (PS_loadA rfl tya34 (.tail _ (.head _)) (Lens.id Land.fl.len Land.fl.one) rfl) ?_
 refine GL_step rfl (PS_move rfl) ?_
 refine GL_unit (PU_store (Lens.id Land.fl.len Land.fl.one) rfl rfl rfl sz34 rfl (.tail (.tail .head))) ?_
 refine GL_step rfl (PS_assign rfl) ?_
 refine GL_step rfl (PS_assign rfl) ?_
 refine GL_nil ?_
 refine GQ_sub (.cons (k := 4) rfl (.cons (k := 5) rfl (.cons (k := 6) rfl (.nil _)))) ?_
 refine GQ_then ?_
 refine G_ret ?_
 refine GQ_ret rfl (.cell rfl (.tail _ (.tail _ (.head _))) (.inl ⟨(by rw [Land.fl.len]; exact tya34), rfl⟩) (.tmp rfl (.tmp rfl .nil))) ?_
 intro w1 hS
 have hS := (hS.perm (Pulls.perm (.cons .head .nil))).headL
 have hq : Turn.roundR X d = ((Turn.roundK X d 6).1, (Turn.roundK X d 6).2, 0) := if_f c1
 have hs6 : s = Turn.roundK X d 6 := hI13
 rw [← hs6] at hq
 refine ⟨_, ⟨h, ?hv, ?hl, ?hB⟩, hS⟩
 case hv => rw [hq]; (try rfl)
 case hl => rw [hq]; exact hI17
 case hB => rw [hq]; (try rfl)
theorem ref_root_spec (X : Land) (i : Int) (w : World) : Ret Tryz.prog 48 #[.agg X.enc.toArray, .int .i64 i] w fun v w' => v = .tuple #[.int .i64 (Land.root X i).1, .int .i64 (Land.root X i).2.1, .bool (Land.root X i).2.2.1, .bool (Land.root X i).2.2.2] ∧ Keep w w' := by
 refine Ret_body [] [] Tryz.func48 rfl rfl rfl (St.start w []) ?_
 refine G_seq ?_
 refine G_region ?_
 refine GL_box rfl rfl rfl (fun b1 => ?_)
 refine GL_step rfl (PS_assign rfl) ?_
 refine GL_step rfl (PS_assign rfl) ?_
 refine GL_step rfl (PS_assign rfl) ?_
 refine GL_step rfl (PS_assign rfl) ?_
 refine GL_nil ?_
 refine GQ_sub (.cons (k := 1) rfl (.cons (k := 2) rfl (.nil _))) ?_
 refine GQ_then ?_
 refine G_seq ?_
 refine G_region ?_
 refine GL_step rfl (PS_assign rfl) ?_
 refine GL_nil ?_
 refine GQ_then ?_
 refine G_seq ?_
 refine G_region ?_
 refine GL_makeMap rfl (fun b2 => ?_)
 refine GL_step rfl (PS_assign rfl) ?_
 refine GL_nil ?_
 refine GQ_sub (.cons (k := 1) rfl (.cons (k := 2) rfl (.cons (k := 6) rfl (.cons (k := 8) rfl (.nil _))))) ?_
 refine GQ_then ?_
 refine G_seq ?_
 refine G_block ?_
 refine G_subF (.cons (k := 1) rfl (.cons (k := 6) rfl (.cons (k := 2) rfl (.cons (k := 8) rfl (.nil _))))) ?_
 refine G_loop3_ (fun (j : Int) (o : Bool) (s : List Int) => Land.root X i = X.rootF (10 - s.length) j o ∧ X.SeenI s j) (fun (j : Int) (o : Bool) (s : List Int) => leftN s) (fun (j : Int) (o : Bool) (s : List Int) => [(1, .int .i64 j), (6, .bool o)]) (fun (j : Int) (o : Bool) (s : List Int) => [Res.imap b2 (kvOf s)]) (i) (true) ([]) ?_ rfl rfl (fun j o s hI1 => ?_)
 · exact ⟨rfl, Land.SeenI.start X i⟩
 obtain ⟨hI11, hI12⟩ := hI1
 refine G_seq ?_
 refine G_seq ?_
 refine G_region ?_
 refine GL_step rfl (PS_move rfl) ?_
 refine GL_step rfl (PS_geq rfl rfl) ?_
 refine GL_step rfl (PS_move rfl) ?_
 refine GL_gt (t := 13) rfl rfl rfl (fun q => PS_move rfl) ?_
 refine GL_gt (t := 13) rfl rfl rfl (fun q => PS_lss (cvE rfl q) rfl) ?_
 refine GL_step rfl (PS_and rfl rfl (fun h => h)) ?_
 refine GL_step rfl (PS_move rfl) ?_
 refine GL_gt (t := 17) rfl rfl rfl (fun q => PS_move rfl) ?_
 refine GL_gt (t := 17) rfl rfl rfl (fun q => PS_move rfl) ?_
 refine GL_gt (t := 17) rfl rfl rfl (fun q => PS_conv (PS_lookup1 Tryz.underlying95 Tryz.underlying3 zv4 (cvE rfl q) (cvE rfl q) (.head _)) (seen_eq _ _)) ?_
 refine GL_gt (t := 17) rfl rfl rfl (fun q => PS_not (cvE rfl q)) ?_
 refine GL_step rfl (PS_and rfl rfl (fun h => h)) ?_
 refine GL_nil ?_
 refine GQ_sub (.cons (k := 1) rfl (.cons (k := 2) rfl (.cons (k := 6) rfl (.cons (k := 8) rfl (.cons (k := 22) rfl (.nil _)))))) ?_
 refine GQ_then ?_
 refine G_cond rfl (fun c1 => ?_) (fun c1 => ?_)
 ·
  have c1p := kz c1
  try dsimp only at c1p
  have hr : 0 ≤ j ∧ j < 9 ∧ j ∉ s := by simp at c1; exact ⟨c1.1.1, c1.1.2, c1.2⟩
  obtain ⟨hj0, hj9, hns⟩ := hr
  refine G_skip ?_
  refine GQ_sub (.cons (k := 1) rfl (.cons (k := 2) rfl (.cons (k := 6) rfl (.cons (k := 8) rfl (.nil _))))) ?_
  refine GQ_then ?_
  refine G_block ?_
  refine G_seq ?_
  refine G_region ?_
  refine GL_step rfl (PS_move rfl) ?_
  refine GL_step rfl (PS_move rfl) ?_
  refine GL_unit (PU_mapSet Tryz.underlying95 Tryz.underlying3 rfl rfl rfl (seen_none hns) .head).1 ?_
  refine GL_nil ?_
  refine GQ_sub (.cons (k := 1) rfl (.cons (k := 2) rfl (.cons (k := 6) rfl (.cons (k := 8) rfl (.nil _))))) ?_
  refine GQ_then ?_
  refine G_seq ?_
  refine G_region ?_
  refine GL_step rfl (PS_move rfl) ?_
  refine GL_step rfl (PS_fieldAddr fa34_1 rfl) ?_
  refine GL_step rfl (PS_indexAddr ia29 rfl rfl (by omega) (by omega)) ?_
  refine GL_step rfl (PS_loadA rfl tya28 (.tail _ (.head _)) (Land.l1.comp (Lens.arr (n := 9) Thing.fl (by omega) (by omega))) rfl) ?_
  refine GL_alloc rfl zv28 rfl (fun b3 => ?_)
  refine GL_unit (PU_store (Lens.id Thing.fl.len Thing.fl.one) rfl rfl rfl sz28 rfl .head) ?_
  refine GL_nil ?_
  refine GQ_sub (.cons (k := 2) rfl (.cons (k := 6) rfl (.cons (k := 8) rfl (.cons (k := 9) rfl (.nil _))))) ?_
  refine GQ_then ?_
  refine G_seq ?_
  refine G_seq ?_
  refine G_region ?_
  refine GL_step rfl (PS_fieldAddr fa28_2 rfl) ?_
  refine GL_step rfl (PS_load rfl tys3 (.head _) Thing.l2 rfl rfl) ?_
  refine GL_step rfl (PS_neq rfl rfl) ?_
  refine GL_nil ?_
  refine GQ_sub (.cons (k := 2) rfl (.cons (k := 6) rfl (.cons (k := 8) rfl (.cons (k := 9) rfl (.cons (k := 31) rfl (.nil _)))))) ?_
  refine GQ_then ?_
  refine G_cond rfl (fun c2 => ?_) (fun c2 => ?_)
  ·
   have c2p := kz c2
   try dsimp only at c2p
   refine G_seq ?_
   refine G_planN (N := 17) [0, 1, 0, 4, 0, 0, 32, 96, 224, 480, 992, 2016, 4064, 483, 8687, 25087, 65535] mix (by kernel_rfl) rfl ?_
   refine Plan_float 0 rfl rfl (by kernel_rfl) (OK_s (EX_s (PS_fieldAddr fa28_2 rfl))) ?_
   refine Plan_float 1 rfl rfl (by kernel_rfl) (OK_s (EX_s (PS_load rfl tys3 (.head _) Thing.l2 rfl rfl))) ?_
   refine Plan_float 2 rfl rfl (by kernel_rfl) (OK_s (EX_s (PS_fieldAddr fa28_3 rfl))) ?_
   refine Plan_float 3 rfl rfl (by kernel_rfl) (OK_s (EX_s (PS_load rfl tys3 (.head _) Thing.l3 rfl rfl))) ?_
   refine Plan_float 4 rfl rfl (by kernel_rfl) (OK_s (EX_s (PS_move rfl))) ?_
   refine Plan_float 5 rfl rfl (by kernel_rfl) (OK_s (EX_s (PS_fieldAddr fa28_2 rfl))) ?_
   refine Plan_float 6 rfl rfl (by kernel_rfl) (OK_s (EX_s (PS_load rfl tys3 (.head _) Thing.l2 rfl rfl))) ?_
   refine Plan_float 7 rfl rfl (by kernel_rfl) (OK_s (EX_s (PS_eql rfl rfl))) ?_
   refine Plan_float 8 rfl rfl (by kernel_rfl) (OK_s (EX_s (PS_move rfl))) ?_
   refine Plan_float 9 rfl rfl (by kernel_rfl) (OK_gf (t := 40) rfl rfl (fun q => EX_s (PS_fieldAddr fa28_2 rfl))) ?_
   refine Plan_float 10 rfl rfl (by kernel_rfl) (OK_gf (t := 40) rfl rfl (fun q => EX_s (PS_load (cvE rfl (by rw [q]; rfl)) tys3 (.head _) Thing.l2 rfl rfl))) ?_
   refine Plan_float 11 rfl rfl (by kernel_rfl) (OK_gf (t := 40) rfl rfl (fun q => EX_s (PS_eql (cvE rfl (by rw [q]; rfl)) rfl))) ?_
   refine Plan_float 12 rfl rfl (by kernel_rfl) (OK_s (EX_s (PS_or rfl rfl (fun h => by rw [h]; rfl)))) ?_
   refine Plan_float 13 rfl rfl (by kernel_rfl) (OK_s (EX_s (PS_assign rfl))) ?_
   refine Plan_float 14 rfl rfl (by kernel_rfl) (OK_s (EX_s (PS_assign rfl))) ?_
   refine Plan_float 15 rfl rfl (by kernel_rfl) (OK_s (EX_s (PS_assign rfl))) ?_
   refine Plan_float 16 rfl rfl (by kernel_rfl) (OK_s (EX_s (PS_assign rfl))) ?_
   refine Plan_end (by kernel_rfl) ?_
   refine GQ_sub (.cons (k := 4) rfl (.cons (k := 5) rfl (.cons (k := 6) rfl (.cons (k := 7) rfl (.nil _))))) ?_
   refine GQ_then ?_
   refine G_ret ?_
   refine GQ_then_ret ?_
   refine GQ_block_ret ?_
   refine GQ_then_ret ?_
   refine GQ_block_ret ?_
   refine GQ_then_ret ?_
   refine GQ_ret rfl (.tmp rfl (.tmp rfl (.tmp rfl (.tmp rfl .nil)))) ?_
   intro w1 hS; refine ⟨?_, hS.toKeep⟩; rw [hI11, hI12.out hj0 hj9 c2]; rfl
  have c2p := kz c2
  try dsimp only at c2p
  have hse := hI12.next hj0 hj9 hns (by simpa using c2)
  have hst := hI12.step (o := o) hse hj0 hj9 c2
  refine G_skip ?_
  refine GQ_sub (.cons (k := 2) rfl (.cons (k := 6) rfl (.cons (k := 8) rfl (.cons (k := 9) rfl (.nil _))))) ?_
  refine GQ_then ?_
  refine G_seq ?_
  refine G_region ?_
  refine GL_step rfl (PS_fieldAddr fa28_3 rfl) ?_
  refine GL_step rfl (PS_load rfl tys3 (.head _) Thing.l3 rfl rfl) ?_
  refine GL_step rfl (PS_assign rfl) ?_
  refine GL_nil ?_
  refine GQ_sub (.cons (k := 1) rfl (.cons (k := 2) rfl (.cons (k := 6) rfl (.cons (k := 8) rfl (.nil _))))) ?_
  refine GQ_then ?_
  refine G_seq ?_
  refine G_region ?_
  refine GL_step rfl (PS_move rfl) ?_
  refine GL_step rfl (PS_geq rfl rfl) ?_
  refine GL_step rfl (PS_move rfl) ?_
  refine GL_gt (t := 49) rfl rfl rfl (fun q => PS_move rfl) ?_
  refine GL_gt (t := 49) rfl rfl rfl (fun q => PS_lss (cvE rfl q) rfl) ?_
  refine GL_step rfl (PS_and rfl rfl (fun h => h)) ?_
  refine GL_nil ?_
  refine GQ_sub (.cons (k := 1) rfl (.cons (k := 2) rfl (.cons (k := 6) rfl (.cons (k := 8) rfl (.cons (k := 52) rfl (.nil _)))))) ?_
  refine GQ_then ?_
  refine G_cond rfl (fun c3 => ?_) (fun c3 => ?_)
  ·
   have c3p := kz c3
   try dsimp only at c3p
   have hjr : 0 ≤ (X.things.at j).at_ ∧ (X.things.at j).at_ < 9 := by simp at c3; omega
   refine G_region ?_
   refine GL_step rfl (PS_move rfl) ?_
   refine GL_step rfl (PS_move rfl) ?_
   refine GL_gt (t := 54) rfl rfl rfl (fun q => PS_move rfl) ?_
   refine GL_gt (t := 54) rfl rfl rfl (fun q => PS_fieldAddr fa34_1 rfl) ?_
   refine GL_gt (t := 54) rfl rfl rfl (fun q => by have q1 := q; (try simp at q1); exact PS_indexAddr ia29 (cvE rfl q) (cvE rfl q) (by omega) (by omega)) ?_
   refine GL_gt (t := 54) rfl rfl rfl (fun q => PS_fieldAddr fa28_4 (cvE rfl q)) ?_
   refine GL_gt (t := 54) rfl rfl rfl (fun q => by have q1 := q; (try simp at q1); exact PS_load (cvE rfl q) tys4 (.tail _ (.tail _ (.head _))) ((Land.l1.comp (Lens.arr (n := 9) Thing.fl (by omega) (by omega))).comp Thing.l4) rfl rfl) ?_
   refine GL_step rfl (PS_and rfl rfl (fun h => h)) ?_
   refine GL_step rfl (PS_assign rfl) ?_
   refine GL_nil ?_
   refine GQ_sub (.cons (k := 1) rfl (.cons (k := 2) rfl (.cons (k := 6) rfl (.cons (k := 8) rfl (.nil _))))) ?_
   refine GQ_block ?_
   refine GQ_next3_ _ _ (s ++ [j]) ?_ ?_ (.cons (k := 1) rfl (.cons (k := 6) rfl (.cons (k := 2) rfl (.cons (k := 8) rfl (.nil _))))) (by rw [kvOf_snoc]; exact (.cons _ (.refl _)))
   · exact ⟨by rw [hI11, hst, if_pos c3], hse⟩
   · have := leftN_snoc hns hj0 hj9; omega
  have c3p := kz c3
  try dsimp only at c3p
  refine G_skip ?_
  refine GQ_sub (.cons (k := 1) rfl (.cons (k := 2) rfl (.cons (k := 6) rfl (.cons (k := 8) rfl (.nil _))))) ?_
  refine GQ_block ?_
  refine GQ_next3_ _ _ (s ++ [j]) ?_ ?_ (.cons (k := 1) rfl (.cons (k := 6) rfl (.cons (k := 2) rfl (.cons (k := 8) rfl (.nil _))))) (by rw [kvOf_snoc]; exact (.cons _ (.refl _)))
  · exact ⟨by rw [hI11, hst, if_neg (by rw [c3]; decide)], hse⟩
  · have := leftN_snoc hns hj0 hj9; omega
 have c1p := kz c1
 try dsimp only at c1p
 refine G_exit ?_
 refine GQ_then_exit ?_
 refine GQ_then_exit ?_
 refine GQ_block_exit ?_
 refine GQ_sub (.nil _) ?_
 refine GQ_then ?_
 refine G_seq ?_
 refine G_region ?_
 refine GL_step rfl (PS_assign rfl) ?_
 refine GL_step rfl (PS_assign rfl) ?_
 refine GL_step rfl (PS_assign rfl) ?_
 refine GL_step rfl (PS_assign rfl) ?_
 refine GL_nil ?_
 refine GQ_then ?_
 refine G_ret ?_
 refine GQ_ret rfl (.tmp rfl (.tmp rfl (.tmp rfl (.tmp rfl .nil)))) ?_
 intro w1 hS; refine ⟨?_, hS.toKeep⟩; rw [hI11, hI12.ends c1]; rfl
theorem ref_GoodLand_spec (X : Land) (w : World) : Ret Tryz.prog 19 #[.agg X.enc.toArray] w fun v w' => v = .bool X.refGood ∧ Keep w w' := by
 refine Ret_body [] [] Tryz.func19 rfl rfl rfl (St.start w []) ?_
 refine G_seq ?_
 refine G_region ?_
 refine GL_box rfl rfl rfl (fun b1 => ?_)
 refine GL_step rfl (PS_assign rfl) ?_
 refine GL_nil ?_
 refine GQ_sub (.cons (k := 1) rfl (.nil _)) ?_
 refine GQ_then ?_
 refine G_seq ?_
 refine G_seq ?_
 refine G_region ?_
 refine GL_step rfl (PS_fieldAddr fa34_0 rfl) ?_
 refine GL_step rfl (PS_loadA rfl tya26 (.head _) Land.l0 rfl) ?_
 refine GL_step rfl (PS_move rfl) ?_
 refine GL_nil ?_
 refine GQ_sub (.cons (k := 1) rfl (.cons (k := 15) rfl (.cons (k := 16) rfl (.nil _)))) ?_
 refine GQ_then ?_
 refine G_block ?_
 refine G_subF (.cons (k := 16) rfl (.cons (k := 1) rfl (.cons (k := 15) rfl (.nil _)))) ?_
 refine G_loop1_ (fun (k : Int) => 0 ≤ k ∧ k ≤ 6 ∧ X.refGood = (allFrom 6 X.refRoom (6 - k).toNat && (allFrom 6 (fun k => !Land.refBadBeing (X.beings.at k)) 6 && allFrom 9 X.refThing 9))) (fun (k : Int) => (6 - k).toNat) (fun (k : Int) => [(16, .int .i64 k)]) (fun (k : Int) => []) (0) ?_ rfl rfl (fun k hI1 => ?_)
 · exact ⟨Int.le_refl _, by omega, rfl⟩
 obtain ⟨hI11, hI12, hI13⟩ := hI1
 refine G_seq ?_
 refine G_region ?_
 refine GL_step rfl (PS_lss rfl rfl) ?_
 refine GL_nil ?_
 refine GQ_then ?_
 refine G_seq ?_
 refine G_cond rfl (fun c1 => ?_) (fun c1 => ?_)
 ·
  have c1p := kz c1
  try dsimp only at c1p
  rw [allFrom_step _ (by omega)] at hI13
  refine G_skip ?_
  refine GQ_sub (.cons (k := 1) rfl (.cons (k := 15) rfl (.cons (k := 16) rfl (.nil _)))) ?_
  refine GQ_then ?_
  refine G_seq ?_
  refine G_block ?_
  refine G_seq ?_
  refine G_region ?_
  refine GL_step rfl (PS_indexAA Room.fl Tryz.underlying26 tya25 rfl rfl (by omega) (by omega)) ?_
  refine GL_alloc rfl zv25 rfl (fun b2 => ?_)
  refine GL_unit (PU_store (Lens.id Room.fl.len Room.fl.one) rfl rfl rfl sz25 rfl .head) ?_
  refine GL_nil ?_
  refine GQ_sub (.cons (k := 1) rfl (.cons (k := 4) rfl (.cons (k := 15) rfl (.cons (k := 16) rfl (.nil _))))) ?_
  refine GQ_then ?_
  refine G_seq ?_
  refine G_region ?_
  refine GL_step rfl (PS_move rfl) ?_
  refine GL_nil ?_
  refine GQ_then ?_
  refine G_block ?_
  refine G_subF (.cons (k := 19) rfl (.cons (k := 1) rfl (.cons (k := 4) rfl (.cons (k := 15) rfl (.cons (k := 16) rfl (.nil _)))))) ?_
  refine G_loop1_ (fun (d : Int) => 0 ≤ d ∧ d ≤ 6 ∧ X.refRoom k = allFrom 6 (fun d => !Land.refBadExit (X.rooms.at k) d) (6 - d).toNat) (fun (d : Int) => (6 - d).toNat) (fun (d : Int) => [(19, .int .i64 d)]) (fun (d : Int) => []) (0) ?_ rfl rfl (fun d hI2 => ?_)
  · exact ⟨Int.le_refl _, by omega, rfl⟩
  obtain ⟨hI21, hI22, hI23⟩ := hI2
  refine G_seq ?_
  refine G_region ?_
  refine GL_step rfl (PS_lss rfl rfl) ?_
  refine GL_nil ?_
  refine GQ_then ?_
  refine G_seq ?_
  refine G_cond rfl (fun c2 => ?_) (fun c2 => ?_)
  ·
   have c2p := kz c2
   try dsimp only at c2p
   rw [allFrom_step _ (by omega)] at hI23
   refine G_skip ?_
   refine GQ_sub (.cons (k := 1) rfl (.cons (k := 4) rfl (.cons (k := 15) rfl (.cons (k := 16) rfl (.cons (k := 19) rfl (.nil _)))))) ?_
   refine GQ_then ?_
   refine G_seq ?_
   refine G_block ?_
   refine G_seq ?_
   refine G_region ?_
   refine GL_step rfl (PS_move rfl) ?_
   refine GL_step rfl (PS_assign rfl) ?_
   refine GL_nil ?_
   refine GQ_sub (.cons (k := 1) rfl (.cons (k := 4) rfl (.cons (k := 5) rfl (.cons (k := 15) rfl (.cons (k := 16) rfl (.cons (k := 19) rfl (.nil _))))))) ?_
   refine GQ_then ?_
   refine G_seq ?_
   refine G_region ?_
   refine GL_step rfl (PS_move rfl) ?_
   refine GL_step rfl (PS_fieldAddr fa25_2 rfl) ?_
   refine GL_step rfl (PS_indexAddr ia22 rfl rfl (by omega) (by omega)) ?_
   refine GL_step rfl (PS_load rfl tys3 (.head _) (Room.l2.comp (Lens.arr (n := 6) flI (by omega) (by omega))) rfl rfl) ?_
   refine GL_step rfl (PS_lss rfl rfl) ?_
   refine GL_step rfl (PS_move rfl) ?_
   refine GL_gf (t := 27) rfl rfl rfl (fun q => PS_move rfl) ?_
   refine GL_gf (t := 27) rfl rfl rfl (fun q => PS_fieldAddr fa25_2 rfl) ?_
   refine GL_gf (t := 27) rfl rfl rfl (fun q => by have q1 := q; (try simp at q1); exact PS_indexAddr ia22 (cvE rfl (by rw [q]; rfl)) (cvE rfl (by rw [q]; rfl)) (by omega) (by omega)) ?_
   refine GL_gf (t := 27) rfl rfl rfl (fun q => by have q1 := q; (try simp at q1); exact PS_load (cvE rfl (by rw [q]; rfl)) tys3 (.head _) (Room.l2.comp (Lens.arr (n := 6) flI (by omega) (by omega))) rfl rfl) ?_
   refine GL_gf (t := 27) rfl rfl rfl (fun q => PS_gtr (cvE rfl (by rw [q]; rfl)) rfl) ?_
   refine GL_step rfl (PS_or rfl rfl (fun h => by rw [h]; rfl)) ?_
   refine GL_step rfl (PS_move rfl) ?_
   refine GL_gf (t := 34) rfl rfl rfl (fun q => PS_move rfl) ?_
   refine GL_gf (t := 34) rfl rfl rfl (fun q => PS_fieldAddr fa25_3 rfl) ?_
   refine GL_gf (t := 34) rfl rfl rfl (fun q => by have q1 := q; (try simp at q1); exact PS_indexAddr ia23 (cvE rfl (by rw [q]; rfl)) (cvE rfl (by rw [q]; rfl)) (by omega) (by omega)) ?_
   refine GL_gf (t := 34) rfl rfl rfl (fun q => by have q1 := q; (try simp at q1); exact PS_load (cvE rfl (by rw [q]; rfl)) tys4 (.head _) (Room.l3.comp (Lens.arr (n := 6) flB (by omega) (by omega))) rfl rfl) ?_
   refine GL_gf (t := 34) rfl rfl rfl (fun q => PS_move (cvE rfl (by rw [q]; rfl))) ?_
   refine GL_gtc (t := 39) rfl rfl rfl (fun qc q => PS_move rfl) ?_
   refine GL_gtc (t := 39) rfl rfl rfl (fun qc q => PS_fieldAddr fa25_2 rfl) ?_
   refine GL_gtc (t := 39) rfl rfl rfl (fun qc q => by have q1 := q; have qc1 := qc; (try simp at q1 qc1); exact PS_indexAddr ia22 (cvE rfl (by rw [qc, q]; rfl)) (cvE rfl (by rw [qc, q]; rfl)) (by omega) (by omega)) ?_
   refine GL_gtc (t := 39) rfl rfl rfl (fun qc q => by have q1 := q; have qc1 := qc; (try simp at q1 qc1); exact PS_load (cvE rfl (by rw [qc, q]; rfl)) tys3 (.head _) (Room.l2.comp (Lens.arr (n := 6) flI (by omega) (by omega))) rfl rfl) ?_
   refine GL_gtc (t := 39) rfl rfl rfl (fun qc q => PS_eql (cvE rfl (by rw [qc, q]; rfl)) rfl) ?_
   refine GL_gf (t := 34) rfl rfl rfl (fun q => PS_and (cvE rfl (by rw [q]; rfl)) rfl (fun h => by rw [q, h]; rfl)) ?_
   refine GL_step rfl (PS_or rfl rfl (fun h => by rw [h]; rfl)) ?_
   refine GL_nil ?_
   refine GQ_sub (.cons (k := 1) rfl (.cons (k := 4) rfl (.cons (k := 15) rfl (.cons (k := 16) rfl (.cons (k := 19) rfl (.cons (k := 46) rfl (.nil _))))))) ?_
   refine GQ_then ?_
   refine G_cond rfl (fun c3 => ?_) (fun c3 => ?_)
   ·
    have c3p := kz c3
    try dsimp only at c3p
    refine G_seq ?_
    refine G_region ?_
    refine GL_step rfl (PS_assign rfl) ?_
    refine GL_nil ?_
    refine GQ_sub (.cons (k := 2) rfl (.nil _)) ?_
    refine GQ_then ?_
    refine G_ret ?_
    refine GQ_block_ret ?_
    refine GQ_then_ret ?_
    refine GQ_then_ret ?_
    refine GQ_block_ret ?_
    refine GQ_block_ret ?_
    refine GQ_then_ret ?_
    refine GQ_then_ret ?_
    refine GQ_block_ret ?_
    refine GQ_then_ret ?_
    refine GQ_ret rfl (.tmp rfl .nil) ?_
    intro w1 hS; refine ⟨congrArg Value.bool ?_, hS.toKeep⟩; rw [hI13, hI23, Land.refBadExit, c3]; rfl
   have c3p := kz c3
   try dsimp only at c3p
   refine G_skip ?_
   refine GQ_sub (.cons (k := 1) rfl (.cons (k := 4) rfl (.cons (k := 15) rfl (.cons (k := 16) rfl (.cons (k := 19) rfl (.nil _)))))) ?_
   refine GQ_block ?_
   refine GQ_then ?_
   refine G_region ?_
   refine GL_step rfl (PS_add rfl rfl (IntWalk.i64_in _ (by omega))) ?_
   refine GL_step rfl (PS_move rfl) ?_
   refine GL_nil ?_
   refine GQ_sub (.cons (k := 1) rfl (.cons (k := 4) rfl (.cons (k := 15) rfl (.cons (k := 16) rfl (.cons (k := 19) rfl (.nil _)))))) ?_
   refine GQ_next1_ (d + 1) ?_ ?_ (.cons (k := 19) rfl (.cons (k := 1) rfl (.cons (k := 4) rfl (.cons (k := 15) rfl (.cons (k := 16) rfl (.nil _)))))) (.refl _)
   · exact ⟨by omega, by omega, by rw [hI23, Land.refBadExit, c3]; rfl⟩
   · omega
  have c2p := kz c2
  try dsimp only at c2p
  obtain rfl : d = 6 := by omega
  refine G_exit ?_
  refine GQ_then_exit ?_
  refine GQ_then_exit ?_
  refine GQ_block_exit ?_
  refine GQ_sub (.cons (k := 1) rfl (.cons (k := 15) rfl (.cons (k := 16) rfl (.nil _)))) ?_
  refine GQ_block ?_
  refine GQ_then ?_
  refine G_region ?_
  refine GL_step rfl (PS_add rfl rfl (IntWalk.i64_in _ (by omega))) ?_
  refine GL_step rfl (PS_move rfl) ?_
  refine GL_nil ?_
  refine GQ_sub (.cons (k := 1) rfl (.cons (k := 15) rfl (.cons (k := 16) rfl (.nil _)))) ?_
  refine GQ_next1_ (k + 1) ?_ ?_ (.cons (k := 16) rfl (.cons (k := 1) rfl (.cons (k := 15) rfl (.nil _)))) (.cons _ (.refl _))
  · exact ⟨by omega, by omega, by rw [hI13, hI23]; rfl⟩
  · omega
 have c1p := kz c1
 try dsimp only at c1p
 obtain rfl : k = 6 := by omega
 refine G_exit ?_
 refine GQ_then_exit ?_
 refine GQ_then_exit ?_
 refine GQ_block_exit ?_
 refine GQ_sub (.cons (k := 1) rfl (.nil _)) ?_
 refine GQ_then ?_
 refine G_seq ?_
 refine G_seq ?_
 refine G_region ?_
 refine GL_step rfl (PS_fieldAddr fa34_2 rfl) ?_
 refine GL_step rfl (PS_loadA rfl tya32 (.head _) Land.l2 rfl) ?_
 refine GL_step rfl (PS_move rfl) ?_
 refine GL_nil ?_
 refine GQ_sub (.cons (k := 1) rfl (.cons (k := 50) rfl (.cons (k := 51) rfl (.nil _)))) ?_
 refine GQ_then ?_
 refine G_block ?_
 refine G_subF (.cons (k := 51) rfl (.cons (k := 1) rfl (.cons (k := 50) rfl (.nil _)))) ?_
 refine G_loop1_ (fun (b : Int) => 0 ≤ b ∧ b ≤ 6 ∧ X.refGood = (allFrom 6 (fun k => !Land.refBadBeing (X.beings.at k)) (6 - b).toNat && allFrom 9 X.refThing 9)) (fun (b : Int) => (6 - b).toNat) (fun (b : Int) => [(51, .int .i64 b)]) (fun (b : Int) => []) (0) ?_ rfl rfl (fun b hI3 => ?_)
 · exact ⟨Int.le_refl _, by omega, hI13⟩
 obtain ⟨hI31, hI32, hI33⟩ := hI3
 refine G_seq ?_
 refine G_region ?_
 refine GL_step rfl (PS_lss rfl rfl) ?_
 refine GL_nil ?_
 refine GQ_then ?_
 refine G_seq ?_
 refine G_cond rfl (fun c4 => ?_) (fun c4 => ?_)
 ·
  have c4p := kz c4
  try dsimp only at c4p
  rw [allFrom_step _ (by omega)] at hI33
  refine G_skip ?_
  refine GQ_sub (.cons (k := 1) rfl (.cons (k := 50) rfl (.cons (k := 51) rfl (.nil _)))) ?_
  refine GQ_then ?_
  refine G_seq ?_
  refine G_block ?_
  refine G_seq ?_
  refine G_region ?_
  refine GL_step rfl (PS_indexAA Being.fl Tryz.underlying32 tya31 rfl rfl (by omega) (by omega)) ?_
  refine GL_alloc rfl zv31 rfl (fun b3 => ?_)
  refine GL_unit (PU_store (Lens.id Being.fl.len Being.fl.one) rfl rfl rfl sz31 rfl .head) ?_
  refine GL_nil ?_
  refine GQ_sub (.cons (k := 1) rfl (.cons (k := 7) rfl (.cons (k := 50) rfl (.cons (k := 51) rfl (.nil _))))) ?_
  refine GQ_then ?_
  refine G_seq ?_
  refine G_region ?_
  refine GL_step rfl (PS_fieldAddr fa31_3 rfl) ?_
  refine GL_step rfl (PS_load rfl tys3 (.head _) Being.l3 rfl rfl) ?_
  refine GL_step rfl (PS_lss rfl rfl) ?_
  refine GL_step rfl (PS_move rfl) ?_
  refine GL_gf (t := 57) rfl rfl rfl (fun q => PS_fieldAddr fa31_3 rfl) ?_
  refine GL_gf (t := 57) rfl rfl rfl (fun q => PS_load (cvE rfl (by rw [q]; rfl)) tys3 (.head _) Being.l3 rfl rfl) ?_
  refine GL_gf (t := 57) rfl rfl rfl (fun q => PS_gtr (cvE rfl (by rw [q]; rfl)) rfl) ?_
  refine GL_step rfl (PS_or rfl rfl (fun h => by rw [h]; rfl)) ?_
  refine GL_step rfl (PS_move rfl) ?_
  refine GL_gf (t := 62) rfl rfl rfl (fun q => PS_fieldAddr fa31_4 rfl) ?_
  refine GL_gf (t := 62) rfl rfl rfl (fun q => PS_load (cvE rfl (by rw [q]; rfl)) tys3 (.head _) Being.l4 rfl rfl) ?_
  refine GL_gf (t := 62) rfl rfl rfl (fun q => PS_lss (cvE rfl (by rw [q]; rfl)) rfl) ?_
  refine GL_step rfl (PS_or rfl rfl (fun h => by rw [h]; rfl)) ?_
  refine GL_step rfl (PS_move rfl) ?_
  refine GL_gf (t := 67) rfl rfl rfl (fun q => PS_fieldAddr fa31_4 rfl) ?_
  refine GL_gf (t := 67) rfl rfl rfl (fun q => PS_load (cvE rfl (by rw [q]; rfl)) tys3 (.head _) Being.l4 rfl rfl) ?_
  refine GL_gf (t := 67) rfl rfl rfl (fun q => PS_gtr (cvE rfl (by rw [q]; rfl)) rfl) ?_
  refine GL_step rfl (PS_or rfl rfl (fun h => by rw [h]; rfl)) ?_
  refine GL_step rfl (PS_move rfl) ?_
  refine GL_gf (t := 72) rfl rfl rfl (fun q => PS_fieldAddr fa31_5 rfl) ?_
  refine GL_gf (t := 72) rfl rfl rfl (fun q => PS_load (cvE rfl (by rw [q]; rfl)) tys3 (.head _) Being.l5 rfl rfl) ?_
  refine GL_gf (t := 72) rfl rfl rfl (fun q => PS_lss (cvE rfl (by rw [q]; rfl)) rfl) ?_
  refine GL_step rfl (PS_or rfl rfl (fun h => by rw [h]; rfl)) ?_
  refine GL_step rfl (PS_move rfl) ?_
  refine GL_gf (t := 77) rfl rfl rfl (fun q => PS_fieldAddr fa31_5 rfl) ?_
  refine GL_gf (t := 77) rfl rfl rfl (fun q => PS_load (cvE rfl (by rw [q]; rfl)) tys3 (.head _) Being.l5 rfl rfl) ?_
  refine GL_gf (t := 77) rfl rfl rfl (fun q => PS_gtr (cvE rfl (by rw [q]; rfl)) rfl) ?_
  refine GL_step rfl (PS_or rfl rfl (fun h => by rw [h]; rfl)) ?_
  refine GL_step rfl (PS_move rfl) ?_
  refine GL_gf (t := 82) rfl rfl rfl (fun q => PS_fieldAddr fa31_1 rfl) ?_
  refine GL_gf (t := 82) rfl rfl rfl (fun q => PS_load (cvE rfl (by rw [q]; rfl)) tys4 (.head _) Being.l1 rfl rfl) ?_
  refine GL_gf (t := 82) rfl rfl rfl (fun q => PS_fieldAddr fa31_4 rfl) ?_
  refine GL_gf (t := 82) rfl rfl rfl (fun q => PS_load (cvE rfl (by rw [q]; rfl)) tys3 (.head _) Being.l4 rfl rfl) ?_
  refine GL_gf (t := 82) rfl rfl rfl (fun q => PS_neq (cvE rfl (by rw [q]; rfl)) rfl) ?_
  refine GL_gf (t := 82) rfl rfl rfl (fun q => PS_neq_bool Tryz.underlying4 (cvE rfl (by rw [q]; rfl)) (cvE rfl (by rw [q]; rfl))) ?_
  refine GL_step rfl (PS_or rfl rfl (fun h => by rw [h]; rfl)) ?_
  refine GL_step rfl (PS_move rfl) ?_
  refine GL_gf (t := 90) rfl rfl rfl (fun q => PS_fieldAddr fa31_1 rfl) ?_
  refine GL_gf (t := 90) rfl rfl rfl (fun q => PS_load (cvE rfl (by rw [q]; rfl)) tys4 (.head _) Being.l1 rfl rfl) ?_
  refine GL_gf (t := 90) rfl rfl rfl (fun q => PS_not (cvE rfl (by rw [q]; rfl))) ?_
  refine GL_gf (t := 90) rfl rfl rfl (fun q => PS_move (cvE rfl (by rw [q]; rfl))) ?_
  refine GL_gtc (t := 94) rfl rfl rfl (fun qc q => PS_fieldAddr fa31_5 rfl) ?_
  refine GL_gtc (t := 94) rfl rfl rfl (fun qc q => PS_load (cvE rfl (by rw [qc, q]; rfl)) tys3 (.head _) Being.l5 rfl rfl) ?_
  refine GL_gtc (t := 94) rfl rfl rfl (fun qc q => PS_neq (cvE rfl (by rw [qc, q]; rfl)) rfl) ?_
  refine GL_gf (t := 90) rfl rfl rfl (fun q => PS_and (cvE rfl (by rw [q]; rfl)) rfl (fun h => by rw [q, h]; rfl)) ?_
  refine GL_step rfl (PS_or rfl rfl (fun h => by rw [h]; rfl)) ?_
  refine GL_nil ?_
  refine GQ_sub (.cons (k := 1) rfl (.cons (k := 50) rfl (.cons (k := 51) rfl (.cons (k := 99) rfl (.nil _))))) ?_
  refine GQ_then ?_
  refine G_cond rfl (fun c5 => ?_) (fun c5 => ?_)
  ·
   have c5p := kz c5
   try dsimp only at c5p
   refine G_seq ?_
   refine G_region ?_
   refine GL_step rfl (PS_assign rfl) ?_
   refine GL_nil ?_
   refine GQ_sub (.cons (k := 2) rfl (.nil _)) ?_
   refine GQ_then ?_
   refine G_ret ?_
   refine GQ_block_ret ?_
   refine GQ_then_ret ?_
   refine GQ_then_ret ?_
   refine GQ_block_ret ?_
   refine GQ_then_ret ?_
   refine GQ_ret rfl (.tmp rfl .nil) ?_
   intro w1 hS; refine ⟨congrArg Value.bool ?_, hS.toKeep⟩; rw [hI33, Land.refBadBeing, c5]; rfl
  have c5p := kz c5
  try dsimp only at c5p
  refine G_skip ?_
  refine GQ_sub (.cons (k := 1) rfl (.cons (k := 50) rfl (.cons (k := 51) rfl (.nil _)))) ?_
  refine GQ_block ?_
  refine GQ_then ?_
  refine G_region ?_
  refine GL_step rfl (PS_add rfl rfl (IntWalk.i64_in _ (by omega))) ?_
  refine GL_step rfl (PS_move rfl) ?_
  refine GL_nil ?_
  refine GQ_sub (.cons (k := 1) rfl (.cons (k := 50) rfl (.cons (k := 51) rfl (.nil _)))) ?_
  refine GQ_next1_ (b + 1) ?_ ?_ (.cons (k := 51) rfl (.cons (k := 1) rfl (.cons (k := 50) rfl (.nil _)))) (.cons _ (.refl _))
  · exact ⟨by omega, by omega, by rw [hI33, Land.refBadBeing, c5]; rfl⟩
  · omega
 have c4p := kz c4
 try dsimp only at c4p
 obtain rfl : b = 6 := by omega
 refine G_exit ?_
 refine GQ_then_exit ?_
 refine GQ_then_exit ?_
 refine GQ_block_exit ?_
 refine GQ_sub (.cons (k := 1) rfl (.nil _)) ?_
 refine GQ_then ?_
 refine G_seq ?_
 refine G_seq ?_
 refine G_region ?_
 refine GL_step rfl (PS_fieldAddr fa34_1 rfl) ?_
 refine GL_step rfl (PS_loadA rfl tya29 (.head _) Land.l1 rfl) ?_
 refine GL_step rfl (PS_move rfl) ?_
 refine GL_nil ?_
 refine GQ_sub (.cons (k := 1) rfl (.cons (k := 102) rfl (.cons (k := 103) rfl (.nil _)))) ?_
 refine GQ_then ?_
 refine G_block ?_
 refine G_subF (.cons (k := 103) rfl (.cons (k := 1) rfl (.cons (k := 102) rfl (.nil _)))) ?_
 refine G_loop1_ (fun (t : Int) => 0 ≤ t ∧ t ≤ 9 ∧ X.refGood = allFrom 9 X.refThing (9 - t).toNat) (fun (t : Int) => (9 - t).toNat) (fun (t : Int) => [(103, .int .i64 t)]) (fun (t : Int) => []) (0) ?_ rfl rfl (fun t hI4 => ?_)
 · exact ⟨Int.le_refl _, by omega, hI33⟩
 obtain ⟨hI41, hI42, hI43⟩ := hI4
 refine G_seq ?_
 refine G_region ?_
 refine GL_step rfl (PS_lss rfl rfl) ?_
 refine GL_nil ?_
 refine GQ_then ?_
 refine G_seq ?_
 refine G_cond rfl (fun c6 => ?_) (fun c6 => ?_)
 ·
  have c6p := kz c6
  try dsimp only at c6p
  rw [allFrom_step _ (by omega)] at hI43
  refine G_skip ?_
  refine GQ_sub (.cons (k := 1) rfl (.cons (k := 102) rfl (.cons (k := 103) rfl (.nil _)))) ?_
  refine GQ_then ?_
  refine G_seq ?_
  refine G_block ?_
  refine G_seq ?_
  refine G_region ?_
  refine GL_step rfl (PS_move rfl) ?_
  refine GL_step rfl (PS_indexAA Thing.fl Tryz.underlying29 tya28 rfl rfl (by omega) (by omega)) ?_
  refine GL_alloc rfl zv28 rfl (fun b4 => ?_)
  refine GL_step rfl (PS_assign rfl) ?_
  refine GL_unit (PU_store (Lens.id Thing.fl.len Thing.fl.one) rfl rfl rfl sz28 rfl .head) ?_
  refine GL_nil ?_
  refine GQ_sub (.cons (k := 1) rfl (.cons (k := 8) rfl (.cons (k := 9) rfl (.cons (k := 102) rfl (.cons (k := 103) rfl (.nil _)))))) ?_
  refine GQ_then ?_
  refine G_seq ?_
  refine G_seq ?_
  refine G_region ?_
  refine GL_step rfl (PS_fieldAddr fa28_1 rfl) ?_
  refine GL_step rfl (PS_load rfl tys3 (.head _) Thing.l1 rfl rfl) ?_
  refine GL_step rfl (PS_lss rfl rfl) ?_
  refine GL_step rfl (PS_move rfl) ?_
  refine GL_gf (t := 110) rfl rfl rfl (fun q => PS_fieldAddr fa28_1 rfl) ?_
  refine GL_gf (t := 110) rfl rfl rfl (fun q => PS_load (cvE rfl (by rw [q]; rfl)) tys3 (.head _) Thing.l1 rfl rfl) ?_
  refine GL_gf (t := 110) rfl rfl rfl (fun q => PS_gtr (cvE rfl (by rw [q]; rfl)) rfl) ?_
  refine GL_step rfl (PS_or rfl rfl (fun h => by rw [h]; rfl)) ?_
  refine GL_step rfl (PS_move rfl) ?_
  refine GL_gf (t := 115) rfl rfl rfl (fun q => PS_fieldAddr fa28_1 rfl) ?_
  refine GL_gf (t := 115) rfl rfl rfl (fun q => PS_load (cvE rfl (by rw [q]; rfl)) tys3 (.head _) Thing.l1 rfl rfl) ?_
  refine GL_gf (t := 115) rfl rfl rfl (fun q => PS_eql (cvE rfl (by rw [q]; rfl)) rfl) ?_
  refine GL_gf (t := 115) rfl rfl rfl (fun q => PS_move (cvE rfl (by rw [q]; rfl))) ?_
  refine GL_gtc (t := 119) rfl rfl rfl (fun qc q => PS_fieldAddr fa28_4 rfl) ?_
  refine GL_gtc (t := 119) rfl rfl rfl (fun qc q => PS_load (cvE rfl (by rw [qc, q]; rfl)) tys4 (.head _) Thing.l4 rfl rfl) ?_
  refine GL_gf (t := 115) rfl rfl rfl (fun q => PS_and (cvE rfl (by rw [q]; rfl)) rfl (fun h => by rw [q, h]; rfl)) ?_
  refine GL_step rfl (PS_or rfl rfl (fun h => by rw [h]; rfl)) ?_
  refine GL_step rfl (PS_move rfl) ?_
  refine GL_gf (t := 124) rfl rfl rfl (fun q => PS_fieldAddr fa28_1 rfl) ?_
  refine GL_gf (t := 124) rfl rfl rfl (fun q => PS_load (cvE rfl (by rw [q]; rfl)) tys3 (.head _) Thing.l1 rfl rfl) ?_
  refine GL_gf (t := 124) rfl rfl rfl (fun q => PS_eql (cvE rfl (by rw [q]; rfl)) rfl) ?_
  refine GL_gf (t := 124) rfl rfl rfl (fun q => PS_move (cvE rfl (by rw [q]; rfl))) ?_
  refine GL_gtc (t := 128) rfl rfl rfl (fun qc q => PS_fieldAddr fa28_4 rfl) ?_
  refine GL_gtc (t := 128) rfl rfl rfl (fun qc q => PS_load (cvE rfl (by rw [qc, q]; rfl)) tys4 (.head _) Thing.l4 rfl rfl) ?_
  refine GL_gf (t := 124) rfl rfl rfl (fun q => PS_and (cvE rfl (by rw [q]; rfl)) rfl (fun h => by rw [q, h]; rfl)) ?_
  refine GL_gf (t := 124) rfl rfl rfl (fun q => PS_move (cvE rfl (by rw [q]; rfl))) ?_
  refine GL_gtc (t := 132) rfl rfl rfl (fun qc q => PS_fieldAddr fa28_2 rfl) ?_
  refine GL_gtc (t := 132) rfl rfl rfl (fun qc q => PS_load (cvE rfl (by rw [qc, q]; rfl)) tys3 (.head _) Thing.l2 rfl rfl) ?_
  refine GL_gtc (t := 132) rfl rfl rfl (fun qc q => PS_neq (cvE rfl (by rw [qc, q]; rfl)) rfl) ?_
  refine GL_gf (t := 124) rfl rfl rfl (fun q => PS_and (cvE rfl (by rw [q]; rfl)) rfl (fun h => by rw [q, h]; rfl)) ?_
  refine GL_step rfl (PS_or rfl rfl (fun h => by rw [h]; rfl)) ?_
  refine GL_step rfl (PS_move rfl) ?_
  refine GL_gf (t := 138) rfl rfl rfl (fun q => PS_fieldAddr fa28_2 rfl) ?_
  refine GL_gf (t := 138) rfl rfl rfl (fun q => PS_load (cvE rfl (by rw [q]; rfl)) tys3 (.head _) Thing.l2 rfl rfl) ?_
  refine GL_gf (t := 138) rfl rfl rfl (fun q => PS_eql (cvE rfl (by rw [q]; rfl)) rfl) ?_
  refine GL_gf (t := 138) rfl rfl rfl (fun q => PS_move (cvE rfl (by rw [q]; rfl))) ?_
  refine GL_gtc (t := 142) rfl rfl rfl (fun qc q => PS_fieldAddr fa28_3 rfl) ?_
  refine GL_gtc (t := 142) rfl rfl rfl (fun qc q => PS_load (cvE rfl (by rw [qc, q]; rfl)) tys3 (.head _) Thing.l3 rfl rfl) ?_
  refine GL_gtc (t := 142) rfl rfl rfl (fun qc q => PS_lss (cvE rfl (by rw [qc, q]; rfl)) rfl) ?_
  refine GL_gtc (t := 142) rfl rfl rfl (fun qc q => PS_move (cvE rfl (by rw [qc, q]; rfl))) ?_
  refine GL_gfc (t := 146) rfl rfl rfl (fun qc q => PS_fieldAddr fa28_3 rfl) ?_
  refine GL_gfc (t := 146) rfl rfl rfl (fun qc q => PS_load (cvE rfl (by rw [qc, q]; rfl)) tys3 (.head _) Thing.l3 rfl rfl) ?_
  refine GL_gfc (t := 146) rfl rfl rfl (fun qc q => PS_gtr (cvE rfl (by rw [qc, q]; rfl)) rfl) ?_
  refine GL_gtc (t := 142) rfl rfl rfl (fun qc q => PS_or (cvE rfl (by rw [qc, q]; rfl)) rfl (fun h => by rw [qc, q, h]; rfl)) ?_
  refine GL_gtc (t := 142) rfl rfl rfl (fun qc q => PS_move (cvE rfl (by rw [qc, q]; rfl))) ?_
  refine GL_gfc (t := 151) rfl rfl rfl (fun qc q => PS_fieldAddr fa28_3 rfl) ?_
  refine GL_gfc (t := 151) rfl rfl rfl (fun qc q => PS_load (cvE rfl (by rw [qc, q]; rfl)) tys3 (.head _) Thing.l3 rfl rfl) ?_
  refine GL_gfc (t := 151) rfl rfl rfl (fun qc q => PS_fieldAddr fa34_1 rfl) ?_
  refine GL_gfc (t := 151) rfl rfl rfl (fun qc q => by have q1 := q; have qc1 := qc; (try simp at q1 qc1); exact PS_indexAddr ia29 (cvE rfl (by rw [qc, q]; rfl)) (cvE rfl (by rw [qc, q]; rfl)) (by omega) (by omega)) ?_
  refine GL_gfc (t := 151) rfl rfl rfl (fun qc q => PS_fieldAddr fa28_1 (cvE rfl (by rw [qc, q]; rfl))) ?_
  refine GL_gfc (t := 151) rfl rfl rfl (fun qc q => by have q1 := q; have qc1 := qc; (try simp at q1 qc1); exact PS_load (cvE rfl (by rw [qc, q]; rfl)) tys3 (.tail _ (.head _)) ((Land.l1.comp (Lens.arr (n := 9) Thing.fl (by omega) (by omega))).comp Thing.l1) rfl rfl) ?_
  refine GL_gfc (t := 151) rfl rfl rfl (fun qc q => PS_neq (cvE rfl (by rw [qc, q]; rfl)) rfl) ?_
  refine GL_gtc (t := 142) rfl rfl rfl (fun qc q => PS_or (cvE rfl (by rw [qc, q]; rfl)) rfl (fun h => by rw [qc, q, h]; rfl)) ?_
  refine GL_gf (t := 138) rfl rfl rfl (fun q => PS_and (cvE rfl (by rw [q]; rfl)) rfl (fun h => by rw [q, h]; rfl)) ?_
  refine GL_step rfl (PS_or rfl rfl (fun h => by rw [h]; rfl)) ?_
  refine GL_nil ?_
  refine GQ_sub (.cons (k := 1) rfl (.cons (k := 8) rfl (.cons (k := 102) rfl (.cons (k := 103) rfl (.cons (k := 161) rfl (.nil _)))))) ?_
  refine GQ_then ?_
  refine G_cond rfl (fun c7 => ?_) (fun c7 => ?_)
  ·
   have c7p := kz c7
   try dsimp only at c7p
   refine G_seq ?_
   refine G_region ?_
   refine GL_step rfl (PS_assign rfl) ?_
   refine GL_nil ?_
   refine GQ_sub (.cons (k := 2) rfl (.nil _)) ?_
   refine GQ_then ?_
   refine G_ret ?_
   refine GQ_then_ret ?_
   refine GQ_block_ret ?_
   refine GQ_then_ret ?_
   refine GQ_then_ret ?_
   refine GQ_block_ret ?_
   refine GQ_then_ret ?_
   refine GQ_ret rfl (.tmp rfl .nil) ?_
   intro w1 hS; refine ⟨congrArg Value.bool ?_, hS.toKeep⟩; rw [hI43, Land.refThing, show X.refBadA (X.things.at t) = true from c7]; rfl
  have c7p := kz c7
  try dsimp only at c7p
  refine G_skip ?_
  refine GQ_sub (.cons (k := 1) rfl (.cons (k := 8) rfl (.cons (k := 102) rfl (.cons (k := 103) rfl (.nil _))))) ?_
  refine GQ_then ?_
  refine G_seq ?_
  refine G_region ?_
  refine GL_step rfl (PS_loadA rfl tya34 (.tail _ (.head _)) (Lens.id Land.fl.len Land.fl.one) rfl) ?_
  refine GL_step rfl (PS_move rfl) ?_
  refine GL_pure rfl cf48 (.cons rfl (.cons rfl .nil)) (fun w hS => ref_root_spec _ _ w) ?_
  refine GL_step rfl (PS_move rfl) ?_
  refine GL_step rfl (PS_extract rfl rfl) ?_
  refine GL_step rfl (PS_extract rfl rfl) ?_
  refine GL_step rfl (PS_extract rfl rfl) ?_
  refine GL_step rfl (PS_extract rfl rfl) ?_
  refine GL_step rfl (PS_assign rfl) ?_
  refine GL_step rfl (PS_assign rfl) ?_
  refine GL_step rfl (PS_assign rfl) ?_
  refine GL_step rfl (PS_assign rfl) ?_
  refine GL_nil ?_
  refine GQ_sub (.cons (k := 1) rfl (.cons (k := 10) rfl (.cons (k := 11) rfl (.cons (k := 13) rfl (.cons (k := 102) rfl (.cons (k := 103) rfl (.nil _))))))) ?_
  refine GQ_then ?_
  refine G_seq ?_
  refine G_region ?_
  refine GL_step rfl (PS_move rfl) ?_
  refine GL_step rfl (PS_not rfl) ?_
  refine GL_step rfl (PS_move rfl) ?_
  refine GL_gf (t := 172) rfl rfl rfl (fun q => PS_move rfl) ?_
  refine GL_gf (t := 172) rfl rfl rfl (fun q => PS_eql (cvE rfl (by rw [q]; rfl)) rfl) ?_
  refine GL_gf (t := 172) rfl rfl rfl (fun q => PS_move (cvE rfl (by rw [q]; rfl))) ?_
  refine GL_gtc (t := 175) rfl rfl rfl (fun qc q => PS_move rfl) ?_
  refine GL_gtc (t := 175) rfl rfl rfl (fun qc q => PS_lss (cvE rfl (by rw [qc, q]; rfl)) rfl) ?_
  refine GL_gtc (t := 175) rfl rfl rfl (fun qc q => PS_move (cvE rfl (by rw [qc, q]; rfl))) ?_
  refine GL_gfc (t := 178) rfl rfl rfl (fun qc q => PS_move rfl) ?_
  refine GL_gfc (t := 178) rfl rfl rfl (fun qc q => PS_gtr (cvE rfl (by rw [qc, q]; rfl)) rfl) ?_
  refine GL_gtc (t := 175) rfl rfl rfl (fun qc q => PS_or (cvE rfl (by rw [qc, q]; rfl)) rfl (fun h => by rw [qc, q, h]; rfl)) ?_
  refine GL_gf (t := 172) rfl rfl rfl (fun q => PS_and (cvE rfl (by rw [q]; rfl)) rfl (fun h => by rw [q, h]; rfl)) ?_
  refine GL_step rfl (PS_or rfl rfl (fun h => by rw [h]; rfl)) ?_
  refine GL_step rfl (PS_move rfl) ?_
  refine GL_gf (t := 184) rfl rfl rfl (fun q => PS_move rfl) ?_
  refine GL_gf (t := 184) rfl rfl rfl (fun q => PS_eql (cvE rfl (by rw [q]; rfl)) rfl) ?_
  refine GL_gf (t := 184) rfl rfl rfl (fun q => PS_move (cvE rfl (by rw [q]; rfl))) ?_
  refine GL_gtc (t := 187) rfl rfl rfl (fun qc q => PS_move rfl) ?_
  refine GL_gtc (t := 187) rfl rfl rfl (fun qc q => PS_lss (cvE rfl (by rw [qc, q]; rfl)) rfl) ?_
  refine GL_gtc (t := 187) rfl rfl rfl (fun qc q => PS_move (cvE rfl (by rw [qc, q]; rfl))) ?_
  refine GL_gfc (t := 190) rfl rfl rfl (fun qc q => PS_move rfl) ?_
  refine GL_gfc (t := 190) rfl rfl rfl (fun qc q => PS_gtr (cvE rfl (by rw [qc, q]; rfl)) rfl) ?_
  refine GL_gtc (t := 187) rfl rfl rfl (fun qc q => PS_or (cvE rfl (by rw [qc, q]; rfl)) rfl (fun h => by rw [qc, q, h]; rfl)) ?_
  refine GL_gtc (t := 187) rfl rfl rfl (fun qc q => PS_move (cvE rfl (by rw [qc, q]; rfl))) ?_
  refine GL_gfc (t := 194) rfl rfl rfl (fun qc q => PS_move rfl) ?_
  refine GL_gfc (t := 194) rfl rfl rfl (fun qc q => PS_fieldAddr fa34_2 rfl) ?_
  refine GL_gfc (t := 194) rfl rfl rfl (fun qc q => by have q1 := q; have qc1 := qc; (try simp at q1 qc1); exact PS_indexAddr ia32 (cvE rfl (by rw [qc, q]; rfl)) (cvE rfl (by rw [qc, q]; rfl)) (by omega) (by omega)) ?_
  refine GL_gfc (t := 194) rfl rfl rfl (fun qc q => PS_fieldAddr fa31_1 (cvE rfl (by rw [qc, q]; rfl))) ?_
  refine GL_gfc (t := 194) rfl rfl rfl (fun qc q => by have q1 := q; have qc1 := qc; (try simp at q1 qc1); exact PS_load (cvE rfl (by rw [qc, q]; rfl)) tys4 (.tail _ (.head _)) ((Land.l2.comp (Lens.arr (n := 6) Being.fl (by omega) (by omega))).comp Being.l1) rfl rfl) ?_
  refine GL_gfc (t := 194) rfl rfl rfl (fun qc q => PS_not (cvE rfl (by rw [qc, q]; rfl))) ?_
  refine GL_gtc (t := 187) rfl rfl rfl (fun qc q => PS_or (cvE rfl (by rw [qc, q]; rfl)) rfl (fun h => by rw [qc, q, h]; rfl)) ?_
  refine GL_gf (t := 184) rfl rfl rfl (fun q => PS_and (cvE rfl (by rw [q]; rfl)) rfl (fun h => by rw [q, h]; rfl)) ?_
  refine GL_step rfl (PS_or rfl rfl (fun h => by rw [h]; rfl)) ?_
  refine GL_nil ?_
  refine GQ_sub (.cons (k := 1) rfl (.cons (k := 102) rfl (.cons (k := 103) rfl (.cons (k := 203) rfl (.nil _))))) ?_
  refine GQ_then ?_
  refine G_cond rfl (fun c8 => ?_) (fun c8 => ?_)
  ·
   have c8p := kz c8
   try dsimp only at c8p
   refine G_seq ?_
   refine G_region ?_
   refine GL_step rfl (PS_assign rfl) ?_
   refine GL_nil ?_
   refine GQ_sub (.cons (k := 2) rfl (.nil _)) ?_
   refine GQ_then ?_
   refine G_ret ?_
   refine GQ_block_ret ?_
   refine GQ_then_ret ?_
   refine GQ_then_ret ?_
   refine GQ_block_ret ?_
   refine GQ_then_ret ?_
   refine GQ_ret rfl (.tmp rfl .nil) ?_
   intro w1 hS; refine ⟨congrArg Value.bool ?_, hS.toKeep⟩; rw [hI43, Land.refThing, show X.refBadB (X.root t) = true from c8, Bool.not_true, Bool.and_false]; rfl
  have c8p := kz c8
  try dsimp only at c8p
  refine G_skip ?_
  refine GQ_sub (.cons (k := 1) rfl (.cons (k := 102) rfl (.cons (k := 103) rfl (.nil _)))) ?_
  refine GQ_block ?_
  refine GQ_then ?_
  refine G_region ?_
  refine GL_step rfl (PS_add rfl rfl (IntWalk.i64_in _ (by omega))) ?_
  refine GL_step rfl (PS_move rfl) ?_
  refine GL_nil ?_
  refine GQ_sub (.cons (k := 1) rfl (.cons (k := 102) rfl (.cons (k := 103) rfl (.nil _)))) ?_
  refine GQ_next1_ (t + 1) ?_ ?_ (.cons (k := 103) rfl (.cons (k := 1) rfl (.cons (k := 102) rfl (.nil _)))) (.cons _ (.refl _))
  · exact ⟨by omega, by omega, by rw [hI43, Land.refThing, show X.refBadA (X.things.at t) = false from c7, show X.refBadB (X.root t) = false from c8]; rfl⟩
  · omega
 have c6p := kz c6
 try dsimp only at c6p
 obtain rfl : t = 9 := by omega
 refine G_exit ?_
 refine GQ_then_exit ?_
 refine GQ_then_exit ?_
 refine GQ_block_exit ?_
 refine GQ_sub (.nil _) ?_
 refine GQ_then ?_
 refine G_seq ?_
 refine G_region ?_
 refine GL_step rfl (PS_assign rfl) ?_
 refine GL_nil ?_
 refine GQ_then ?_
 refine G_ret ?_
 refine GQ_ret rfl (.tmp rfl .nil) ?_
 intro w1 hS; refine ⟨congrArg Value.bool ?_, hS.toKeep⟩; rw [hI43]; rfl
theorem ref_about_spec (X : Land) (b : Int) (w : World) : Ret Tryz.prog 25 #[.agg X.enc.toArray, .int .i64 b] w fun v w' => v = .bool (X.being b) ∧ Keep w w' := by
 refine Ret_body [] [] Tryz.func25 rfl rfl rfl (St.start w []) ?_
 refine G_seq ?_
 refine G_region ?_
 refine GL_box rfl rfl rfl (fun b1 => ?_)
 refine GL_step rfl (PS_assign rfl) ?_
 refine GL_nil ?_
 refine GQ_sub (.cons (k := 1) rfl (.cons (k := 2) rfl (.nil _))) ?_
 refine GQ_then ?_
 refine G_seq ?_
 refine G_region ?_
 refine GL_step rfl (PS_move rfl) ?_
 refine GL_step rfl (PS_geq rfl rfl) ?_
 refine GL_step rfl (PS_move rfl) ?_
 refine GL_gt (t := 7) rfl rfl rfl (fun q => PS_move rfl) ?_
 refine GL_gt (t := 7) rfl rfl rfl (fun q => PS_lss (cvE rfl q) rfl) ?_
 refine GL_step rfl (PS_and rfl rfl (fun h => h)) ?_
 refine GL_step rfl (PS_move rfl) ?_
 refine GL_gt (t := 11) rfl rfl rfl (fun q => PS_move rfl) ?_
 refine GL_gt (t := 11) rfl rfl rfl (fun q => PS_fieldAddr fa34_2 rfl) ?_
 refine GL_gt (t := 11) rfl rfl rfl (fun q => by have q1 := q; (try simp at q1); exact PS_indexAddr ia32 (cvE rfl q) (cvE rfl q) (by omega) (by omega)) ?_
 refine GL_gt (t := 11) rfl rfl rfl (fun q => PS_fieldAddr fa31_1 (cvE rfl q)) ?_
 refine GL_gt (t := 11) rfl rfl rfl (fun q => by have q1 := q; (try simp at q1); exact PS_load (cvE rfl q) tys4 (.head _) ((Land.l2.comp (Lens.arr (n := 6) Being.fl (by omega) (by omega))).comp Being.l1) rfl rfl) ?_
 refine GL_step rfl (PS_and rfl rfl (fun h => h)) ?_
 refine GL_step rfl (PS_assign rfl) ?_
 refine GL_nil ?_
 refine GQ_sub (.cons (k := 4) rfl (.nil _)) ?_
 refine GQ_then ?_
 refine G_ret ?_
 refine GQ_ret rfl (.tmp rfl .nil) ?_
 intro w1 hS; refine ⟨?_, hS.toKeep⟩; rfl
theorem ref_RoomOf_spec (X : Land) (i : Int) (w : World) : Ret Tryz.prog 77 #[.agg X.enc.toArray, .int .i64 i] w fun v w' => v = .tuple #[.int .i64 (X.room i).1, .bool (X.room i).2] ∧ Keep w w' := by
 refine Ret_body [] [] Tryz.func77 rfl rfl rfl (St.start w []) ?_
 refine G_seq ?_
 refine G_region ?_
 refine GL_box rfl rfl rfl (fun b1 => ?_)
 refine GL_step rfl (PS_assign rfl) ?_
 refine GL_step rfl (PS_assign rfl) ?_
 refine GL_nil ?_
 refine GQ_sub (.cons (k := 1) rfl (.cons (k := 2) rfl (.nil _))) ?_
 refine GQ_then ?_
 refine G_seq ?_
 refine G_region ?_
 refine GL_step rfl (PS_loadA rfl tya34 (.head _) (Lens.id Land.fl.len Land.fl.one) rfl) ?_
 refine GL_step rfl (PS_move rfl) ?_
 refine GL_pure rfl cf48 (.cons rfl (.cons rfl .nil)) (fun w hS => ref_root_spec _ _ w) ?_
 refine GL_step rfl (PS_move rfl) ?_
 refine GL_step rfl (PS_extract rfl rfl) ?_
 refine GL_step rfl (PS_extract rfl rfl) ?_
 refine GL_step rfl (PS_extract rfl rfl) ?_
 refine GL_step rfl (PS_extract rfl rfl) ?_
 refine GL_step rfl (PS_assign rfl) ?_
 refine GL_step rfl (PS_assign rfl) ?_
 refine GL_step rfl (PS_assign rfl) ?_
 refine GL_step rfl (PS_assign rfl) ?_
 refine GL_nil ?_
 refine GQ_sub (.cons (k := 2) rfl (.cons (k := 6) rfl (.cons (k := 7) rfl (.cons (k := 8) rfl (.cons (k := 9) rfl (.nil _)))))) ?_
 refine GQ_then ?_
 refine G_seq ?_
 refine G_seq ?_
 refine G_region ?_
 refine GL_step rfl (PS_move rfl) ?_
 refine GL_step rfl (PS_move rfl) ?_
 refine GL_gt (t := 19) rfl rfl rfl (fun q => PS_move rfl) ?_
 refine GL_gt (t := 19) rfl rfl rfl (fun q => PS_eql (cvE rfl q) rfl) ?_
 refine GL_step rfl (PS_and rfl rfl (fun h => h)) ?_
 refine GL_nil ?_
 refine GQ_sub (.cons (k := 2) rfl (.cons (k := 7) rfl (.cons (k := 8) rfl (.cons (k := 9) rfl (.cons (k := 22) rfl (.nil _)))))) ?_
 refine GQ_then ?_
 refine G_cond rfl (fun c1 => ?_) (fun c1 => ?_)
 ·
  have c1p := kz c1
  try dsimp only at c1p
  refine G_seq ?_
  refine G_seq ?_
  refine G_region ?_
  refine GL_step rfl (PS_move rfl) ?_
  refine GL_step rfl (PS_lss rfl rfl) ?_
  refine GL_step rfl (PS_move rfl) ?_
  refine GL_gf (t := 25) rfl rfl rfl (fun q => PS_move rfl) ?_
  refine GL_gf (t := 25) rfl rfl rfl (fun q => PS_gtr (cvE rfl (by rw [q]; rfl)) rfl) ?_
  refine GL_step rfl (PS_or rfl rfl (fun h => by rw [h]; rfl)) ?_
  refine GL_nil ?_
  refine GQ_sub (.cons (k := 2) rfl (.cons (k := 7) rfl (.cons (k := 8) rfl (.cons (k := 28) rfl (.nil _))))) ?_
  refine GQ_then ?_
  refine G_cond rfl (fun c2 => ?_) (fun c2 => ?_)
  ·
   have c2p := kz c2
   try dsimp only at c2p
   refine G_seq ?_
   refine G_region ?_
   refine GL_step rfl (PS_assign rfl) ?_
   refine GL_step rfl (PS_assign rfl) ?_
   refine GL_nil ?_
   refine GQ_sub (.cons (k := 4) rfl (.cons (k := 5) rfl (.nil _))) ?_
   refine GQ_then ?_
   refine G_ret ?_
   refine GQ_then_ret ?_
   refine GQ_then_ret ?_
   refine GQ_ret rfl (.tmp rfl (.tmp rfl .nil)) ?_
   intro w1 hS; refine ⟨?_, hS.toKeep⟩; rw [← Land.roomOf, show Land.conv X (Land.root X i) = _ from ((if_t c1).trans (if_t c2))]; rfl
  have c2p := kz c2
  try dsimp only at c2p
  have hat : 0 ≤ (Land.root X i).2.1 ∧ (Land.root X i).2.1 ≤ 5 := by simp at c2; omega
  refine G_skip ?_
  refine GQ_sub (.cons (k := 2) rfl (.cons (k := 7) rfl (.cons (k := 8) rfl (.nil _)))) ?_
  refine GQ_then ?_
  refine G_seq ?_
  refine G_region ?_
  refine GL_step rfl (PS_move rfl) ?_
  refine GL_step rfl (PS_fieldAddr fa34_2 rfl) ?_
  refine GL_step rfl (PS_indexAddr ia32 rfl rfl (by omega) (by omega)) ?_
  refine GL_step rfl (PS_fieldAddr fa31_3 rfl) ?_
  refine GL_step rfl (PS_load rfl tys3 (.head _) ((Land.l2.comp (Lens.arr (n := 6) Being.fl (by omega) (by omega))).comp Being.l3) rfl rfl) ?_
  refine GL_step rfl (PS_move rfl) ?_
  refine GL_step rfl (PS_assign rfl) ?_
  refine GL_step rfl (PS_assign rfl) ?_
  refine GL_nil ?_
  refine GQ_sub (.cons (k := 4) rfl (.cons (k := 5) rfl (.nil _))) ?_
  refine GQ_then ?_
  refine G_ret ?_
  refine GQ_then_ret ?_
  refine GQ_ret rfl (.tmp rfl (.tmp rfl .nil)) ?_
  intro w1 hS; refine ⟨?_, hS.toKeep⟩; rw [← Land.roomOf, show Land.conv X (Land.root X i) = _ from ((if_t c1).trans (if_f c2))]; rfl
 have c1p := kz c1
 try dsimp only at c1p
 refine G_skip ?_
 refine GQ_sub (.cons (k := 7) rfl (.cons (k := 8) rfl (.cons (k := 9) rfl (.nil _)))) ?_
 refine GQ_then ?_
 refine G_seq ?_
 refine G_seq ?_
 refine G_region ?_
 refine GL_step rfl (PS_move rfl) ?_
 refine GL_step rfl (PS_not rfl) ?_
 refine GL_nil ?_
 refine GQ_sub (.cons (k := 7) rfl (.cons (k := 8) rfl (.cons (k := 36) rfl (.nil _)))) ?_
 refine GQ_then ?_
 refine G_cond rfl (fun c3 => ?_) (fun c3 => ?_)
 ·
  have c3p := kz c3
  try dsimp only at c3p
  refine G_seq ?_
  refine G_region ?_
  refine GL_step rfl (PS_assign rfl) ?_
  refine GL_step rfl (PS_assign rfl) ?_
  refine GL_nil ?_
  refine GQ_sub (.cons (k := 4) rfl (.cons (k := 5) rfl (.nil _))) ?_
  refine GQ_then ?_
  refine G_ret ?_
  refine GQ_then_ret ?_
  refine GQ_ret rfl (.tmp rfl (.tmp rfl .nil)) ?_
  intro w1 hS; refine ⟨?_, hS.toKeep⟩; rw [← Land.roomOf, show Land.conv X (Land.root X i) = _ from ((if_f c1).trans (if_t c3))]; rfl
 have c3p := kz c3
 try dsimp only at c3p
 refine G_skip ?_
 refine GQ_sub (.cons (k := 7) rfl (.cons (k := 8) rfl (.nil _))) ?_
 refine GQ_then ?_
 refine G_seq ?_
 refine G_region ?_
 refine GL_step rfl (PS_move rfl) ?_
 refine GL_step rfl (PS_move rfl) ?_
 refine GL_step rfl (PS_assign rfl) ?_
 refine GL_step rfl (PS_assign rfl) ?_
 refine GL_nil ?_
 refine GQ_sub (.cons (k := 4) rfl (.cons (k := 5) rfl (.nil _))) ?_
 refine GQ_then ?_
 refine G_ret ?_
 refine GQ_ret rfl (.tmp rfl (.tmp rfl .nil)) ?_
 intro w1 hS; refine ⟨?_, hS.toKeep⟩; rw [← Land.roomOf, show Land.conv X (Land.root X i) = _ from ((if_f c1).trans (if_f c3))]; rfl
theorem ref_IsBright_spec (X : Land) (r : Int) (w : World) : Ret Tryz.prog 50 #[.agg X.enc.toArray, .int .i64 r] w fun v w' => v = .bool (X.bright r) ∧ Keep w w' := by
 refine Ret_body [] [] Tryz.func50 rfl rfl rfl (St.start w []) ?_
 refine G_seq ?_
 refine G_region ?_
 refine GL_box rfl rfl rfl (fun b1 => ?_)
 refine GL_step rfl (PS_assign rfl) ?_
 refine GL_nil ?_
 refine GQ_sub (.cons (k := 1) rfl (.cons (k := 2) rfl (.nil _))) ?_
 refine GQ_then ?_
 refine G_seq ?_
 refine G_seq ?_
 refine G_region ?_
 refine GL_step rfl (PS_move rfl) ?_
 refine GL_step rfl (PS_lss rfl rfl) ?_
 refine GL_step rfl (PS_move rfl) ?_
 refine GL_gf (t := 12) rfl rfl rfl (fun q => PS_move rfl) ?_
 refine GL_gf (t := 12) rfl rfl rfl (fun q => PS_gtr (cvE rfl (by rw [q]; rfl)) rfl) ?_
 refine GL_step rfl (PS_or rfl rfl (fun h => by rw [h]; rfl)) ?_
 refine GL_nil ?_
 refine GQ_sub (.cons (k := 1) rfl (.cons (k := 2) rfl (.cons (k := 15) rfl (.nil _)))) ?_
 refine GQ_then ?_
 refine G_cond rfl (fun c1 => ?_) (fun c1 => ?_)
 ·
  have c1p := kz c1
  try dsimp only at c1p
  refine G_seq ?_
  refine G_region ?_
  refine GL_step rfl (PS_assign rfl) ?_
  refine GL_nil ?_
  refine GQ_sub (.cons (k := 4) rfl (.nil _)) ?_
  refine GQ_then ?_
  refine G_ret ?_
  refine GQ_then_ret ?_
  refine GQ_ret rfl (.tmp rfl .nil) ?_
  intro w1 hS; refine ⟨congrArg Value.bool ?_, hS.toKeep⟩; rw [Land.bright_out c1]
 have c1p := kz c1
 try dsimp only at c1p
 have hr : 0 ≤ r ∧ r < 6 := by simp at c1; omega
 refine G_skip ?_
 refine GQ_sub (.cons (k := 1) rfl (.cons (k := 2) rfl (.nil _))) ?_
 refine GQ_then ?_
 refine G_seq ?_
 refine G_region ?_
 refine GL_step rfl (PS_move rfl) ?_
 refine GL_step rfl (PS_fieldAddr fa34_0 rfl) ?_
 refine GL_step rfl (PS_indexAddr ia26 rfl rfl (by omega) (by omega)) ?_
 refine GL_step rfl (PS_fieldAddr fa25_1 rfl) ?_
 refine GL_step rfl (PS_load rfl tys4 (.head _) ((Land.l0.comp (Lens.arr (n := 6) Room.fl (by omega) (by omega))).comp Room.l1) rfl rfl) ?_
 refine GL_step rfl (PS_not rfl) ?_
 refine GL_step rfl (PS_assign rfl) ?_
 refine GL_nil ?_
 refine GQ_sub (.cons (k := 1) rfl (.cons (k := 2) rfl (.cons (k := 5) rfl (.nil _)))) ?_
 refine GQ_then ?_
 refine G_seq ?_
 refine G_seq ?_
 refine G_region ?_
 refine GL_step rfl (PS_fieldAddr fa34_1 rfl) ?_
 refine GL_step rfl (PS_loadA rfl tya29 (.head _) Land.l1 rfl) ?_
 refine GL_step rfl (PS_move rfl) ?_
 refine GL_nil ?_
 refine GQ_sub (.cons (k := 1) rfl (.cons (k := 2) rfl (.cons (k := 5) rfl (.cons (k := 23) rfl (.cons (k := 24) rfl (.nil _)))))) ?_
 refine GQ_then ?_
 refine G_block ?_
 refine G_subF (.cons (k := 5) rfl (.cons (k := 24) rfl (.cons (k := 1) rfl (.cons (k := 2) rfl (.cons (k := 23) rfl (.nil _)))))) ?_
 refine G_loop2_ (fun (k : Int) (c : Bool) => 0 ≤ k ∧ k ≤ 9 ∧ (!(X.rooms.at r).dark || !(allFrom 9 (fun i => !X.lit r i) 9)) = (c || !(allFrom 9 (fun i => !X.lit r i) (9 - k).toNat))) (fun (k : Int) (c : Bool) => (9 - k).toNat) (fun (k : Int) (c : Bool) => [(5, .bool c), (24, .int .i64 k)]) (fun (k : Int) (c : Bool) => []) (0) (!(X.rooms.at r).dark) ?_ rfl rfl (fun k c hI1 => ?_)
 · exact ⟨by omega, by omega, rfl⟩
 obtain ⟨hI11, hI12, hI13⟩ := hI1
 refine G_seq ?_
 refine G_region ?_
 refine GL_step rfl (PS_lss rfl rfl) ?_
 refine GL_nil ?_
 refine GQ_then ?_
 refine G_seq ?_
 refine G_cond rfl (fun c2 => ?_) (fun c2 => ?_)
 ·
  have c2p := kz c2
  try dsimp only at c2p
  rw [allFrom_step (k := k) _ (by omega), Land.bright_step] at hI13
  refine G_skip ?_
  refine GQ_sub (.cons (k := 1) rfl (.cons (k := 2) rfl (.cons (k := 5) rfl (.cons (k := 23) rfl (.cons (k := 24) rfl (.nil _)))))) ?_
  refine GQ_then ?_
  refine G_seq ?_
  refine G_block ?_
  refine G_seq ?_
  refine G_region ?_
  refine GL_step rfl (PS_move rfl) ?_
  refine GL_step rfl (PS_indexAA Thing.fl Tryz.underlying29 tya28 rfl rfl (by omega) (by omega)) ?_
  refine GL_alloc rfl zv28 rfl (fun b2 => ?_)
  refine GL_step rfl (PS_assign rfl) ?_
  refine GL_unit (PU_store (Lens.id Thing.fl.len Thing.fl.one) rfl rfl rfl sz28 rfl .head) ?_
  refine GL_nil ?_
  refine GQ_sub (.cons (k := 1) rfl (.cons (k := 2) rfl (.cons (k := 5) rfl (.cons (k := 6) rfl (.cons (k := 7) rfl (.cons (k := 23) rfl (.cons (k := 24) rfl (.nil _)))))))) ?_
  refine GQ_then ?_
  refine G_seq ?_
  refine G_region ?_
  refine GL_step rfl (PS_loadA rfl tya34 (.tail _ (.head _)) (Lens.id Land.fl.len Land.fl.one) rfl) ?_
  refine GL_step rfl (PS_move rfl) ?_
  refine GL_pure rfl cf77 (.cons rfl (.cons rfl .nil)) (fun w hS => ref_RoomOf_spec _ _ w) ?_
  refine GL_step rfl (PS_move rfl) ?_
  refine GL_step rfl (PS_extract rfl rfl) ?_
  refine GL_step rfl (PS_extract rfl rfl) ?_
  refine GL_step rfl (PS_assign rfl) ?_
  refine GL_step rfl (PS_assign rfl) ?_
  refine GL_nil ?_
  refine GQ_sub (.cons (k := 1) rfl (.cons (k := 2) rfl (.cons (k := 5) rfl (.cons (k := 7) rfl (.cons (k := 8) rfl (.cons (k := 9) rfl (.cons (k := 23) rfl (.cons (k := 24) rfl (.nil _))))))))) ?_
  refine GQ_then ?_
  refine G_region ?_
  refine GL_step rfl (PS_move rfl) ?_
  refine GL_step rfl (PS_move rfl) ?_
  refine GL_gf (t := 35) rfl rfl rfl (fun q => PS_fieldAddr fa28_1 rfl) ?_
  refine GL_gf (t := 35) rfl rfl rfl (fun q => PS_load (cvE rfl (by rw [q]; rfl)) tys3 (.head _) Thing.l1 rfl rfl) ?_
  refine GL_gf (t := 35) rfl rfl rfl (fun q => PS_eql (cvE rfl (by rw [q]; rfl)) rfl) ?_
  refine GL_gf (t := 35) rfl rfl rfl (fun q => PS_move (cvE rfl (by rw [q]; rfl))) ?_
  refine GL_gtc (t := 39) rfl rfl rfl (fun qc q => PS_fieldAddr fa28_4 rfl) ?_
  refine GL_gtc (t := 39) rfl rfl rfl (fun qc q => PS_load (cvE rfl (by rw [qc, q]; rfl)) tys4 (.head _) Thing.l4 rfl rfl) ?_
  refine GL_gf (t := 35) rfl rfl rfl (fun q => PS_and (cvE rfl (by rw [q]; rfl)) rfl (fun h => by rw [q, h]; rfl)) ?_
  refine GL_gf (t := 35) rfl rfl rfl (fun q => PS_move (cvE rfl (by rw [q]; rfl))) ?_
  refine GL_gtc (t := 43) rfl rfl rfl (fun qc q => PS_move rfl) ?_
  refine GL_gf (t := 35) rfl rfl rfl (fun q => PS_and (cvE rfl (by rw [q]; rfl)) rfl (fun h => by rw [q, h]; rfl)) ?_
  refine GL_gf (t := 35) rfl rfl rfl (fun q => PS_move (cvE rfl (by rw [q]; rfl))) ?_
  refine GL_gtc (t := 46) rfl rfl rfl (fun qc q => PS_move rfl) ?_
  refine GL_gtc (t := 46) rfl rfl rfl (fun qc q => PS_move rfl) ?_
  refine GL_gtc (t := 46) rfl rfl rfl (fun qc q => PS_eql (cvE rfl (by rw [qc, q]; rfl)) (cvE rfl (by rw [qc, q]; rfl))) ?_
  refine GL_gf (t := 35) rfl rfl rfl (fun q => PS_and (cvE rfl (by rw [q]; rfl)) rfl (fun h => by rw [q, h]; rfl)) ?_
  refine GL_step rfl (PS_or rfl rfl (fun h => by rw [h]; rfl)) ?_
  refine GL_step rfl (PS_assign rfl) ?_
  refine GL_nil ?_
  refine GQ_sub (.cons (k := 1) rfl (.cons (k := 2) rfl (.cons (k := 5) rfl (.cons (k := 23) rfl (.cons (k := 24) rfl (.nil _)))))) ?_
  refine GQ_block ?_
  refine GQ_then ?_
  refine G_region ?_
  refine GL_step rfl (PS_add rfl rfl (IntWalk.i64_in _ (by omega))) ?_
  refine GL_step rfl (PS_move rfl) ?_
  refine GL_nil ?_
  refine GQ_sub (.cons (k := 1) rfl (.cons (k := 2) rfl (.cons (k := 5) rfl (.cons (k := 23) rfl (.cons (k := 24) rfl (.nil _)))))) ?_
  refine GQ_next2_ (k + 1) _ ?_ ?_ (.cons (k := 5) rfl (.cons (k := 24) rfl (.cons (k := 1) rfl (.cons (k := 2) rfl (.cons (k := 23) rfl (.nil _)))))) (.cons _ (.refl _))
  · exact ⟨by omega, by omega, hI13⟩
  · omega
 have c2p := kz c2
 try dsimp only at c2p
 obtain rfl : k = 9 := by omega
 refine G_exit ?_
 refine GQ_then_exit ?_
 refine GQ_then_exit ?_
 refine GQ_block_exit ?_
 refine GQ_sub (.cons (k := 5) rfl (.nil _)) ?_
 refine GQ_then ?_
 refine G_seq ?_
 refine G_region ?_
 refine GL_step rfl (PS_move rfl) ?_
 refine GL_step rfl (PS_assign rfl) ?_
 refine GL_nil ?_
 refine GQ_sub (.cons (k := 4) rfl (.nil _)) ?_
 refine GQ_then ?_
 refine G_ret ?_
 refine GQ_ret rfl (.tmp rfl .nil) ?_
 intro w1 hS; refine ⟨congrArg Value.bool ?_, hS.toKeep⟩; rw [Land.bright_eq c1, hI13]; show c = (c || !true); simp
theorem ref_IsHidden_spec (X : Land) (b : Int) (w : World) : Ret Tryz.prog 78 #[.agg X.enc.toArray, .int .i64 b] w fun v w' => v = .bool (X.hidden b) ∧ Keep w w' := by
 refine Ret_body [] [] Tryz.func78 rfl rfl rfl (St.start w []) ?_
 refine G_seq ?_
 refine G_region ?_
 refine GL_box rfl rfl rfl (fun b1 => ?_)
 refine GL_step rfl (PS_assign rfl) ?_
 refine GL_nil ?_
 refine GQ_sub (.cons (k := 1) rfl (.cons (k := 2) rfl (.nil _))) ?_
 refine GQ_then ?_
 refine G_seq ?_
 refine G_seq ?_
 refine G_region ?_
 refine GL_step rfl (PS_fieldAddr fa34_1 rfl) ?_
 refine GL_step rfl (PS_loadA rfl tya29 (.head _) Land.l1 rfl) ?_
 refine GL_step rfl (PS_move rfl) ?_
 refine GL_nil ?_
 refine GQ_sub (.cons (k := 1) rfl (.cons (k := 8) rfl (.cons (k := 9) rfl (.nil _)))) ?_
 refine GQ_then ?_
 refine G_block ?_
 refine G_subF (.cons (k := 9) rfl (.cons (k := 1) rfl (.cons (k := 8) rfl (.nil _)))) ?_
 refine G_loop1_ (fun (k : Int) => 0 ≤ k ∧ k ≤ 9 ∧ allFrom 9 (fun i => !X.cloaked b i) 9 = allFrom 9 (fun i => !X.cloaked b i) (9 - k).toNat) (fun (k : Int) => (9 - k).toNat) (fun (k : Int) => [(9, .int .i64 k)]) (fun (k : Int) => []) (0) ?_ rfl rfl (fun k hI1 => ?_)
 · exact ⟨by omega, by omega, rfl⟩
 obtain ⟨hI11, hI12, hI13⟩ := hI1
 refine G_seq ?_
 refine G_region ?_
 refine GL_step rfl (PS_lss rfl rfl) ?_
 refine GL_nil ?_
 refine GQ_then ?_
 refine G_seq ?_
 refine G_cond rfl (fun c1 => ?_) (fun c1 => ?_)
 ·
  have c1p := kz c1
  try dsimp only at c1p
  rw [allFrom_step _ (by omega)] at hI13
  refine G_skip ?_
  refine GQ_sub (.cons (k := 1) rfl (.cons (k := 8) rfl (.cons (k := 9) rfl (.nil _)))) ?_
  refine GQ_then ?_
  refine G_seq ?_
  refine G_block ?_
  refine G_seq ?_
  refine G_region ?_
  refine GL_step rfl (PS_indexAA Thing.fl Tryz.underlying29 tya28 rfl rfl (by omega) (by omega)) ?_
  refine GL_alloc rfl zv28 rfl (fun b2 => ?_)
  refine GL_unit (PU_store (Lens.id Thing.fl.len Thing.fl.one) rfl rfl rfl sz28 rfl .head) ?_
  refine GL_nil ?_
  refine GQ_sub (.cons (k := 1) rfl (.cons (k := 6) rfl (.cons (k := 8) rfl (.cons (k := 9) rfl (.nil _))))) ?_
  refine GQ_then ?_
  refine G_seq ?_
  refine G_region ?_
  refine GL_step rfl (PS_fieldAddr fa28_2 rfl) ?_
  refine GL_step rfl (PS_load rfl tys3 (.head _) Thing.l2 rfl rfl) ?_
  refine GL_step rfl (PS_eql rfl rfl) ?_
  refine GL_step rfl (PS_move rfl) ?_
  refine GL_gt (t := 15) rfl rfl rfl (fun q => PS_fieldAddr fa28_3 rfl) ?_
  refine GL_gt (t := 15) rfl rfl rfl (fun q => PS_load (cvE rfl q) tys3 (.head _) Thing.l3 rfl rfl) ?_
  refine GL_gt (t := 15) rfl rfl rfl (fun q => PS_move rfl) ?_
  refine GL_gt (t := 15) rfl rfl rfl (fun q => PS_eql (cvE rfl q) (cvE rfl q)) ?_
  refine GL_step rfl (PS_and rfl rfl (fun h => h)) ?_
  refine GL_step rfl (PS_move rfl) ?_
  refine GL_gt (t := 21) rfl rfl rfl (fun q => PS_fieldAddr fa28_1 rfl) ?_
  refine GL_gt (t := 21) rfl rfl rfl (fun q => PS_load (cvE rfl q) tys3 (.head _) Thing.l1 rfl rfl) ?_
  refine GL_gt (t := 21) rfl rfl rfl (fun q => PS_eql (cvE rfl q) rfl) ?_
  refine GL_step rfl (PS_and rfl rfl (fun h => h)) ?_
  refine GL_step rfl (PS_move rfl) ?_
  refine GL_gt (t := 26) rfl rfl rfl (fun q => PS_fieldAddr fa28_4 rfl) ?_
  refine GL_gt (t := 26) rfl rfl rfl (fun q => PS_load (cvE rfl q) tys4 (.head _) Thing.l4 rfl rfl) ?_
  refine GL_step rfl (PS_and rfl rfl (fun h => h)) ?_
  refine GL_nil ?_
  refine GQ_sub (.cons (k := 1) rfl (.cons (k := 8) rfl (.cons (k := 9) rfl (.cons (k := 29) rfl (.nil _))))) ?_
  refine GQ_then ?_
  refine G_cond rfl (fun c2 => ?_) (fun c2 => ?_)
  ·
   have c2p := kz c2
   try dsimp only at c2p
   refine G_seq ?_
   refine G_region ?_
   refine GL_step rfl (PS_assign rfl) ?_
   refine GL_nil ?_
   refine GQ_sub (.cons (k := 4) rfl (.nil _)) ?_
   refine GQ_then ?_
   refine G_ret ?_
   refine GQ_block_ret ?_
   refine GQ_then_ret ?_
   refine GQ_then_ret ?_
   refine GQ_block_ret ?_
   refine GQ_then_ret ?_
   refine GQ_ret rfl (.tmp rfl .nil) ?_
   intro w1 hS; refine ⟨congrArg Value.bool ?_, hS.toKeep⟩; rw [Land.hidden, hI13, show X.cloaked b k = true from (Land.cloaked_eq _ _ _).trans c2]; rfl
  have c2p := kz c2
  try dsimp only at c2p
  refine G_skip ?_
  refine GQ_sub (.cons (k := 1) rfl (.cons (k := 8) rfl (.cons (k := 9) rfl (.nil _)))) ?_
  refine GQ_block ?_
  refine GQ_then ?_
  refine G_region ?_
  refine GL_step rfl (PS_add rfl rfl (IntWalk.i64_in _ (by omega))) ?_
  refine GL_step rfl (PS_move rfl) ?_
  refine GL_nil ?_
  refine GQ_sub (.cons (k := 1) rfl (.cons (k := 8) rfl (.cons (k := 9) rfl (.nil _)))) ?_
  refine GQ_next1_ (k + 1) ?_ ?_ (.cons (k := 9) rfl (.cons (k := 1) rfl (.cons (k := 8) rfl (.nil _)))) (.cons _ (.refl _))
  · exact ⟨by omega, by omega, by rw [hI13, show X.cloaked b k = false from (Land.cloaked_eq _ _ _).trans c2]; rfl⟩
  · omega
 have c1p := kz c1
 try dsimp only at c1p
 obtain rfl : k = 9 := by omega
 refine G_exit ?_
 refine GQ_then_exit ?_
 refine GQ_then_exit ?_
 refine GQ_block_exit ?_
 refine GQ_sub (.nil _) ?_
 refine GQ_then ?_
 refine G_seq ?_
 refine G_region ?_
 refine GL_step rfl (PS_assign rfl) ?_
 refine GL_nil ?_
 refine GQ_then ?_
 refine G_ret ?_
 refine GQ_ret rfl (.tmp rfl .nil) ?_
 intro w1 hS; refine ⟨congrArg Value.bool ?_, hS.toKeep⟩; rw [Land.hidden, hI13]; rfl
theorem ref_IsSeen_spec (X : Land) (a b : Int) (w : World) : Ret Tryz.prog 53 #[.agg X.enc.toArray, .int .i64 a, .int .i64 b] w fun v w' => v = .bool (X.sees a b) ∧ Keep w w' := by
 refine Ret_body [] [] Tryz.func53 rfl rfl rfl (St.start w []) ?_
 refine G_seq ?_
 refine G_region ?_
 refine GL_box rfl rfl rfl (fun b1 => ?_)
 refine GL_step rfl (PS_assign rfl) ?_
 refine GL_nil ?_
 refine GQ_sub (.cons (k := 1) rfl (.cons (k := 2) rfl (.cons (k := 3) rfl (.nil _)))) ?_
 refine GQ_then ?_
 refine G_seq ?_
 refine G_seq ?_
 refine G_region ?_
 refine GL_step rfl (PS_loadA rfl tya34 (.head _) (Lens.id Land.fl.len Land.fl.one) rfl) ?_
 refine GL_step rfl (PS_move rfl) ?_
 refine GL_pure rfl cf25 (.cons rfl (.cons rfl .nil)) (fun w hS => ref_about_spec _ _ w) ?_
 refine GL_step rfl (PS_not rfl) ?_
 refine GL_step rfl (PS_move rfl) ?_
 refine GL_gf (t := 11) rfl rfl rfl (fun q => PS_loadA rfl tya34 (.head _) (Lens.id Land.fl.len Land.fl.one) rfl) ?_
 refine GL_gf (t := 11) rfl rfl rfl (fun q => PS_move rfl) ?_
 refine GL_pgf (t := 11) rfl rfl rfl (fun q => by have q1 := q; (try simp at q1); exact PC_of cf25 (.cons (cvE rfl (by rw [q]; rfl)) (.cons (cvE rfl (by rw [q]; rfl)) .nil)) (fun w hS => ref_about_spec _ _ w)) ?_
 refine GL_gf (t := 11) rfl rfl rfl (fun q => PS_not (cvE rfl (by rw [q]; rfl))) ?_
 refine GL_step rfl (PS_or rfl rfl (fun h => by rw [h]; rfl)) ?_
 refine GL_nil ?_
 refine GQ_sub (.cons (k := 1) rfl (.cons (k := 2) rfl (.cons (k := 3) rfl (.cons (k := 16) rfl (.nil _))))) ?_
 refine GQ_then ?_
 refine G_cond rfl (fun c1 => ?_) (fun c1 => ?_)
 ·
  have c1p := kz c1
  try dsimp only at c1p
  refine G_seq ?_
  refine G_region ?_
  refine GL_step rfl (PS_assign rfl) ?_
  refine GL_nil ?_
  refine GQ_sub (.cons (k := 6) rfl (.nil _)) ?_
  refine GQ_then ?_
  refine G_ret ?_
  refine GQ_then_ret ?_
  refine GQ_ret rfl (.tmp rfl .nil) ?_
  intro w1 hS; refine ⟨congrArg Value.bool ?_, hS.toKeep⟩; rw [Land.sees_out c1]
 have c1p := kz c1
 try dsimp only at c1p
 have hr : (0 ≤ a ∧ a < 6) ∧ 0 ≤ b ∧ b < 6 := by simp at c1; have h1 := Land.being_rng c1.1; have h2 := Land.being_rng c1.2; omega
 refine G_skip ?_
 refine GQ_sub (.cons (k := 1) rfl (.cons (k := 2) rfl (.cons (k := 3) rfl (.nil _)))) ?_
 refine GQ_then ?_
 refine G_seq ?_
 refine G_planN (N := 39) [0, 0, 3, 7, 15, 15, 63, 127, 255, 15, 15, 1551, 3599, 7695, 16383, 32767, 65535, 65535, 65535, 458751, 983039, 2031615, 4194303, 8388607, 16777215, 33554431, 33554431, 134217727, 268435455, 536870911, 1073741823, 1073741823, 4294967295, 8589934591, 17179869183, 34359738367, 68719476735, 137438953471, 274877906943] mix (by kernel_rfl) rfl ?_
 refine Plan_float 0 rfl rfl (by kernel_rfl) (OK_s (EX_s (PS_move rfl))) ?_
 refine Plan_float 1 rfl rfl (by kernel_rfl) (OK_s (EX_s (PS_move rfl))) ?_
 refine Plan_float 2 rfl rfl (by kernel_rfl) (OK_s (EX_s (PS_eql rfl rfl))) ?_
 refine Plan_float 3 rfl rfl (by kernel_rfl) (OK_s (EX_s (PS_move rfl))) ?_
 refine Plan_float 4 rfl rfl (by kernel_rfl) (OK_gf (t := 20) rfl rfl (fun q => EX_s (PS_move rfl))) ?_
 refine Plan_float 5 rfl rfl (by kernel_rfl) (OK_gf (t := 20) rfl rfl (fun q => EX_s (PS_fieldAddr fa34_2 rfl))) ?_
 refine Plan_float 6 rfl rfl (by kernel_rfl) (OK_gf (t := 20) rfl rfl (fun q => by have q1 := q; (try simp at q1); exact EX_s (PS_indexAddr ia32 (cvE rfl (by rw [q]; rfl)) (cvE rfl (by rw [q]; rfl)) (by omega) (by omega)))) ?_
 refine Plan_float 7 rfl rfl (by kernel_rfl) (OK_gf (t := 20) rfl rfl (fun q => EX_s (PS_fieldAddr fa31_3 (cvE rfl (by rw [q]; rfl))))) ?_
 refine Plan_float 8 rfl rfl (by kernel_rfl) (OK_gf (t := 20) rfl rfl (fun q => by have q1 := q; (try simp at q1); exact EX_s (PS_load (cvE rfl (by rw [q]; rfl)) tys3 (.head _) ((Land.l2.comp (Lens.arr (n := 6) Being.fl (by omega) (by omega))).comp Being.l3) rfl rfl))) ?_
 refine Plan_float 9 rfl rfl (by kernel_rfl) (OK_gf (t := 20) rfl rfl (fun q => EX_s (PS_move rfl))) ?_
 refine Plan_float 10 rfl rfl (by kernel_rfl) (OK_gf (t := 20) rfl rfl (fun q => EX_s (PS_fieldAddr fa34_2 rfl))) ?_
 refine Plan_float 11 rfl rfl (by kernel_rfl) (OK_gf (t := 20) rfl rfl (fun q => by have q1 := q; (try simp at q1); exact EX_s (PS_indexAddr ia32 (cvE rfl (by rw [q]; rfl)) (cvE rfl (by rw [q]; rfl)) (by omega) (by omega)))) ?_
 refine Plan_float 12 rfl rfl (by kernel_rfl) (OK_gf (t := 20) rfl rfl (fun q => EX_s (PS_fieldAddr fa31_3 (cvE rfl (by rw [q]; rfl))))) ?_
 refine Plan_float 13 rfl rfl (by kernel_rfl) (OK_gf (t := 20) rfl rfl (fun q => by have q1 := q; (try simp at q1); exact EX_s (PS_load (cvE rfl (by rw [q]; rfl)) tys3 (.head _) ((Land.l2.comp (Lens.arr (n := 6) Being.fl (by omega) (by omega))).comp Being.l3) rfl rfl))) ?_
 refine Plan_float 14 rfl rfl (by kernel_rfl) (OK_gf (t := 20) rfl rfl (fun q => EX_s (PS_eql (cvE rfl (by rw [q]; rfl)) (cvE rfl (by rw [q]; rfl))))) ?_
 refine Plan_float 15 rfl rfl (by kernel_rfl) (OK_gf (t := 20) rfl rfl (fun q => EX_s (PS_move (cvE rfl (by rw [q]; rfl))))) ?_
 refine Plan_float 16 rfl rfl (by kernel_rfl) (OK_gtc (t := 32) rfl rfl (fun qc q => EX_s (PS_loadA rfl tya34 (.head _) (Lens.id Land.fl.len Land.fl.one) rfl))) ?_
 refine Plan_float 17 rfl rfl (by kernel_rfl) (OK_gtc (t := 32) rfl rfl (fun qc q => EX_s (PS_move rfl))) ?_
 refine Plan_float 18 rfl rfl (by kernel_rfl) (OK_gtc (t := 32) rfl rfl (fun qc q => EX_s (PS_fieldAddr fa34_2 rfl))) ?_
 refine Plan_float 19 rfl rfl (by kernel_rfl) (OK_gtc (t := 32) rfl rfl (fun qc q => by have q1 := q; have qc1 := qc; (try simp at q1 qc1); exact EX_s (PS_indexAddr ia32 (cvE rfl (by rw [qc, q]; rfl)) (cvE rfl (by rw [qc, q]; rfl)) (by omega) (by omega)))) ?_
 refine Plan_float 20 rfl rfl (by kernel_rfl) (OK_gtc (t := 32) rfl rfl (fun qc q => EX_s (PS_fieldAddr fa31_3 (cvE rfl (by rw [qc, q]; rfl))))) ?_
 refine Plan_float 21 rfl rfl (by kernel_rfl) (OK_gtc (t := 32) rfl rfl (fun qc q => by have q1 := q; have qc1 := qc; (try simp at q1 qc1); exact EX_s (PS_load (cvE rfl (by rw [qc, q]; rfl)) tys3 (.head _) ((Land.l2.comp (Lens.arr (n := 6) Being.fl (by omega) (by omega))).comp Being.l3) rfl rfl))) ?_
 refine Plan_float 22 rfl rfl (by kernel_rfl) (OK_gtc (t := 32) rfl rfl (fun qc q => by have q1 := q; have qc1 := qc; (try simp at q1 qc1); exact EX_c (PC_of cf50 (.cons (cvE rfl (by rw [qc, q]; rfl)) (.cons (cvE rfl (by rw [qc, q]; rfl)) .nil)) (fun w hS => ref_IsBright_spec _ _ w)))) ?_
 refine Plan_float 23 rfl rfl (by kernel_rfl) (OK_gf (t := 20) rfl rfl (fun q => EX_s (PS_and (cvE rfl (by rw [q]; rfl)) rfl (fun h => by rw [q, h]; rfl)))) ?_
 refine Plan_float 24 rfl rfl (by kernel_rfl) (OK_gf (t := 20) rfl rfl (fun q => EX_s (PS_move (cvE rfl (by rw [q]; rfl))))) ?_
 refine Plan_float 25 rfl rfl (by kernel_rfl) (OK_gtc (t := 41) rfl rfl (fun qc q => EX_s (PS_loadA rfl tya34 (.head _) (Lens.id Land.fl.len Land.fl.one) rfl))) ?_
 refine Plan_float 26 rfl rfl (by kernel_rfl) (OK_gtc (t := 41) rfl rfl (fun qc q => EX_s (PS_move rfl))) ?_
 refine Plan_float 27 rfl rfl (by kernel_rfl) (OK_gtc (t := 41) rfl rfl (fun qc q => by have q1 := q; have qc1 := qc; (try simp at q1 qc1); exact EX_c (PC_of cf78 (.cons (cvE rfl (by rw [qc, q]; rfl)) (.cons (cvE rfl (by rw [qc, q]; rfl)) .nil)) (fun w hS => ref_IsHidden_spec _ _ w)))) ?_
 refine Plan_float 28 rfl rfl (by kernel_rfl) (OK_gtc (t := 41) rfl rfl (fun qc q => EX_s (PS_not (cvE rfl (by rw [qc, q]; rfl))))) ?_
 refine Plan_float 29 rfl rfl (by kernel_rfl) (OK_gtc (t := 41) rfl rfl (fun qc q => EX_s (PS_move (cvE rfl (by rw [qc, q]; rfl))))) ?_
 refine Plan_float 30 rfl rfl (by kernel_rfl) (OK_gfc (t := 46) rfl rfl (fun qc q => EX_s (PS_move rfl))) ?_
 refine Plan_float 31 rfl rfl (by kernel_rfl) (OK_gfc (t := 46) rfl rfl (fun qc q => EX_s (PS_fieldAddr fa34_2 rfl))) ?_
 refine Plan_float 32 rfl rfl (by kernel_rfl) (OK_gfc (t := 46) rfl rfl (fun qc q => by have q1 := q; have qc1 := qc; (try simp at q1 qc1); exact EX_s (PS_indexAddr ia32 (cvE rfl (by rw [qc, q]; rfl)) (cvE rfl (by rw [qc, q]; rfl)) (by omega) (by omega)))) ?_
 refine Plan_float 33 rfl rfl (by kernel_rfl) (OK_gfc (t := 46) rfl rfl (fun qc q => EX_s (PS_fieldAddr fa31_2 (cvE rfl (by rw [qc, q]; rfl))))) ?_
 refine Plan_float 34 rfl rfl (by kernel_rfl) (OK_gfc (t := 46) rfl rfl (fun qc q => by have q1 := q; have qc1 := qc; (try simp at q1 qc1); exact EX_s (PS_load (cvE rfl (by rw [qc, q]; rfl)) tys4 (.head _) ((Land.l2.comp (Lens.arr (n := 6) Being.fl (by omega) (by omega))).comp Being.l2) rfl rfl))) ?_
 refine Plan_float 35 rfl rfl (by kernel_rfl) (OK_gtc (t := 41) rfl rfl (fun qc q => EX_s (PS_or (cvE rfl (by rw [qc, q]; rfl)) rfl (fun h => by rw [qc, q, h]; rfl)))) ?_
 refine Plan_float 36 rfl rfl (by kernel_rfl) (OK_gf (t := 20) rfl rfl (fun q => EX_s (PS_and (cvE rfl (by rw [q]; rfl)) rfl (fun h => by rw [q, h]; rfl)))) ?_
 refine Plan_float 37 rfl rfl (by kernel_rfl) (OK_s (EX_s (PS_or rfl rfl (fun h => by rw [h]; rfl)))) ?_
 refine Plan_float 38 rfl rfl (by kernel_rfl) (OK_s (EX_s (PS_assign rfl))) ?_
 refine Plan_end (by kernel_rfl) ?_
 refine GQ_sub (.cons (k := 6) rfl (.nil _)) ?_
 refine GQ_then ?_
 refine G_ret ?_
 refine GQ_ret rfl (.tmp rfl .nil) ?_
 intro w1 hS; refine ⟨congrArg Value.bool ?_, hS.toKeep⟩; rw [Land.sees_eq c1]
theorem ref_Perceived_spec (X : Land) (b : Int) (e : Ing.Event) (w : World) : Ret Tryz.prog 76 #[.agg X.enc.toArray, .int .i64 b, .agg e.enc.toArray] w fun v w' => v = .int .i64 (X.perceives b e) ∧ Keep w w' := by
 refine Ret_body [] [] Tryz.func76 rfl rfl rfl (St.start w []) ?_
 refine G_seq ?_
 refine G_region ?_
 refine GL_box rfl rfl rfl (fun b1 => ?_)
 refine GL_box rfl rfl rfl (fun b2 => ?_)
 refine GL_step rfl (PS_assign rfl) ?_
 refine GL_nil ?_
 refine GQ_sub (.cons (k := 1) rfl (.cons (k := 3) rfl (.cons (k := 5) rfl (.nil _)))) ?_
 refine GQ_then ?_
 refine G_seq ?_
 refine G_seq ?_
 refine G_region ?_
 refine GL_step rfl (PS_loadA rfl tya34 (.tail _ (.head _)) (Lens.id Land.fl.len Land.fl.one) rfl) ?_
 refine GL_step rfl (PS_move rfl) ?_
 refine GL_pure rfl cf25 (.cons rfl (.cons rfl .nil)) (fun w hS => ref_about_spec _ _ w) ?_
 refine GL_step rfl (PS_not rfl) ?_
 refine GL_nil ?_
 refine GQ_sub (.cons (k := 1) rfl (.cons (k := 3) rfl (.cons (k := 5) rfl (.cons (k := 12) rfl (.nil _))))) ?_
 refine GQ_then ?_
 refine G_cond rfl (fun c1 => ?_) (fun c1 => ?_)
 ·
  have c1p := kz c1
  try dsimp only at c1p
  refine G_seq ?_
  refine G_region ?_
  refine GL_step rfl (PS_assign rfl) ?_
  refine GL_nil ?_
  refine GQ_sub (.cons (k := 6) rfl (.nil _)) ?_
  refine GQ_then ?_
  refine G_ret ?_
  refine GQ_then_ret ?_
  refine GQ_ret rfl (.tmp rfl .nil) ?_
  intro w1 hS; refine ⟨?_, hS.toKeep⟩; rw [← Land.perceivesR_eq, show X.perceivesR b e = _ from (if_t c1)]; rfl
 have c1p := kz c1
 try dsimp only at c1p
 have hr : 0 ≤ b ∧ b < 6 := by simp at c1; have h1 := Land.being_rng c1; omega
 refine G_skip ?_
 refine GQ_sub (.cons (k := 1) rfl (.cons (k := 3) rfl (.cons (k := 5) rfl (.nil _)))) ?_
 refine GQ_then ?_
 refine G_seq ?_
 refine G_region ?_
 refine GL_step rfl (PS_move rfl) ?_
 refine GL_step rfl (PS_fieldAddr fa60_2 rfl) ?_
 refine GL_step rfl (PS_load rfl tys3 (.head _) Ing.Event.l2 rfl rfl) ?_
 refine GL_step rfl (PS_eql rfl rfl) ?_
 refine GL_step rfl (PS_assign rfl) ?_
 refine GL_nil ?_
 refine GQ_sub (.cons (k := 1) rfl (.cons (k := 3) rfl (.cons (k := 5) rfl (.cons (k := 7) rfl (.nil _))))) ?_
 refine GQ_then ?_
 refine G_seq ?_
 refine G_seq ?_
 refine G_planN (N := 17) [0, 1, 3, 7, 15, 31, 63, 127, 127, 511, 1023, 2047, 127, 4223, 16383, 32767, 65535] mix (by kernel_rfl) rfl ?_
 refine Plan_float 0 rfl rfl (by kernel_rfl) (OK_s (EX_s (PS_move rfl))) ?_
 refine Plan_float 1 rfl rfl (by kernel_rfl) (OK_s (EX_s (PS_not rfl))) ?_
 refine Plan_float 2 rfl rfl (by kernel_rfl) (OK_s (EX_s (PS_move rfl))) ?_
 refine Plan_float 3 rfl rfl (by kernel_rfl) (OK_gt (t := 19) rfl rfl (fun q => EX_s (PS_fieldAddr fa60_0 rfl))) ?_
 refine Plan_float 4 rfl rfl (by kernel_rfl) (OK_gt (t := 19) rfl rfl (fun q => EX_s (PS_load (cvE rfl q) tys3 (.head _) Ing.Event.l0 rfl rfl))) ?_
 refine Plan_float 5 rfl rfl (by kernel_rfl) (OK_gt (t := 19) rfl rfl (fun q => EX_s (PS_eql (cvE rfl q) rfl))) ?_
 refine Plan_float 6 rfl rfl (by kernel_rfl) (OK_gt (t := 19) rfl rfl (fun q => EX_s (PS_move (cvE rfl q)))) ?_
 refine Plan_float 7 rfl rfl (by kernel_rfl) (OK_gfc (t := 23) rfl rfl (fun qc q => EX_s (PS_move rfl))) ?_
 refine Plan_float 8 rfl rfl (by kernel_rfl) (OK_gfc (t := 23) rfl rfl (fun qc q => EX_s (PS_fieldAddr fa34_2 rfl))) ?_
 refine Plan_float 9 rfl rfl (by kernel_rfl) (OK_gfc (t := 23) rfl rfl (fun qc q => by have q1 := q; have qc1 := qc; (try simp at q1 qc1); exact EX_s (PS_indexAddr ia32 (cvE rfl (by rw [qc, q]; rfl)) (cvE rfl (by rw [qc, q]; rfl)) (by omega) (by omega)))) ?_
 refine Plan_float 10 rfl rfl (by kernel_rfl) (OK_gfc (t := 23) rfl rfl (fun qc q => EX_s (PS_fieldAddr fa31_3 (cvE rfl (by rw [qc, q]; rfl))))) ?_
 refine Plan_float 11 rfl rfl (by kernel_rfl) (OK_gfc (t := 23) rfl rfl (fun qc q => by have q1 := q; have qc1 := qc; (try simp at q1 qc1); exact EX_s (PS_load (cvE rfl (by rw [qc, q]; rfl)) tys3 (.tail _ (.head _)) ((Land.l2.comp (Lens.arr (n := 6) Being.fl (by omega) (by omega))).comp Being.l3) rfl rfl))) ?_
 refine Plan_float 12 rfl rfl (by kernel_rfl) (OK_gfc (t := 23) rfl rfl (fun qc q => EX_s (PS_fieldAddr fa60_1 rfl))) ?_
 refine Plan_float 13 rfl rfl (by kernel_rfl) (OK_gfc (t := 23) rfl rfl (fun qc q => EX_s (PS_load (cvE rfl (by rw [qc, q]; rfl)) tys3 (.head _) Ing.Event.l1 rfl rfl))) ?_
 refine Plan_float 14 rfl rfl (by kernel_rfl) (OK_gfc (t := 23) rfl rfl (fun qc q => EX_s (PS_neq (cvE rfl (by rw [qc, q]; rfl)) (cvE rfl (by rw [qc, q]; rfl))))) ?_
 refine Plan_float 15 rfl rfl (by kernel_rfl) (OK_gt (t := 19) rfl rfl (fun q => EX_s (PS_or (cvE rfl q) rfl (fun h => by rw [q, h]; rfl)))) ?_
 refine Plan_float 16 rfl rfl (by kernel_rfl) (OK_s (EX_s (PS_and rfl rfl (fun h => h)))) ?_
 refine Plan_end (by kernel_rfl) ?_
 refine GQ_sub (.cons (k := 1) rfl (.cons (k := 3) rfl (.cons (k := 5) rfl (.cons (k := 7) rfl (.cons (k := 33) rfl (.nil _)))))) ?_
 refine GQ_then ?_
 refine G_cond rfl (fun c2 => ?_) (fun c2 => ?_)
 ·
  have c2p := kz c2
  try dsimp only at c2p
  refine G_seq ?_
  refine G_region ?_
  refine GL_step rfl (PS_assign rfl) ?_
  refine GL_nil ?_
  refine GQ_sub (.cons (k := 6) rfl (.nil _)) ?_
  refine GQ_then ?_
  refine G_ret ?_
  refine GQ_then_ret ?_
  refine GQ_ret rfl (.tmp rfl .nil) ?_
  intro w1 hS; refine ⟨?_, hS.toKeep⟩; rw [← Land.perceivesR_eq, show X.perceivesR b e = _ from ((if_f c1).trans (if_t c2))]; rfl
 have c2p := kz c2
 try dsimp only at c2p
 refine G_skip ?_
 refine GQ_sub (.cons (k := 1) rfl (.cons (k := 3) rfl (.cons (k := 5) rfl (.cons (k := 7) rfl (.nil _))))) ?_
 refine GQ_then ?_
 refine G_seq ?_
 refine G_region ?_
 refine GL_step rfl (PS_assign rfl) ?_
 refine GL_nil ?_
 refine GQ_then ?_
 refine G_seq ?_
 refine G_seq ?_
 refine G_region ?_
 refine GL_step rfl (PS_move rfl) ?_
 refine GL_step rfl (PS_not rfl) ?_
 refine GL_step rfl (PS_move rfl) ?_
 refine GL_gt (t := 36) rfl rfl rfl (fun q => PS_loadA rfl tya34 (.tail _ (.head _)) (Lens.id Land.fl.len Land.fl.one) rfl) ?_
 refine GL_gt (t := 36) rfl rfl rfl (fun q => PS_move rfl) ?_
 refine GL_gt (t := 36) rfl rfl rfl (fun q => PS_fieldAddr fa60_2 rfl) ?_
 refine GL_gt (t := 36) rfl rfl rfl (fun q => PS_load (cvE rfl q) tys3 (.head _) Ing.Event.l2 rfl rfl) ?_
 refine GL_pgt (t := 36) rfl rfl rfl (fun q => PC_of cf53 (.cons (cvE rfl q) (.cons (cvE rfl q) (.cons (cvE rfl q) .nil))) (fun w hS => ref_IsSeen_spec _ _ _ w)) ?_
 refine GL_gt (t := 36) rfl rfl rfl (fun q => PS_not (cvE rfl q)) ?_
 refine GL_step rfl (PS_and rfl rfl (fun h => h)) ?_
 refine GL_nil ?_
 refine GQ_sub (.cons (k := 1) rfl (.cons (k := 3) rfl (.cons (k := 5) rfl (.cons (k := 8) rfl (.cons (k := 43) rfl (.nil _)))))) ?_
 refine GQ_then ?_
 refine G_cond rfl (fun c3 => ?_) (fun c3 => ?_)
 ·
  have c3p := kz c3
  try dsimp only at c3p
  refine G_seq ?_
  refine G_seq ?_
  refine G_region ?_
  refine GL_step rfl (PS_fieldAddr fa60_0 rfl) ?_
  refine GL_step rfl (PS_load rfl tys3 (.head _) Ing.Event.l0 rfl rfl) ?_
  refine GL_step rfl (PS_neq rfl rfl) ?_
  refine GL_step rfl (PS_move rfl) ?_
  refine GL_gt (t := 47) rfl rfl rfl (fun q => PS_fieldAddr fa60_0 rfl) ?_
  refine GL_gt (t := 47) rfl rfl rfl (fun q => PS_load (cvE rfl q) tys3 (.head _) Ing.Event.l0 rfl rfl) ?_
  refine GL_gt (t := 47) rfl rfl rfl (fun q => PS_neq (cvE rfl q) rfl) ?_
  refine GL_step rfl (PS_and rfl rfl (fun h => h)) ?_
  refine GL_step rfl (PS_move rfl) ?_
  refine GL_gt (t := 52) rfl rfl rfl (fun q => PS_fieldAddr fa60_0 rfl) ?_
  refine GL_gt (t := 52) rfl rfl rfl (fun q => PS_load (cvE rfl q) tys3 (.head _) Ing.Event.l0 rfl rfl) ?_
  refine GL_gt (t := 52) rfl rfl rfl (fun q => PS_neq (cvE rfl q) rfl) ?_
  refine GL_step rfl (PS_and rfl rfl (fun h => h)) ?_
  refine GL_nil ?_
  refine GQ_sub (.cons (k := 1) rfl (.cons (k := 3) rfl (.cons (k := 5) rfl (.cons (k := 56) rfl (.nil _))))) ?_
  refine GQ_then ?_
  refine G_cond rfl (fun c4 => ?_) (fun c4 => ?_)
  ·
   have c4p := kz c4
   try dsimp only at c4p
   refine G_seq ?_
   refine G_region ?_
   refine GL_step rfl (PS_assign rfl) ?_
   refine GL_nil ?_
   refine GQ_sub (.cons (k := 6) rfl (.nil _)) ?_
   refine GQ_then ?_
   refine G_ret ?_
   refine GQ_then_ret ?_
   refine GQ_then_ret ?_
   refine GQ_ret rfl (.tmp rfl .nil) ?_
   intro w1 hS; refine ⟨?_, hS.toKeep⟩; rw [← Land.perceivesR_eq, show X.perceivesR b e = _ from ((if_f c1).trans ((if_f c2).trans ((if_t c3).trans (if_t c4))))]; rfl
  have c4p := kz c4
  try dsimp only at c4p
  refine G_skip ?_
  refine GQ_sub (.cons (k := 1) rfl (.cons (k := 3) rfl (.cons (k := 5) rfl (.nil _)))) ?_
  refine GQ_then ?_
  refine G_region ?_
  refine GL_step rfl (PS_assign rfl) ?_
  refine GL_nil ?_
  refine GQ_then ?_
  refine G_seq ?_
  refine G_seq ?_
  refine G_region ?_
  refine GL_step rfl (PS_fieldAddr fa60_3 rfl) ?_
  refine GL_step rfl (PS_load rfl tys3 (.head _) Ing.Event.l3 rfl rfl) ?_
  refine GL_step rfl (PS_geq rfl rfl) ?_
  refine GL_step rfl (PS_move rfl) ?_
  refine GL_gt (t := 60) rfl rfl rfl (fun q => PS_fieldAddr fa60_3 rfl) ?_
  refine GL_gt (t := 60) rfl rfl rfl (fun q => PS_load (cvE rfl q) tys3 (.head _) Ing.Event.l3 rfl rfl) ?_
  refine GL_gt (t := 60) rfl rfl rfl (fun q => PS_lss (cvE rfl q) rfl) ?_
  refine GL_step rfl (PS_and rfl rfl (fun h => h)) ?_
  refine GL_step rfl (PS_move rfl) ?_
  refine GL_gt (t := 65) rfl rfl rfl (fun q => PS_loadA rfl tya34 (.tail _ (.head _)) (Lens.id Land.fl.len Land.fl.one) rfl) ?_
  refine GL_gt (t := 65) rfl rfl rfl (fun q => PS_move rfl) ?_
  refine GL_gt (t := 65) rfl rfl rfl (fun q => PS_fieldAddr fa60_3 rfl) ?_
  refine GL_gt (t := 65) rfl rfl rfl (fun q => PS_load (cvE rfl q) tys3 (.head _) Ing.Event.l3 rfl rfl) ?_
  refine GL_pgt (t := 65) rfl rfl rfl (fun q => PC_of cf53 (.cons (cvE rfl q) (.cons (cvE rfl q) (.cons (cvE rfl q) .nil))) (fun w hS => ref_IsSeen_spec _ _ _ w)) ?_
  refine GL_gt (t := 65) rfl rfl rfl (fun q => PS_not (cvE rfl q)) ?_
  refine GL_step rfl (PS_and rfl rfl (fun h => h)) ?_
  refine GL_nil ?_
  refine GQ_sub (.cons (k := 8) rfl (.cons (k := 72) rfl (.nil _))) ?_
  refine GQ_then ?_
  refine G_cond rfl (fun c5 => ?_) (fun c5 => ?_)
  ·
   have c5p := kz c5
   try dsimp only at c5p
   refine G_region ?_
   refine GL_step rfl (PS_move rfl) ?_
   refine GL_step rfl (PS_add rfl rfl (IntWalk.i64_in _ (by omega))) ?_
   refine GL_step rfl (PS_assign rfl) ?_
   refine GL_nil ?_
   refine GQ_sub (.cons (k := 8) rfl (.nil _)) ?_
   refine GQ_then ?_
   refine G_seq ?_
   refine G_region ?_
   refine GL_step rfl (PS_move rfl) ?_
   refine GL_step rfl (PS_assign rfl) ?_
   refine GL_nil ?_
   refine GQ_sub (.cons (k := 6) rfl (.nil _)) ?_
   refine GQ_then ?_
   refine G_ret ?_
   refine GQ_ret rfl (.tmp rfl .nil) ?_
   intro w1 hS; refine ⟨?_, hS.toKeep⟩; rw [← Land.perceivesR_eq, show X.perceivesR b e = _ from ((if_f c1).trans ((if_f c2).trans ((if_t c3).trans ((if_f c4).trans (if_t c5)))))]; rfl
  have c5p := kz c5
  try dsimp only at c5p
  refine G_skip ?_
  refine GQ_sub (.cons (k := 8) rfl (.nil _)) ?_
  refine GQ_then ?_
  refine G_seq ?_
  refine G_region ?_
  refine GL_step rfl (PS_move rfl) ?_
  refine GL_step rfl (PS_assign rfl) ?_
  refine GL_nil ?_
  refine GQ_sub (.cons (k := 6) rfl (.nil _)) ?_
  refine GQ_then ?_
  refine G_ret ?_
  refine GQ_ret rfl (.tmp rfl .nil) ?_
  intro w1 hS; refine ⟨?_, hS.toKeep⟩; rw [← Land.perceivesR_eq, show X.perceivesR b e = _ from ((if_f c1).trans ((if_f c2).trans ((if_t c3).trans ((if_f c4).trans (if_f c5)))))]; rfl
 have c3p := kz c3
 try dsimp only at c3p
 refine G_skip ?_
 refine GQ_sub (.cons (k := 1) rfl (.cons (k := 3) rfl (.cons (k := 5) rfl (.cons (k := 8) rfl (.nil _))))) ?_
 refine GQ_then ?_
 refine G_seq ?_
 refine G_seq ?_
 refine G_region ?_
 refine GL_step rfl (PS_fieldAddr fa60_3 rfl) ?_
 refine GL_step rfl (PS_load rfl tys3 (.head _) Ing.Event.l3 rfl rfl) ?_
 refine GL_step rfl (PS_geq rfl rfl) ?_
 refine GL_step rfl (PS_move rfl) ?_
 refine GL_gt (t := 60) rfl rfl rfl (fun q => PS_fieldAddr fa60_3 rfl) ?_
 refine GL_gt (t := 60) rfl rfl rfl (fun q => PS_load (cvE rfl q) tys3 (.head _) Ing.Event.l3 rfl rfl) ?_
 refine GL_gt (t := 60) rfl rfl rfl (fun q => PS_lss (cvE rfl q) rfl) ?_
 refine GL_step rfl (PS_and rfl rfl (fun h => h)) ?_
 refine GL_step rfl (PS_move rfl) ?_
 refine GL_gt (t := 65) rfl rfl rfl (fun q => PS_loadA rfl tya34 (.tail _ (.head _)) (Lens.id Land.fl.len Land.fl.one) rfl) ?_
 refine GL_gt (t := 65) rfl rfl rfl (fun q => PS_move rfl) ?_
 refine GL_gt (t := 65) rfl rfl rfl (fun q => PS_fieldAddr fa60_3 rfl) ?_
 refine GL_gt (t := 65) rfl rfl rfl (fun q => PS_load (cvE rfl q) tys3 (.head _) Ing.Event.l3 rfl rfl) ?_
 refine GL_pgt (t := 65) rfl rfl rfl (fun q => PC_of cf53 (.cons (cvE rfl q) (.cons (cvE rfl q) (.cons (cvE rfl q) .nil))) (fun w hS => ref_IsSeen_spec _ _ _ w)) ?_
 refine GL_gt (t := 65) rfl rfl rfl (fun q => PS_not (cvE rfl q)) ?_
 refine GL_step rfl (PS_and rfl rfl (fun h => h)) ?_
 refine GL_nil ?_
 refine GQ_sub (.cons (k := 8) rfl (.cons (k := 72) rfl (.nil _))) ?_
 refine GQ_then ?_
 refine G_cond rfl (fun c6 => ?_) (fun c6 => ?_)
 ·
  have c6p := kz c6
  try dsimp only at c6p
  refine G_region ?_
  refine GL_step rfl (PS_move rfl) ?_
  refine GL_step rfl (PS_add rfl rfl (IntWalk.i64_in _ (by omega))) ?_
  refine GL_step rfl (PS_assign rfl) ?_
  refine GL_nil ?_
  refine GQ_sub (.cons (k := 8) rfl (.nil _)) ?_
  refine GQ_then ?_
  refine G_seq ?_
  refine G_region ?_
  refine GL_step rfl (PS_move rfl) ?_
  refine GL_step rfl (PS_assign rfl) ?_
  refine GL_nil ?_
  refine GQ_sub (.cons (k := 6) rfl (.nil _)) ?_
  refine GQ_then ?_
  refine G_ret ?_
  refine GQ_ret rfl (.tmp rfl .nil) ?_
  intro w1 hS; refine ⟨?_, hS.toKeep⟩; rw [← Land.perceivesR_eq, show X.perceivesR b e = _ from ((if_f c1).trans ((if_f c2).trans ((if_f c3).trans (if_t c6))))]; rfl
 have c6p := kz c6
 try dsimp only at c6p
 refine G_skip ?_
 refine GQ_sub (.cons (k := 8) rfl (.nil _)) ?_
 refine GQ_then ?_
 refine G_seq ?_
 refine G_region ?_
 refine GL_step rfl (PS_move rfl) ?_
 refine GL_step rfl (PS_assign rfl) ?_
 refine GL_nil ?_
 refine GQ_sub (.cons (k := 6) rfl (.nil _)) ?_
 refine GQ_then ?_
 refine G_ret ?_
 refine GQ_ret rfl (.tmp rfl .nil) ?_
 intro w1 hS; refine ⟨?_, hS.toKeep⟩; rw [← Land.perceivesR_eq, show X.perceivesR b e = _ from ((if_f c1).trans ((if_f c2).trans ((if_f c3).trans (if_f c6))))]; rfl
theorem ref_Everybody_spec (X : Land) (e : Ing.Event) (w : World) : Ret Tryz.prog 49 #[.agg X.enc.toArray, .agg e.enc.toArray] w fun v w' => v = .agg (X.allN e 6).enc.toArray ∧ Keep w w' := by
 refine Ret_body [] [] Tryz.func49 rfl rfl rfl (St.start w []) ?_
 refine G_seq ?_
 refine G_region ?_
 refine GL_box rfl rfl rfl (fun b1 => ?_)
 refine GL_box rfl rfl rfl (fun b2 => ?_)
 refine GL_alloc rfl zv60 rfl (fun b3 => ?_)
 refine GL_nil ?_
 refine GQ_sub (.cons (k := 2) rfl (.cons (k := 3) rfl (.cons (k := 4) rfl (.nil _)))) ?_
 refine GQ_then ?_
 refine G_seq ?_
 refine G_seq ?_
 refine G_region ?_
 refine GL_step rfl (PS_move rfl) ?_
 refine GL_nil ?_
 refine GQ_then ?_
 refine G_block ?_
 refine G_subF (.cons (k := 6) rfl (.cons (k := 2) rfl (.cons (k := 3) rfl (.cons (k := 4) rfl (.nil _))))) ?_
 refine G_pull (.tail .head) ?_
 refine G_loop1_ (fun (k : Int) => 0 ≤ k ∧ k ≤ 6) (fun (k : Int) => (6 - k).toNat) (fun (k : Int) => [(6, .int .i64 k)]) (fun (k : Int) => [Res.box b2 60 (Ing.Event.enc (X.allN e k.toNat))]) (0) ?_ rfl rfl (fun k hI1 => ?_)
 · exact ⟨Int.le_refl _, by omega⟩
 obtain ⟨hI11, hI12⟩ := hI1
 refine G_seq ?_
 refine G_region ?_
 refine GL_step rfl (PS_lss rfl rfl) ?_
 refine GL_nil ?_
 refine GQ_then ?_
 refine G_seq ?_
 refine G_cond rfl (fun c1 => ?_) (fun c1 => ?_)
 ·
  have c1p := kz c1
  try dsimp only at c1p
  refine G_skip ?_
  refine GQ_sub (.cons (k := 2) rfl (.cons (k := 3) rfl (.cons (k := 4) rfl (.cons (k := 6) rfl (.nil _))))) ?_
  refine GQ_then ?_
  refine G_seq ?_
  refine G_block ?_
  refine G_seq ?_
  refine G_region ?_
  refine GL_step rfl (PS_move rfl) ?_
  refine GL_step rfl (PS_assign rfl) ?_
  refine GL_nil ?_
  refine GQ_sub (.cons (k := 2) rfl (.cons (k := 3) rfl (.cons (k := 4) rfl (.cons (k := 5) rfl (.cons (k := 6) rfl (.nil _)))))) ?_
  refine GQ_then ?_
  refine G_region ?_
  refine GL_step rfl (PS_move rfl) ?_
  refine GL_step rfl (PS_loadA rfl tya34 (.tail _ (.tail _ (.head _))) (Lens.id Land.fl.len Land.fl.one) rfl) ?_
  refine GL_step rfl (PS_move rfl) ?_
  refine GL_step rfl (PS_loadA rfl tya60 (.head _) (Lens.id Ing.Event.fl.len Ing.Event.fl.one) rfl) ?_
  refine GL_pure rfl cf76 (.cons rfl (.cons rfl (.cons rfl .nil))) (fun w hS => ref_Perceived_spec _ _ _ w) ?_
  refine GL_step rfl (PS_fieldAddr fa60_10 rfl) ?_
  refine GL_step rfl (PS_indexAddr ia22 rfl rfl (by omega) (by omega)) ?_
  refine GL_unit (PU_store (Ing.Event.l10.comp (Lens.arr (n := 6) flI (by omega) (by omega))) rfl rfl rfl sz3 rfl .head) ?_
  refine GL_nil ?_
  refine GQ_sub (.cons (k := 2) rfl (.cons (k := 3) rfl (.cons (k := 4) rfl (.cons (k := 6) rfl (.nil _))))) ?_
  refine GQ_block ?_
  refine GQ_then ?_
  refine G_region ?_
  refine GL_step rfl (PS_add rfl rfl (IntWalk.i64_in _ (by omega))) ?_
  refine GL_step rfl (PS_move rfl) ?_
  refine GL_nil ?_
  refine GQ_sub (.cons (k := 2) rfl (.cons (k := 3) rfl (.cons (k := 4) rfl (.cons (k := 6) rfl (.nil _))))) ?_
  refine GQ_next1_ (k + 1) ?_ ?_ (.cons (k := 6) rfl (.cons (k := 2) rfl (.cons (k := 3) rfl (.cons (k := 4) rfl (.nil _))))) (by rw [Land.allN_step (by omega)]; exact (.refl _))
  · exact ⟨by omega, by omega⟩
  · omega
 have c1p := kz c1
 try dsimp only at c1p
 obtain rfl : k = 6 := by omega
 refine G_exit ?_
 refine GQ_then_exit ?_
 refine GQ_then_exit ?_
 refine GQ_block_exit ?_
 refine GQ_sub (.cons (k := 3) rfl (.cons (k := 4) rfl (.nil _))) ?_
 refine GQ_then ?_
 refine G_seq ?_
 refine G_region ?_
 refine GL_step rfl (PS_loadA rfl tya60 (.head _) (Lens.id Ing.Event.fl.len Ing.Event.fl.one) rfl) ?_
 refine GL_unit (PU_store (Lens.id Ing.Event.fl.len Ing.Event.fl.one) rfl rfl rfl sz60 rfl (.tail .head)) ?_
 refine GL_nil ?_
 refine GQ_sub (.cons (k := 4) rfl (.nil _)) ?_
 refine GQ_then ?_
 refine G_ret ?_
 refine GQ_ret rfl (.cell rfl (.tail _ (.head _)) (.inl ⟨(by rw [Ing.Event.fl.len]; exact tya60), rfl⟩) .nil) ?_
 intro w1 hS; refine ⟨?_, hS.toKeep⟩; rfl
theorem ref_turn_add_spec (b : Nat) (T : Turn) (g : Hd) (k o d n : Int) (x u : Str) (hg : g.len = T.out.length) (hb : 0 ≤ T.b ∧ T.b < 6) (ho : o < 6) (hn : T.out.length ≤ 100000) : Ctr Tryz.prog 20 #[.pointer (some ⟨b, 0, none⟩), .int .i64 k, .int .i64 o, .int .i64 d, .int .i64 n, vstr x, vstr u] [Res.box b 57 (TurnV.enc ⟨T.w, T.b, g⟩), Res.own g 60 16 (T.out.flatMap Ing.Event.enc)] (fun v B => ∃ g' : Hd, v = .tuple #[] ∧ g'.len = (T.happens { Turn.evk k with other := o, dir := d, n := n, thing := x, text := u }).out.length ∧ B = [Res.box b 57 (TurnV.enc ⟨(T.happens { Turn.evk k with other := o, dir := d, n := n, thing := x, text := u }).w, (T.happens { Turn.evk k with other := o, dir := d, n := n, thing := x, text := u }).b, g'⟩), Res.own g' 60 16 ((T.happens { Turn.evk k with other := o, dir := d, n := n, thing := x, text := u }).out.flatMap Ing.Event.enc)]) := by
 intro w hS0
 refine Ret_body _ _ Tryz.func20 rfl rfl rfl (hS0) ?_
 refine G_seq ?_
 refine G_planN (N := 35) [0, 0, 0, 4, 12, 28, 2, 66, 194, 510, 1022, 2046, 0, 4096, 12288, 28672, 0, 0, 0, 0, 0, 1048576, 3145728, 7340032, 524288, 17301504, 50855936, 133693440, 267911168, 536346624, 0, 0, 4294967295, 0, 17179869183] mix (by kernel_rfl) rfl ?_
 refine Plan_float 0 rfl rfl (by kernel_rfl) (OK_s (EX_s (PS_move rfl))) ?_
 refine Plan_float 1 rfl rfl (by kernel_rfl) (OK_s (EX_s (PS_move rfl))) ?_
 refine Plan_float 2 rfl rfl (by kernel_rfl) (OK_s (EX_s (PS_move rfl))) ?_
 refine Plan_float 3 rfl rfl (by kernel_rfl) (OK_s (EX_s (PS_nilCheck rfl))) ?_
 refine Plan_float 4 rfl rfl (by kernel_rfl) (OK_s (EX_s (PS_fieldAddr fa57_1 rfl))) ?_
 refine Plan_float 5 rfl rfl (by kernel_rfl) (OK_s (EX_s (PS_load rfl tys3 (.head _) TurnV.l1 rfl rfl))) ?_
 refine Plan_float 6 rfl rfl (by kernel_rfl) (OK_s (EX_s (PS_nilCheck rfl))) ?_
 refine Plan_float 7 rfl rfl (by kernel_rfl) (OK_s (EX_s (PS_fieldAddr fa57_0 rfl))) ?_
 refine Plan_float 8 rfl rfl (by kernel_rfl) (OK_s (EX_s (PS_fieldAddr fa34_2 rfl))) ?_
 refine Plan_float 9 rfl rfl (by kernel_rfl) (OK_s (EX_s (PS_indexAddr ia32 rfl rfl (by (try dsimp only at *); omega) (by (try dsimp only at *); omega)))) ?_
 refine Plan_float 10 rfl rfl (by kernel_rfl) (OK_s (EX_s (PS_fieldAddr fa31_3 rfl))) ?_
 refine Plan_float 11 rfl rfl (by kernel_rfl) (OK_s (EX_s (PS_load rfl tys3 (.head _) (((TurnV.l0.comp Land.l2).comp (Lens.arr (n := 6) Being.fl (by (try dsimp only at *); omega) (by (try dsimp only at *); omega))).comp Being.l3) rfl rfl))) ?_
 refine Plan_float 12 rfl rfl (by kernel_rfl) (OK_s (EX_s (PS_move rfl))) ?_
 refine Plan_float 13 rfl rfl (by kernel_rfl) (OK_s (EX_s (PS_nilCheck rfl))) ?_
 refine Plan_float 14 rfl rfl (by kernel_rfl) (OK_s (EX_s (PS_fieldAddr fa57_1 rfl))) ?_
 refine Plan_float 15 rfl rfl (by kernel_rfl) (OK_s (EX_s (PS_load rfl tys3 (.head _) TurnV.l1 rfl rfl))) ?_
 refine Plan_float 16 rfl rfl (by kernel_rfl) (OK_s (EX_s (PS_move rfl))) ?_
 refine Plan_float 17 rfl rfl (by kernel_rfl) (OK_s (EX_s (PS_move rfl))) ?_
 refine Plan_float 18 rfl rfl (by kernel_rfl) (OK_s (EX_s (PS_move rfl))) ?_
 refine Plan_float 19 rfl rfl (by kernel_rfl) (OK_s (EX_s (PS_move rfl))) ?_
 refine Plan_float 20 rfl rfl (by kernel_rfl) (OK_s (EX_s (PS_move rfl))) ?_
 refine Plan_float 21 rfl rfl (by kernel_rfl) (OK_s (EX_s (PS_nilCheck rfl))) ?_
 refine Plan_float 22 rfl rfl (by kernel_rfl) (OK_s (EX_s (PS_fieldAddr fa57_1 rfl))) ?_
 refine Plan_float 23 rfl rfl (by kernel_rfl) (OK_s (EX_s (PS_load rfl tys3 (.head _) TurnV.l1 rfl rfl))) ?_
 refine Plan_float 24 rfl rfl (by kernel_rfl) (OK_s (EX_s (PS_nilCheck rfl))) ?_
 refine Plan_float 25 rfl rfl (by kernel_rfl) (OK_s (EX_s (PS_fieldAddr fa57_0 rfl))) ?_
 refine Plan_float 26 rfl rfl (by kernel_rfl) (OK_s (EX_s (PS_fieldAddr fa34_2 rfl))) ?_
 refine Plan_float 27 rfl rfl (by kernel_rfl) (OK_s (EX_s (PS_indexAddr ia32 rfl rfl (by (try dsimp only at *); omega) (by (try dsimp only at *); omega)))) ?_
 refine Plan_float 28 rfl rfl (by kernel_rfl) (OK_s (EX_s (PS_fieldAddr fa31_0 rfl))) ?_
 refine Plan_float 29 rfl rfl (by kernel_rfl) (OK_s (EX_s (PS_load rfl tys9 (.head _) (((TurnV.l0.comp Land.l2).comp (Lens.arr (n := 6) Being.fl (by (try dsimp only at *); omega) (by (try dsimp only at *); omega))).comp Being.l0) rfl rfl))) ?_
 refine Plan_float 30 rfl rfl (by kernel_rfl) (OK_s (EX_s (PS_move rfl))) ?_
 refine Plan_float 31 rfl rfl (by kernel_rfl) (OK_s (EX_s (PS_move rfl))) ?_
 refine Plan_float 32 rfl rfl (by kernel_rfl) (OK_s (EX_s (PS_build pl60 zv60 rfl (.cons Ing.Event.l0 rfl rfl rfl (.cons Ing.Event.l1 rfl rfl rfl (.cons Ing.Event.l2 rfl rfl rfl (.cons Ing.Event.l3 rfl rfl rfl (.cons Ing.Event.l4 rfl rfl rfl (.cons Ing.Event.l5 rfl rfl rfl (.cons Ing.Event.l6 rfl rfl rfl (.cons Ing.Event.l8 rfl rfl rfl (.cons Ing.Event.l9 rfl rfl rfl .nil)))))))))))) ?_
 refine Plan_chain 33 rfl (by kernel_rfl) ?_
 refine GL_alloc rfl zv60 rfl (fun b1 => ?_)
 refine GL_hand rfl ⟨?_, ?_⟩
 · exact (Pend_okv rfl (OK_s (EX_s (PS_build pl60 zv60 rfl (.cons Ing.Event.l0 rfl rfl rfl (.cons Ing.Event.l1 rfl rfl rfl (.cons Ing.Event.l2 rfl rfl rfl (.cons Ing.Event.l3 rfl rfl rfl (.cons Ing.Event.l4 rfl rfl rfl (.cons Ing.Event.l5 rfl rfl rfl (.cons Ing.Event.l6 rfl rfl rfl (.cons Ing.Event.l8 rfl rfl rfl (.cons Ing.Event.l9 rfl rfl rfl .nil)))))))))))) rfl rfl (Pend_okv rfl (OK_s (EX_s (PS_move rfl))) rfl rfl (Pend_okv rfl (OK_s (EX_s (PS_move rfl))) rfl rfl (Pend_okv rfl (OK_s (EX_s (PS_load rfl tys9 (.tail _ (.head _)) (((TurnV.l0.comp Land.l2).comp (Lens.arr (n := 6) Being.fl (by (try dsimp only at *); omega) (by (try dsimp only at *); omega))).comp Being.l0) rfl rfl))) rfl rfl (Pend_okv rfl (OK_s (EX_s (PS_fieldAddr fa31_0 rfl))) rfl rfl (Pend_okv rfl (OK_s (EX_s (PS_indexAddr ia32 rfl rfl (by (try dsimp only at *); omega) (by (try dsimp only at *); omega)))) rfl rfl (Pend_okv rfl (OK_s (EX_s (PS_fieldAddr fa34_2 rfl))) rfl rfl (Pend_okv rfl (OK_s (EX_s (PS_fieldAddr fa57_0 rfl))) rfl rfl (Pend_okv rfl (OK_s (EX_s (PS_nilCheck rfl))) rfl rfl (Pend_okv rfl (OK_s (EX_s (PS_load rfl tys3 (.tail _ (.head _)) TurnV.l1 rfl rfl))) rfl rfl (Pend_okv rfl (OK_s (EX_s (PS_fieldAddr fa57_1 rfl))) rfl rfl (Pend_okv rfl (OK_s (EX_s (PS_nilCheck rfl))) rfl rfl (Pend_okv rfl (OK_s (EX_s (PS_move rfl))) rfl rfl (Pend_okv rfl (OK_s (EX_s (PS_move rfl))) rfl rfl (Pend_okv rfl (OK_s (EX_s (PS_move rfl))) rfl rfl (Pend_okv rfl (OK_s (EX_s (PS_move rfl))) rfl rfl (Pend_okv rfl (OK_s (EX_s (PS_move rfl))) rfl rfl (Pend_okv rfl (OK_s (EX_s (PS_load rfl tys3 (.tail _ (.head _)) TurnV.l1 rfl rfl))) rfl rfl (Pend_okv rfl (OK_s (EX_s (PS_fieldAddr fa57_1 rfl))) rfl rfl (Pend_okv rfl (OK_s (EX_s (PS_nilCheck rfl))) rfl rfl (Pend_okv rfl (OK_s (EX_s (PS_move rfl))) rfl rfl (Pend_okv rfl (OK_s (EX_s (PS_load rfl tys3 (.tail _ (.head _)) (((TurnV.l0.comp Land.l2).comp (Lens.arr (n := 6) Being.fl (by (try dsimp only at *); omega) (by (try dsimp only at *); omega))).comp Being.l3) rfl rfl))) rfl rfl (Pend_okv rfl (OK_s (EX_s (PS_fieldAddr fa31_3 rfl))) rfl rfl (Pend_okv rfl (OK_s (EX_s (PS_indexAddr ia32 rfl rfl (by (try dsimp only at *); omega) (by (try dsimp only at *); omega)))) rfl rfl (Pend_okv rfl (OK_s (EX_s (PS_fieldAddr fa34_2 rfl))) rfl rfl (Pend_okv rfl (OK_s (EX_s (PS_fieldAddr fa57_0 rfl))) rfl rfl (Pend_okv rfl (OK_s (EX_s (PS_nilCheck rfl))) rfl rfl (Pend_okv rfl (OK_s (EX_s (PS_load rfl tys3 (.tail _ (.head _)) TurnV.l1 rfl rfl))) rfl rfl (Pend_okv rfl (OK_s (EX_s (PS_fieldAddr fa57_1 rfl))) rfl rfl (Pend_okv rfl (OK_s (EX_s (PS_nilCheck rfl))) rfl rfl (Pend_okv rfl (OK_s (EX_s (PS_move rfl))) rfl rfl (Pend_okv rfl (OK_s (EX_s (PS_move rfl))) rfl rfl (Pend_okv rfl (OK_s (EX_s (PS_move rfl))) rfl rfl Pend_nil)))))))))))))))))))))))))))))))))
 refine Plan_chain 34 rfl (by kernel_rfl) ?_
 refine GL_unit (PU_store (Lens.id Ing.Event.fl.len Ing.Event.fl.one) rfl rfl rfl sz60 rfl .head) ?_
 refine GL_hand0 rfl ⟨?_, ?_⟩
 · exact (Pend_skip (by kernel_rfl) (Pend_skip (by kernel_rfl) (Pend_skip (by kernel_rfl) (Pend_skip (by kernel_rfl) (Pend_skip (by kernel_rfl) (Pend_skip (by kernel_rfl) (Pend_skip (by kernel_rfl) (Pend_skip (by kernel_rfl) (Pend_skip (by kernel_rfl) (Pend_skip (by kernel_rfl) (Pend_skip (by kernel_rfl) (Pend_skip (by kernel_rfl) (Pend_skip (by kernel_rfl) (Pend_skip (by kernel_rfl) (Pend_skip (by kernel_rfl) (Pend_skip (by kernel_rfl) (Pend_skip (by kernel_rfl) (Pend_skip (by kernel_rfl) (Pend_skip (by kernel_rfl) (Pend_skip (by kernel_rfl) (Pend_skip (by kernel_rfl) (Pend_skip (by kernel_rfl) (Pend_skip (by kernel_rfl) (Pend_skip (by kernel_rfl) (Pend_skip (by kernel_rfl) (Pend_skip (by kernel_rfl) (Pend_skip (by kernel_rfl) (Pend_skip (by kernel_rfl) (Pend_skip (by kernel_rfl) (Pend_skip (by kernel_rfl) (Pend_skip (by kernel_rfl) (Pend_skip (by kernel_rfl) (Pend_skip (by kernel_rfl) Pend_nil)))))))))))))))))))))))))))))))))
 refine Plan_end (by kernel_rfl) ?_
 refine GQ_sub (.cons (k := 0) rfl (.cons (k := 2) rfl (.cons (k := 14) rfl (.nil _)))) ?_
 refine GQ_then ?_
 refine G_seq ?_
 refine G_seq ?_
 refine G_swap (c' := Ing.Event.enc ⟨k, (T.w.beings.at T.b).room, T.b, o, d, n, (T.w.beings.at T.b).name, [], x, u, default⟩) (fun _ => .head) rfl ?_
 refine G_region ?_
 refine GL_step rfl (PS_move rfl) ?_
 refine GL_step rfl (PS_geq rfl rfl) ?_
 refine GL_nil ?_
 refine GQ_sub (.cons (k := 0) rfl (.cons (k := 2) rfl (.cons (k := 14) rfl (.cons (k := 49) rfl (.nil _))))) ?_
 refine GQ_then ?_
 refine G_cond rfl (fun c1 => ?_) (fun c1 => ?_)
 ·
  have c1p := kz c1
  try dsimp only at c1p
  refine G_region ?_
  refine GL_step rfl (PS_move rfl) ?_
  refine GL_step rfl (PS_move rfl) ?_
  refine GL_step rfl (PS_nilCheck rfl) ?_
  refine GL_step rfl (PS_fieldAddr fa57_0 rfl) ?_
  refine GL_step rfl (PS_fieldAddr fa34_2 rfl) ?_
  refine GL_step rfl (PS_indexAddr ia32 rfl rfl (by (try dsimp only at *); omega) (by (try dsimp only at *); omega)) ?_
  refine GL_step rfl (PS_fieldAddr fa31_0 rfl) ?_
  refine GL_step rfl (PS_load rfl tys9 (.tail _ (.head _)) (((TurnV.l0.comp Land.l2).comp (Lens.arr (n := 6) Being.fl (by (try dsimp only at *); omega) (by (try dsimp only at *); omega))).comp Being.l0) rfl rfl) ?_
  refine GL_step rfl (PS_fieldAddr fa60_7 rfl) ?_
  refine GL_unit (PU_store Ing.Event.l7 rfl rfl rfl sz9 rfl .head) ?_
  refine GL_nil ?_
  refine GQ_sub (.cons (k := 0) rfl (.cons (k := 14) rfl (.nil _))) ?_
  refine GQ_then ?_
  refine G_planN (N := 16) [0, 0, 2, 6, 14, 0, 32, 96, 224, 0, 992, 2016, 4094, 8191, 16383, 32767] mix (by kernel_rfl) rfl ?_
  refine Plan_float 0 rfl rfl (by kernel_rfl) (OK_s (EX_s (PS_move rfl))) ?_
  refine Plan_float 1 rfl rfl (by kernel_rfl) (OK_s (EX_s (PS_move rfl))) ?_
  refine Plan_float 2 rfl rfl (by kernel_rfl) (OK_s (EX_s (PS_nilCheck rfl))) ?_
  refine Plan_float 3 rfl rfl (by kernel_rfl) (OK_s (EX_s (PS_fieldAddr fa57_2 rfl))) ?_
  refine Plan_float 4 rfl rfl (by kernel_rfl) (OK_s (EX_s (PS_load rfl tys35 (.tail _ (.head _)) TurnV.l2 rfl rfl))) ?_
  refine Plan_float 5 rfl rfl (by kernel_rfl) (OK_s (EX_s (PS_move rfl))) ?_
  refine Plan_float 6 rfl rfl (by kernel_rfl) (OK_s (EX_s (PS_nilCheck rfl))) ?_
  refine Plan_float 7 rfl rfl (by kernel_rfl) (OK_s (EX_s (PS_fieldAddr fa57_0 rfl))) ?_
  refine Plan_float 8 rfl rfl (by kernel_rfl) (OK_s (EX_s (PS_loadA rfl tya34 (.tail _ (.head _)) TurnV.l0 rfl))) ?_
  refine Plan_float 9 rfl rfl (by kernel_rfl) (OK_s (EX_s (PS_loadA rfl tya60 (.head _) (Lens.id Ing.Event.fl.len Ing.Event.fl.one) rfl))) ?_
  refine Plan_float 10 rfl rfl (by kernel_rfl) (OK_s (EX_c (PC_of cf49 (.cons rfl (.cons rfl .nil)) (fun w hS => ref_Everybody_spec _ _ w)))) ?_
  refine Plan_chain 11 rfl (by kernel_rfl) ?_
  refine GL_bs1F Ing.Event.enc Ing.Event.fl rfl Tryz.underlying35 sz60 zv60 rfl (by decide) (by decide) rfl rfl (fun b2 => ?_)
  refine GL_hand rfl ⟨?_, ?_⟩
  · exact (Pend_skip (by kernel_rfl) (Pend_skip (by kernel_rfl) (Pend_skip (by kernel_rfl) (Pend_skip (by kernel_rfl) (Pend_skip (by kernel_rfl) (Pend_skip (by kernel_rfl) (Pend_okv rfl (OK_s (EX_s (PS_load rfl tys35 (.tail _ (.tail _ (.head _))) TurnV.l2 rfl rfl))) rfl rfl (Pend_okv rfl (OK_s (EX_s (PS_fieldAddr fa57_2 rfl))) rfl rfl (Pend_okv rfl (OK_s (EX_s (PS_nilCheck rfl))) rfl rfl (Pend_okv rfl (OK_s (EX_s (PS_move rfl))) rfl rfl (Pend_okv rfl (OK_s (EX_s (PS_move rfl))) rfl rfl Pend_nil)))))))))))
  refine Plan_chain 12 rfl (by kernel_rfl) ?_
  refine GL_appendF Ing.Event.fl rfl Tryz.underlying35 sz60 zv60 rfl by60 (by decide) (by decide) rfl rfl (fun w hS => Src.sliceT Tryz.underlying35 ((Kn.own (.head _)) w hS)) (by (try dsimp only); omega) (fun _ => (.tail (.tail (.tail .head)))) (fun h1 h1l h1z => ?_)
  refine GL_hand rfl ⟨?_, ?_⟩
  · exact (Pend_skip (by kernel_rfl) (Pend_skip (by kernel_rfl) (Pend_skip (by kernel_rfl) (Pend_skip (by kernel_rfl) (Pend_skip (by kernel_rfl) (Pend_skip (by kernel_rfl) (Pend_skip (by kernel_rfl) (Pend_skip (by kernel_rfl) (Pend_skip (by kernel_rfl) (Pend_skip (by kernel_rfl) (Pend_okv rfl (OK_s (EX_s (PS_move rfl))) rfl rfl Pend_nil)))))))))))
  refine Plan_float 13 rfl rfl (by kernel_rfl) (OK_s (EX_s (PS_nilCheck rfl))) ?_
  refine Plan_float 14 rfl rfl (by kernel_rfl) (OK_s (EX_s (PS_fieldAddr fa57_2 rfl))) ?_
  refine Plan_chain 15 rfl (by kernel_rfl) ?_
  refine GL_unit (PU_store TurnV.l2 rfl rfl rfl sz35 rfl (.tail (.tail .head))) ?_
  refine GL_hand0 rfl ⟨?_, ?_⟩
  · exact (Pend_skip (by kernel_rfl) (Pend_skip (by kernel_rfl) (Pend_skip (by kernel_rfl) (Pend_skip (by kernel_rfl) (Pend_skip (by kernel_rfl) (Pend_skip (by kernel_rfl) (Pend_skip (by kernel_rfl) (Pend_skip (by kernel_rfl) (Pend_skip (by kernel_rfl) (Pend_skip (by kernel_rfl) (Pend_skip (by kernel_rfl) (Pend_skip (by kernel_rfl) (Pend_skip (by kernel_rfl) Pend_nil)))))))))))))
  refine Plan_end (by kernel_rfl) ?_
  refine GQ_end rfl .nil ?_
  intro w1 hS
  have hS := (hS.perm (Pulls.perm (.cons (.tail (.tail .head)) (.cons (.tail (.tail .head)) .nil)))).headL
  have hq := T.add_t (k := k) (d := d) (n := n) (x := x) (u := u) c1
  refine ⟨_, ⟨?gqTrue, rfl, ?hlTrue, ?hBTrue⟩, hS⟩
  case hBTrue => rw [hq]; (try rfl)
  case hlTrue => rw [hq]; simp only [List.length_append, List.length_cons, List.length_nil]; (try dsimp only at *); omega
 have c1p := kz c1
 try dsimp only at c1p
 refine G_skip ?_
 refine GQ_sub (.cons (k := 0) rfl (.cons (k := 14) rfl (.nil _))) ?_
 refine GQ_then ?_
 refine G_planN (N := 16) [0, 0, 2, 6, 14, 0, 32, 96, 224, 0, 992, 2016, 4094, 8191, 16383, 32767] mix (by kernel_rfl) rfl ?_
 refine Plan_float 0 rfl rfl (by kernel_rfl) (OK_s (EX_s (PS_move rfl))) ?_
 refine Plan_float 1 rfl rfl (by kernel_rfl) (OK_s (EX_s (PS_move rfl))) ?_
 refine Plan_float 2 rfl rfl (by kernel_rfl) (OK_s (EX_s (PS_nilCheck rfl))) ?_
 refine Plan_float 3 rfl rfl (by kernel_rfl) (OK_s (EX_s (PS_fieldAddr fa57_2 rfl))) ?_
 refine Plan_float 4 rfl rfl (by kernel_rfl) (OK_s (EX_s (PS_load rfl tys35 (.tail _ (.head _)) TurnV.l2 rfl rfl))) ?_
 refine Plan_float 5 rfl rfl (by kernel_rfl) (OK_s (EX_s (PS_move rfl))) ?_
 refine Plan_float 6 rfl rfl (by kernel_rfl) (OK_s (EX_s (PS_nilCheck rfl))) ?_
 refine Plan_float 7 rfl rfl (by kernel_rfl) (OK_s (EX_s (PS_fieldAddr fa57_0 rfl))) ?_
 refine Plan_float 8 rfl rfl (by kernel_rfl) (OK_s (EX_s (PS_loadA rfl tya34 (.tail _ (.head _)) TurnV.l0 rfl))) ?_
 refine Plan_float 9 rfl rfl (by kernel_rfl) (OK_s (EX_s (PS_loadA rfl tya60 (.head _) (Lens.id Ing.Event.fl.len Ing.Event.fl.one) rfl))) ?_
 refine Plan_float 10 rfl rfl (by kernel_rfl) (OK_s (EX_c (PC_of cf49 (.cons rfl (.cons rfl .nil)) (fun w hS => ref_Everybody_spec _ _ w)))) ?_
 refine Plan_chain 11 rfl (by kernel_rfl) ?_
 refine GL_bs1F Ing.Event.enc Ing.Event.fl rfl Tryz.underlying35 sz60 zv60 rfl (by decide) (by decide) rfl rfl (fun b3 => ?_)
 refine GL_hand rfl ⟨?_, ?_⟩
 · exact (Pend_skip (by kernel_rfl) (Pend_skip (by kernel_rfl) (Pend_skip (by kernel_rfl) (Pend_skip (by kernel_rfl) (Pend_skip (by kernel_rfl) (Pend_skip (by kernel_rfl) (Pend_okv rfl (OK_s (EX_s (PS_load rfl tys35 (.tail _ (.tail _ (.head _))) TurnV.l2 rfl rfl))) rfl rfl (Pend_okv rfl (OK_s (EX_s (PS_fieldAddr fa57_2 rfl))) rfl rfl (Pend_okv rfl (OK_s (EX_s (PS_nilCheck rfl))) rfl rfl (Pend_okv rfl (OK_s (EX_s (PS_move rfl))) rfl rfl (Pend_okv rfl (OK_s (EX_s (PS_move rfl))) rfl rfl Pend_nil)))))))))))
 refine Plan_chain 12 rfl (by kernel_rfl) ?_
 refine GL_appendF Ing.Event.fl rfl Tryz.underlying35 sz60 zv60 rfl by60 (by decide) (by decide) rfl rfl (fun w hS => Src.sliceT Tryz.underlying35 ((Kn.own (.head _)) w hS)) (by (try dsimp only); omega) (fun _ => (.tail (.tail (.tail .head)))) (fun h2 h2l h2z => ?_)
 refine GL_hand rfl ⟨?_, ?_⟩
 · exact (Pend_skip (by kernel_rfl) (Pend_skip (by kernel_rfl) (Pend_skip (by kernel_rfl) (Pend_skip (by kernel_rfl) (Pend_skip (by kernel_rfl) (Pend_skip (by kernel_rfl) (Pend_skip (by kernel_rfl) (Pend_skip (by kernel_rfl) (Pend_skip (by kernel_rfl) (Pend_skip (by kernel_rfl) (Pend_okv rfl (OK_s (EX_s (PS_move rfl))) rfl rfl Pend_nil)))))))))))
 refine Plan_float 13 rfl rfl (by kernel_rfl) (OK_s (EX_s (PS_nilCheck rfl))) ?_
 refine Plan_float 14 rfl rfl (by kernel_rfl) (OK_s (EX_s (PS_fieldAddr fa57_2 rfl))) ?_
 refine Plan_chain 15 rfl (by kernel_rfl) ?_
 refine GL_unit (PU_store TurnV.l2 rfl rfl rfl sz35 rfl (.tail (.tail .head))) ?_
 refine GL_hand0 rfl ⟨?_, ?_⟩
 · exact (Pend_skip (by kernel_rfl) (Pend_skip (by kernel_rfl) (Pend_skip (by kernel_rfl) (Pend_skip (by kernel_rfl) (Pend_skip (by kernel_rfl) (Pend_skip (by kernel_rfl) (Pend_skip (by kernel_rfl) (Pend_skip (by kernel_rfl) (Pend_skip (by kernel_rfl) (Pend_skip (by kernel_rfl) (Pend_skip (by kernel_rfl) (Pend_skip (by kernel_rfl) (Pend_skip (by kernel_rfl) Pend_nil)))))))))))))
 refine Plan_end (by kernel_rfl) ?_
 refine GQ_end rfl .nil ?_
 intro w1 hS
 have hS := (hS.perm (Pulls.perm (.cons (.tail (.tail .head)) (.cons (.tail (.tail .head)) .nil)))).headL
 have hq := T.add_f (k := k) (d := d) (n := n) (x := x) (u := u) c1
 refine ⟨_, ⟨?gqFalse, rfl, ?hlFalse, ?hBFalse⟩, hS⟩
 case hBFalse => rw [hq]; (try rfl)
 case hlFalse => rw [hq]; simp only [List.length_append, List.length_cons, List.length_nil]; (try dsimp only at *); omega
theorem ref_turn_here_spec (b : Nat) (T : Turn) (g : Hd) (hF : T.Fit) : Ctr Tryz.prog 51 #[.pointer (some ⟨b, 0, none⟩)] [Res.box b 57 (TurnV.enc ⟨T.w, T.b, g⟩)] (fun v B => v = .int .i64 (T.w.beings.at T.b).room ∧ B = [Res.box b 57 (TurnV.enc ⟨T.w, T.b, g⟩)]) := by
 intro w hS0
 have hb := hF.b
 have hr := hF.room
 refine Ret_body _ _ Tryz.func51 rfl rfl rfl (hS0) ?_
 refine G_seq ?_
 refine G_region ?_
 refine GL_step rfl (PS_assign rfl) ?_
 refine GL_nil ?_
 refine GQ_sub (.cons (k := 0) rfl (.nil _)) ?_
 refine GQ_then ?_
 refine G_seq ?_
 refine G_planN (N := 12) [0, 0, 2, 6, 14, 1, 33, 97, 255, 511, 1023, 2047] mix (by kernel_rfl) rfl ?_
 refine Plan_float 0 rfl rfl (by kernel_rfl) (OK_s (EX_s (PS_move rfl))) ?_
 refine Plan_float 1 rfl rfl (by kernel_rfl) (OK_s (EX_s (PS_move rfl))) ?_
 refine Plan_float 2 rfl rfl (by kernel_rfl) (OK_s (EX_s (PS_nilCheck rfl))) ?_
 refine Plan_float 3 rfl rfl (by kernel_rfl) (OK_s (EX_s (PS_fieldAddr fa57_1 rfl))) ?_
 refine Plan_float 4 rfl rfl (by kernel_rfl) (OK_s (EX_s (PS_load rfl tys3 (.head _) TurnV.l1 rfl rfl))) ?_
 refine Plan_float 5 rfl rfl (by kernel_rfl) (OK_s (EX_s (PS_nilCheck rfl))) ?_
 refine Plan_float 6 rfl rfl (by kernel_rfl) (OK_s (EX_s (PS_fieldAddr fa57_0 rfl))) ?_
 refine Plan_float 7 rfl rfl (by kernel_rfl) (OK_s (EX_s (PS_fieldAddr fa34_2 rfl))) ?_
 refine Plan_float 8 rfl rfl (by kernel_rfl) (OK_s (EX_s (PS_indexAddr ia32 rfl rfl (by first | omega | exact hb.1 | exact hb.2 | (dsimp only; omega)) (by first | omega | exact hb.1 | exact hb.2 | (dsimp only; omega))))) ?_
 refine Plan_float 9 rfl rfl (by kernel_rfl) (OK_s (EX_s (PS_fieldAddr fa31_3 rfl))) ?_
 refine Plan_float 10 rfl rfl (by kernel_rfl) (OK_s (EX_s (PS_load rfl tys3 (.head _) (((TurnV.l0.comp Land.l2).comp (Lens.arr (n := 6) Being.fl (by first | omega | exact hb.1 | exact hb.2 | (dsimp only; omega)) (by first | omega | exact hb.1 | exact hb.2 | (dsimp only; omega)))).comp Being.l3) rfl rfl))) ?_
 refine Plan_float 11 rfl rfl (by kernel_rfl) (OK_s (EX_s (PS_assign rfl))) ?_
 refine Plan_end (by kernel_rfl) ?_
 refine GQ_sub (.cons (k := 2) rfl (.nil _)) ?_
 refine GQ_then ?_
 refine G_ret ?_
 refine GQ_ret rfl (.tmp rfl .nil) ?_
 intro w1 hS
 have hS := (hS.perm (Pulls.perm (.cons .head .nil))).headL
 exact ⟨_, ⟨rfl, rfl⟩, hS⟩
theorem ref_turn_leaveAll_spec (b : Nat) (T : Turn) (g : Hd) (hF : T.Fit) : Ctr Tryz.prog 26 #[.pointer (some ⟨b, 0, none⟩)] [Res.box b 57 (TurnV.enc ⟨T.w, T.b, g⟩)] (fun v B => ∃ F : Land, F = T.fall.w ∧ v = .tuple #[] ∧ B = [Res.box b 57 (TurnV.enc ⟨F, T.b, g⟩)]) := by
 intro w hS0
 have hb := hF.b
 have hr := hF.room
 refine Ret_body _ _ Tryz.func26 rfl rfl rfl (hS0) ?_
 refine G_seq ?_
 refine G_seq ?_
 refine G_region ?_
 refine GL_step rfl (PS_move rfl) ?_
 refine GL_nil ?_
 refine GQ_then ?_
 refine G_block ?_
 refine G_subF (.cons (k := 5) rfl (.cons (k := 0) rfl (.nil _))) ?_
 refine G_loop2_ (fun (k : Int) (X : Turn) => 0 ≤ k ∧ X = T.leaveK k.toNat ∧ X.b = T.b ∧ k ≤ 9) (fun (k : Int) (X : Turn) => (9 - k).toNat) (fun (k : Int) (X : Turn) => [(5, .int .i64 k)]) (fun (k : Int) (X : Turn) => [Res.box b 57 (TurnV.enc ⟨X.w, X.b, g⟩)]) (0) (_) ?_ rfl rfl (fun k X hI1 => ?_)
 · exact ⟨by omega, rfl, rfl, by omega⟩
 obtain ⟨hI11, hI12, hI13, hI14⟩ := hI1
 refine G_seq ?_
 refine G_region ?_
 refine GL_step rfl (PS_lss rfl rfl) ?_
 refine GL_nil ?_
 refine GQ_then ?_
 refine G_seq ?_
 refine G_cond rfl (fun c1 => ?_) (fun c1 => ?_)
 ·
  have c1p := kz c1
  try dsimp only at c1p
  have hgF := Turn.leaveK_fit hF k.toNat (by omega)
  rw [← hI12] at hgF
  have hIF : X.Fit := hgF.fit
  refine G_skip ?_
  refine GQ_sub (.cons (k := 0) rfl (.cons (k := 5) rfl (.nil _))) ?_
  refine GQ_then ?_
  refine G_seq ?_
  refine G_block ?_
  refine G_seq ?_
  refine G_region ?_
  refine GL_step rfl (PS_move rfl) ?_
  refine GL_step rfl (PS_assign rfl) ?_
  refine GL_nil ?_
  refine GQ_sub (.cons (k := 0) rfl (.cons (k := 2) rfl (.cons (k := 5) rfl (.nil _)))) ?_
  refine GQ_then ?_
  refine G_seq ?_
  refine G_region ?_
  refine GL_step rfl (PS_move rfl) ?_
  refine GL_step rfl (PS_move rfl) ?_
  refine GL_step rfl (PS_nilCheck rfl) ?_
  refine GL_step rfl (PS_fieldAddr fa57_0 rfl) ?_
  refine GL_step rfl (PS_fieldAddr fa34_1 rfl) ?_
  refine GL_step rfl (PS_indexAddr ia29 rfl rfl (by first | omega | exact hb.1 | exact hb.2 | (rw [hI13]; first | exact hb.1 | exact hb.2) | (dsimp only; omega) | (rw [hb9.1]; first | exact hb.1 | exact hb.2)) (by first | omega | exact hb.1 | exact hb.2 | (rw [hI13]; first | exact hb.1 | exact hb.2) | (dsimp only; omega) | (rw [hb9.1]; first | exact hb.1 | exact hb.2))) ?_
  refine GL_step rfl (PS_assign rfl) ?_
  refine GL_nil ?_
  refine GQ_sub (.cons (k := 0) rfl (.cons (k := 3) rfl (.cons (k := 5) rfl (.nil _)))) ?_
  refine GQ_then ?_
  refine G_seq ?_
  refine G_planN (N := 16) [0, 1, 3, 7, 15, 31, 63, 127, 255, 511, 63, 1087, 3135, 7231, 16383, 32767] mix (by kernel_rfl) rfl ?_
  refine Plan_float 0 rfl rfl (by kernel_rfl) (OK_s (EX_s (PS_move rfl))) ?_
  refine Plan_float 1 rfl rfl (by kernel_rfl) (OK_s (EX_s (PS_nilCheck rfl))) ?_
  refine Plan_float 2 rfl rfl (by kernel_rfl) (OK_s (EX_s (PS_fieldAddr fa28_2 rfl))) ?_
  refine Plan_float 3 rfl rfl (by kernel_rfl) (OK_s (EX_s (PS_load rfl tys3 (.head _) (((TurnV.l0.comp Land.l1).comp (Lens.arr (n := 9) Thing.fl (by first | omega | exact hb.1 | exact hb.2 | (rw [hI13]; first | exact hb.1 | exact hb.2) | (dsimp only; omega) | (rw [hb9.1]; first | exact hb.1 | exact hb.2)) (by first | omega | exact hb.1 | exact hb.2 | (rw [hI13]; first | exact hb.1 | exact hb.2) | (dsimp only; omega) | (rw [hb9.1]; first | exact hb.1 | exact hb.2)))).comp Thing.l2) rfl rfl))) ?_
  refine Plan_float 4 rfl rfl (by kernel_rfl) (OK_s (EX_s (PS_eql rfl rfl))) ?_
  refine Plan_float 5 rfl rfl (by kernel_rfl) (OK_s (EX_s (PS_move rfl))) ?_
  refine Plan_float 6 rfl rfl (by kernel_rfl) (OK_gt (t := 19) rfl rfl (fun q => EX_s (PS_move rfl))) ?_
  refine Plan_float 7 rfl rfl (by kernel_rfl) (OK_gt (t := 19) rfl rfl (fun q => EX_s (PS_nilCheck (cvE rfl q)))) ?_
  refine Plan_float 8 rfl rfl (by kernel_rfl) (OK_gt (t := 19) rfl rfl (fun q => EX_s (PS_fieldAddr fa28_3 (cvE rfl q)))) ?_
  refine Plan_float 9 rfl rfl (by kernel_rfl) (OK_gt (t := 19) rfl rfl (fun q => by have q1 := q; (try simp at q1); exact EX_s (PS_load (cvE rfl q) tys3 (.head _) (((TurnV.l0.comp Land.l1).comp (Lens.arr (n := 9) Thing.fl (by first | omega | exact hb.1 | exact hb.2 | (rw [hI13]; first | exact hb.1 | exact hb.2) | (dsimp only; omega) | (rw [hb9.1]; first | exact hb.1 | exact hb.2)) (by first | omega | exact hb.1 | exact hb.2 | (rw [hI13]; first | exact hb.1 | exact hb.2) | (dsimp only; omega) | (rw [hb9.1]; first | exact hb.1 | exact hb.2)))).comp Thing.l3) rfl rfl))) ?_
  refine Plan_float 10 rfl rfl (by kernel_rfl) (OK_gt (t := 19) rfl rfl (fun q => EX_s (PS_move rfl))) ?_
  refine Plan_float 11 rfl rfl (by kernel_rfl) (OK_gt (t := 19) rfl rfl (fun q => EX_s (PS_nilCheck (cvE rfl q)))) ?_
  refine Plan_float 12 rfl rfl (by kernel_rfl) (OK_gt (t := 19) rfl rfl (fun q => EX_s (PS_fieldAddr fa57_1 (cvE rfl q)))) ?_
  refine Plan_float 13 rfl rfl (by kernel_rfl) (OK_gt (t := 19) rfl rfl (fun q => EX_s (PS_load (cvE rfl q) tys3 (.head _) TurnV.l1 rfl rfl))) ?_
  refine Plan_float 14 rfl rfl (by kernel_rfl) (OK_gt (t := 19) rfl rfl (fun q => EX_s (PS_eql (cvE rfl q) (cvE rfl q)))) ?_
  refine Plan_float 15 rfl rfl (by kernel_rfl) (OK_s (EX_s (PS_and rfl rfl (fun h => h)))) ?_
  refine Plan_end (by kernel_rfl) ?_
  refine GQ_sub (.cons (k := 0) rfl (.cons (k := 3) rfl (.cons (k := 5) rfl (.cons (k := 29) rfl (.nil _))))) ?_
  refine GQ_then ?_
  refine G_cond rfl (fun c2 => ?_) (fun c2 => ?_)
  ·
   have c2p := kz c2
   try dsimp only at c2p
   refine G_seq ?_
   refine G_region ?_
   refine GL_step rfl (PS_move rfl) ?_
   refine GL_step rfl (PS_move rfl) ?_
   refine GL_step rfl (PS_move rfl) ?_
   refine GL_callL rfl cf51 (.cons rfl .nil) (.cons .head .nil) (ref_turn_here_spec _ X _ (hIF)) (fun v1 B hv => ?_)
   obtain ⟨rfl, rfl⟩ := hv
   refine GL_step rfl (PS_nilCheck rfl) ?_
   refine GL_step rfl (PS_fieldAddr fa28_2 rfl) ?_
   refine GL_unit (PU_store (((TurnV.l0.comp Land.l1).comp (Lens.arr (n := 9) Thing.fl (by first | omega | exact hb.1 | exact hb.2 | (rw [hI13]; first | exact hb.1 | exact hb.2) | (dsimp only; omega) | (rw [hb9.1]; first | exact hb.1 | exact hb.2)) (by first | omega | exact hb.1 | exact hb.2 | (rw [hI13]; first | exact hb.1 | exact hb.2) | (dsimp only; omega) | (rw [hb9.1]; first | exact hb.1 | exact hb.2)))).comp Thing.l2) rfl rfl rfl sz3 rfl .head) ?_
   refine GL_step rfl (PS_nilCheck rfl) ?_
   refine GL_step rfl (PS_fieldAddr fa28_3 rfl) ?_
   refine GL_unit (PU_store (((TurnV.l0.comp Land.l1).comp (Lens.arr (n := 9) Thing.fl (by first | omega | exact hb.1 | exact hb.2 | (rw [hI13]; first | exact hb.1 | exact hb.2) | (dsimp only; omega) | (rw [hb9.1]; first | exact hb.1 | exact hb.2)) (by first | omega | exact hb.1 | exact hb.2 | (rw [hI13]; first | exact hb.1 | exact hb.2) | (dsimp only; omega) | (rw [hb9.1]; first | exact hb.1 | exact hb.2)))).comp Thing.l3) rfl rfl rfl sz3 rfl .head) ?_
   refine GL_nil ?_
   refine GQ_sub (.cons (k := 0) rfl (.cons (k := 3) rfl (.cons (k := 5) rfl (.nil _)))) ?_
   refine GQ_then ?_
   refine G_seq ?_
   refine G_region ?_
   refine GL_step rfl (PS_move rfl) ?_
   refine GL_step rfl (PS_nilCheck rfl) ?_
   refine GL_step rfl (PS_fieldAddr fa28_1 rfl) ?_
   refine GL_step rfl (PS_load rfl tys3 (.head _) (((TurnV.l0.comp Land.l1).comp (Lens.arr (n := 9) Thing.fl (by first | omega | exact hb.1 | exact hb.2 | (rw [hI13]; first | exact hb.1 | exact hb.2) | (dsimp only; omega) | (rw [hb9.1]; first | exact hb.1 | exact hb.2)) (by first | omega | exact hb.1 | exact hb.2 | (rw [hI13]; first | exact hb.1 | exact hb.2) | (dsimp only; omega) | (rw [hb9.1]; first | exact hb.1 | exact hb.2)))).comp Thing.l1) rfl rfl) ?_
   refine GL_step rfl (PS_eql rfl rfl) ?_
   refine GL_nil ?_
   refine GQ_sub (.cons (k := 0) rfl (.cons (k := 3) rfl (.cons (k := 5) rfl (.cons (k := 42) rfl (.nil _))))) ?_
   refine GQ_then ?_
   refine G_cond rfl (fun c3 => ?_) (fun c3 => ?_)
   ·
    have c3p := kz c3
    try dsimp only at c3p
    refine G_region ?_
    refine GL_step rfl (PS_move rfl) ?_
    refine GL_step rfl (PS_nilCheck rfl) ?_
    refine GL_step rfl (PS_fieldAddr fa28_4 rfl) ?_
    refine GL_unit (PU_store (((TurnV.l0.comp Land.l1).comp (Lens.arr (n := 9) Thing.fl (by first | omega | exact hb.1 | exact hb.2 | (rw [hI13]; first | exact hb.1 | exact hb.2) | (dsimp only; omega) | (rw [hb9.1]; first | exact hb.1 | exact hb.2)) (by first | omega | exact hb.1 | exact hb.2 | (rw [hI13]; first | exact hb.1 | exact hb.2) | (dsimp only; omega) | (rw [hb9.1]; first | exact hb.1 | exact hb.2)))).comp Thing.l4) rfl rfl rfl sz4 rfl .head) ?_
    refine GL_nil ?_
    refine GQ_sub (.cons (k := 0) rfl (.cons (k := 5) rfl (.nil _))) ?_
    refine GQ_block ?_
    refine GQ_then ?_
    refine G_swap (fun _ => .head) (congrArg (fun q => TurnV.enc ⟨q, _, _⟩) (Turn.leave_t X hI11 (show k < 9 by omega) c3)) ?_
    refine G_region ?_
    refine GL_step rfl (PS_add rfl rfl (IntWalk.i64_in _ (by first | omega | exact hb.1 | exact hb.2 | (rw [hI13]; first | exact hb.1 | exact hb.2) | (dsimp only; omega) | (rw [hb9.1]; first | exact hb.1 | exact hb.2)))) ?_
    refine GL_step rfl (PS_move rfl) ?_
    refine GL_nil ?_
    refine GQ_sub (.cons (k := 0) rfl (.cons (k := 5) rfl (.nil _))) ?_
    refine GQ_next2_ (k + 1) (X.dropOne k) ?_ ?_ (.cons (k := 5) rfl (.cons (k := 0) rfl (.nil _))) (.refl _)
    · exact ⟨by omega, by rw [Turn.leaveK_step hI11, ← hI12, if_t c2], hI13, by omega⟩
    · omega
   have c3p := kz c3
   try dsimp only at c3p
   refine G_skip ?_
   refine GQ_sub (.cons (k := 0) rfl (.cons (k := 5) rfl (.nil _))) ?_
   refine GQ_block ?_
   refine GQ_then ?_
   refine G_swap (fun _ => .head) (congrArg (fun q => TurnV.enc ⟨q, _, _⟩) (Turn.leave_f X hI11 (show k < 9 by omega) c3)) ?_
   refine G_region ?_
   refine GL_step rfl (PS_add rfl rfl (IntWalk.i64_in _ (by first | omega | exact hb.1 | exact hb.2 | (rw [hI13]; first | exact hb.1 | exact hb.2) | (dsimp only; omega) | (rw [hb9.1]; first | exact hb.1 | exact hb.2)))) ?_
   refine GL_step rfl (PS_move rfl) ?_
   refine GL_nil ?_
   refine GQ_sub (.cons (k := 0) rfl (.cons (k := 5) rfl (.nil _))) ?_
   refine GQ_next2_ (k + 1) (X.dropOne k) ?_ ?_ (.cons (k := 5) rfl (.cons (k := 0) rfl (.nil _))) (.refl _)
   · exact ⟨by omega, by rw [Turn.leaveK_step hI11, ← hI12, if_t c2], hI13, by omega⟩
   · omega
  have c2p := kz c2
  try dsimp only at c2p
  refine G_skip ?_
  refine GQ_sub (.cons (k := 0) rfl (.cons (k := 5) rfl (.nil _))) ?_
  refine GQ_block ?_
  refine GQ_then ?_
  refine G_region ?_
  refine GL_step rfl (PS_add rfl rfl (IntWalk.i64_in _ (by first | omega | exact hb.1 | exact hb.2 | (rw [hI13]; first | exact hb.1 | exact hb.2) | (dsimp only; omega) | (rw [hb9.1]; first | exact hb.1 | exact hb.2)))) ?_
  refine GL_step rfl (PS_move rfl) ?_
  refine GL_nil ?_
  refine GQ_sub (.cons (k := 0) rfl (.cons (k := 5) rfl (.nil _))) ?_
  refine GQ_next2_ (k + 1) (X) ?_ ?_ (.cons (k := 5) rfl (.cons (k := 0) rfl (.nil _))) (.refl _)
  · exact ⟨by omega, by rw [Turn.leaveK_step hI11, ← hI12, if_f c2], hI13, by omega⟩
  · omega
 have c1p := kz c1
 try dsimp only at c1p
 obtain rfl : k = 9 := by omega
 have hX : X = T.leaveK 9 := hI12
 refine G_exit ?_
 refine GQ_then_exit ?_
 refine GQ_then_exit ?_
 refine GQ_block_exit ?_
 refine GQ_sub (.cons (k := 0) rfl (.nil _)) ?_
 refine GQ_then ?_
 refine G_seq ?_
 have hb9 := Turn.leaveK_b T 9 (Nat.le_refl _)
 refine G_planN (N := 11) [0, 0, 2, 6, 14, 1, 33, 97, 255, 511, 1023] mix (by kernel_rfl) rfl ?_
 refine Plan_float 0 rfl rfl (by kernel_rfl) (OK_s (EX_s (PS_move rfl))) ?_
 refine Plan_float 1 rfl rfl (by kernel_rfl) (OK_s (EX_s (PS_move rfl))) ?_
 refine Plan_float 2 rfl rfl (by kernel_rfl) (OK_s (EX_s (PS_nilCheck rfl))) ?_
 refine Plan_float 3 rfl rfl (by kernel_rfl) (OK_s (EX_s (PS_fieldAddr fa57_1 rfl))) ?_
 refine Plan_float 4 rfl rfl (by kernel_rfl) (OK_s (EX_s (PS_load rfl tys3 (.head _) TurnV.l1 rfl rfl))) ?_
 refine Plan_float 5 rfl rfl (by kernel_rfl) (OK_s (EX_s (PS_nilCheck rfl))) ?_
 refine Plan_float 6 rfl rfl (by kernel_rfl) (OK_s (EX_s (PS_fieldAddr fa57_0 rfl))) ?_
 refine Plan_float 7 rfl rfl (by kernel_rfl) (OK_s (EX_s (PS_fieldAddr fa34_2 rfl))) ?_
 refine Plan_float 8 rfl rfl (by kernel_rfl) (OK_s (EX_s (PS_indexAddr ia32 rfl rfl (by first | omega | exact hb.1 | exact hb.2 | (rw [hI13]; first | exact hb.1 | exact hb.2) | (dsimp only; omega) | (rw [hb9.1]; first | exact hb.1 | exact hb.2)) (by first | omega | exact hb.1 | exact hb.2 | (rw [hI13]; first | exact hb.1 | exact hb.2) | (dsimp only; omega) | (rw [hb9.1]; first | exact hb.1 | exact hb.2))))) ?_
 refine Plan_float 9 rfl rfl (by kernel_rfl) (OK_s (EX_s (PS_fieldAddr fa31_5 rfl))) ?_
 refine Plan_chain 10 rfl (by kernel_rfl) ?_
 refine GL_unit (PU_store (((TurnV.l0.comp Land.l2).comp (Lens.arr (n := 6) Being.fl (by first | omega | exact hb.1 | exact hb.2 | (rw [hI13]; first | exact hb.1 | exact hb.2) | (dsimp only; omega) | (rw [hb9.1]; first | exact hb.1 | exact hb.2)) (by first | omega | exact hb.1 | exact hb.2 | (rw [hI13]; first | exact hb.1 | exact hb.2) | (dsimp only; omega) | (rw [hb9.1]; first | exact hb.1 | exact hb.2)))).comp Being.l5) rfl rfl rfl sz3 rfl .head) ?_
 refine GL_hand0 rfl ⟨?_, ?_⟩
 · exact (Pend_skip (by kernel_rfl) (Pend_skip (by kernel_rfl) (Pend_skip (by kernel_rfl) (Pend_skip (by kernel_rfl) (Pend_skip (by kernel_rfl) (Pend_skip (by kernel_rfl) (Pend_skip (by kernel_rfl) (Pend_skip (by kernel_rfl) (Pend_skip (by kernel_rfl) (Pend_skip (by kernel_rfl) Pend_nil))))))))))
 refine Plan_end (by kernel_rfl) ?_
 refine GQ_sub (.cons (k := 0) rfl (.nil _)) ?_
 refine GQ_then ?_
 refine G_seq ?_
 refine G_region ?_
 refine GL_step rfl (PS_move rfl) ?_
 refine GL_nil ?_
 refine GQ_then ?_
 refine G_block ?_
 refine G_subF (.cons (k := 57) rfl (.cons (k := 0) rfl (.nil _))) ?_
 refine G_loop2_ (fun (k : Int) (Y : Turn) => 0 ≤ k ∧ Y = (Turn.setFoe X X.b 0).calmK k.toNat ∧ Y.b = X.b ∧ k ≤ 6) (fun (k : Int) (Y : Turn) => (6 - k).toNat) (fun (k : Int) (Y : Turn) => [(57, .int .i64 k)]) (fun (k : Int) (Y : Turn) => [Res.box b 57 (TurnV.enc ⟨Y.w, Y.b, g⟩)]) (0) (Turn.setFoe X X.b 0) ?_ rfl rfl (fun k Y hI2 => ?_)
 · exact ⟨by omega, rfl, rfl, by omega⟩
 obtain ⟨hI21, hI22, hI23, hI24⟩ := hI2
 refine G_seq ?_
 refine G_region ?_
 refine GL_step rfl (PS_lss rfl rfl) ?_
 refine GL_nil ?_
 refine GQ_then ?_
 refine G_seq ?_
 refine G_cond rfl (fun c4 => ?_) (fun c4 => ?_)
 ·
  have c4p := kz c4
  try dsimp only at c4p
  refine G_skip ?_
  refine GQ_sub (.cons (k := 0) rfl (.cons (k := 57) rfl (.nil _))) ?_
  refine GQ_then ?_
  refine G_seq ?_
  refine G_block ?_
  refine G_seq ?_
  refine G_region ?_
  refine GL_step rfl (PS_move rfl) ?_
  refine GL_step rfl (PS_assign rfl) ?_
  refine GL_nil ?_
  refine GQ_sub (.cons (k := 0) rfl (.cons (k := 4) rfl (.cons (k := 57) rfl (.nil _)))) ?_
  refine GQ_then ?_
  refine G_seq ?_
  refine G_planN (N := 14) [0, 0, 1, 5, 13, 31, 63, 127, 0, 256, 768, 1792, 3840, 8191] mix (by kernel_rfl) rfl ?_
  refine Plan_float 0 rfl rfl (by kernel_rfl) (OK_s (EX_s (PS_move rfl))) ?_
  refine Plan_float 1 rfl rfl (by kernel_rfl) (OK_s (EX_s (PS_move rfl))) ?_
  refine Plan_float 2 rfl rfl (by kernel_rfl) (OK_s (EX_s (PS_nilCheck rfl))) ?_
  refine Plan_float 3 rfl rfl (by kernel_rfl) (OK_s (EX_s (PS_fieldAddr fa57_0 rfl))) ?_
  refine Plan_float 4 rfl rfl (by kernel_rfl) (OK_s (EX_s (PS_fieldAddr fa34_2 rfl))) ?_
  refine Plan_float 5 rfl rfl (by kernel_rfl) (OK_s (EX_s (PS_indexAddr ia32 rfl rfl (by first | omega | exact hb.1 | exact hb.2 | (rw [hI13]; first | exact hb.1 | exact hb.2) | (dsimp only; omega) | (rw [hb9.1]; first | exact hb.1 | exact hb.2)) (by first | omega | exact hb.1 | exact hb.2 | (rw [hI13]; first | exact hb.1 | exact hb.2) | (dsimp only; omega) | (rw [hb9.1]; first | exact hb.1 | exact hb.2))))) ?_
  refine Plan_float 6 rfl rfl (by kernel_rfl) (OK_s (EX_s (PS_fieldAddr fa31_5 rfl))) ?_
  refine Plan_float 7 rfl rfl (by kernel_rfl) (OK_s (EX_s (PS_load rfl tys3 (.head _) (((TurnV.l0.comp Land.l2).comp (Lens.arr (n := 6) Being.fl (by first | omega | exact hb.1 | exact hb.2 | (rw [hI13]; first | exact hb.1 | exact hb.2) | (dsimp only; omega) | (rw [hb9.1]; first | exact hb.1 | exact hb.2)) (by first | omega | exact hb.1 | exact hb.2 | (rw [hI13]; first | exact hb.1 | exact hb.2) | (dsimp only; omega) | (rw [hb9.1]; first | exact hb.1 | exact hb.2)))).comp Being.l5) rfl rfl))) ?_
  refine Plan_float 8 rfl rfl (by kernel_rfl) (OK_s (EX_s (PS_move rfl))) ?_
  refine Plan_float 9 rfl rfl (by kernel_rfl) (OK_s (EX_s (PS_nilCheck rfl))) ?_
  refine Plan_float 10 rfl rfl (by kernel_rfl) (OK_s (EX_s (PS_fieldAddr fa57_1 rfl))) ?_
  refine Plan_float 11 rfl rfl (by kernel_rfl) (OK_s (EX_s (PS_load rfl tys3 (.head _) TurnV.l1 rfl rfl))) ?_
  refine Plan_float 12 rfl rfl (by kernel_rfl) (OK_s (EX_s (PS_add rfl rfl (IntWalk.i64_in _ (by first | omega | exact hb.1 | exact hb.2 | (rw [hI13]; first | exact hb.1 | exact hb.2) | (dsimp only; omega) | (rw [hb9.1]; first | exact hb.1 | exact hb.2)))))) ?_
  refine Plan_float 13 rfl rfl (by kernel_rfl) (OK_s (EX_s (PS_eql rfl rfl))) ?_
  refine Plan_end (by kernel_rfl) ?_
  refine GQ_sub (.cons (k := 0) rfl (.cons (k := 4) rfl (.cons (k := 57) rfl (.cons (k := 73) rfl (.nil _))))) ?_
  refine GQ_then ?_
  refine G_cond rfl (fun c5 => ?_) (fun c5 => ?_)
  ·
   have c5p := kz c5
   try dsimp only at c5p
   have hcb : decide ((Y.w.beings.at k).foe = (Turn.setFoe X X.b 0).b + 1) = true := by rw [show (Turn.setFoe X X.b 0).b = X.b from rfl, ← hI23]; exact c5
   refine G_region ?_
   refine GL_step rfl (PS_move rfl) ?_
   refine GL_step rfl (PS_move rfl) ?_
   refine GL_step rfl (PS_nilCheck rfl) ?_
   refine GL_step rfl (PS_fieldAddr fa57_0 rfl) ?_
   refine GL_step rfl (PS_fieldAddr fa34_2 rfl) ?_
   refine GL_step rfl (PS_indexAddr ia32 rfl rfl (by first | omega | exact hb.1 | exact hb.2 | (rw [hI13]; first | exact hb.1 | exact hb.2) | (dsimp only; omega) | (rw [hb9.1]; first | exact hb.1 | exact hb.2)) (by first | omega | exact hb.1 | exact hb.2 | (rw [hI13]; first | exact hb.1 | exact hb.2) | (dsimp only; omega) | (rw [hb9.1]; first | exact hb.1 | exact hb.2))) ?_
   refine GL_step rfl (PS_fieldAddr fa31_5 rfl) ?_
   refine GL_unit (PU_store (((TurnV.l0.comp Land.l2).comp (Lens.arr (n := 6) Being.fl (by first | omega | exact hb.1 | exact hb.2 | (rw [hI13]; first | exact hb.1 | exact hb.2) | (dsimp only; omega) | (rw [hb9.1]; first | exact hb.1 | exact hb.2)) (by first | omega | exact hb.1 | exact hb.2 | (rw [hI13]; first | exact hb.1 | exact hb.2) | (dsimp only; omega) | (rw [hb9.1]; first | exact hb.1 | exact hb.2)))).comp Being.l5) rfl rfl rfl sz3 rfl .head) ?_
   refine GL_nil ?_
   refine GQ_sub (.cons (k := 0) rfl (.cons (k := 57) rfl (.nil _))) ?_
   refine GQ_block ?_
   refine GQ_then ?_
   refine G_region ?_
   refine GL_step rfl (PS_add rfl rfl (IntWalk.i64_in _ (by first | omega | exact hb.1 | exact hb.2 | (rw [hI13]; first | exact hb.1 | exact hb.2) | (dsimp only; omega) | (rw [hb9.1]; first | exact hb.1 | exact hb.2)))) ?_
   refine GL_step rfl (PS_move rfl) ?_
   refine GL_nil ?_
   refine GQ_sub (.cons (k := 0) rfl (.cons (k := 57) rfl (.nil _))) ?_
   refine GQ_next2_ (k + 1) (Y.setFoe k 0) ?_ ?_ (.cons (k := 57) rfl (.cons (k := 0) rfl (.nil _))) (.refl _)
   · exact ⟨by omega, by rw [Turn.calmK_step hI21, ← hI22, if_t hcb], hI23, by omega⟩
   · omega
  have c5p := kz c5
  try dsimp only at c5p
  have hcb : decide ((Y.w.beings.at k).foe = (Turn.setFoe X X.b 0).b + 1) = false := by rw [show (Turn.setFoe X X.b 0).b = X.b from rfl, ← hI23]; exact c5
  refine G_skip ?_
  refine GQ_sub (.cons (k := 0) rfl (.cons (k := 57) rfl (.nil _))) ?_
  refine GQ_block ?_
  refine GQ_then ?_
  refine G_region ?_
  refine GL_step rfl (PS_add rfl rfl (IntWalk.i64_in _ (by first | omega | exact hb.1 | exact hb.2 | (rw [hI13]; first | exact hb.1 | exact hb.2) | (dsimp only; omega) | (rw [hb9.1]; first | exact hb.1 | exact hb.2)))) ?_
  refine GL_step rfl (PS_move rfl) ?_
  refine GL_nil ?_
  refine GQ_sub (.cons (k := 0) rfl (.cons (k := 57) rfl (.nil _))) ?_
  refine GQ_next2_ (k + 1) (Y) ?_ ?_ (.cons (k := 57) rfl (.cons (k := 0) rfl (.nil _))) (.refl _)
  · exact ⟨by omega, by rw [Turn.calmK_step hI21, ← hI22, if_f hcb], hI23, by omega⟩
  · omega
 have c4p := kz c4
 try dsimp only at c4p
 obtain rfl : k = 6 := by omega
 refine G_exit ?_
 refine GQ_then_exit ?_
 refine GQ_then_exit ?_
 refine GQ_block_exit ?_
 refine GQ_end rfl .nil ?_
 intro w1 hS
 have hS := (hS.perm (Pulls.perm (.cons .head .nil))).headL
 have hq : T.fall.w = Y.w := by rw [← Turn.leave_fall T hb, ← hX, hI22]; rfl
 exact ⟨_, ⟨_, rfl, rfl, by rw [hq, ← hI13, ← hI23]⟩, hS⟩
theorem ref_turn_tell_spec (b : Nat) (T : Turn) (g : Hd) (u : Str) (hg : g.len = T.out.length) (hb : 0 ≤ T.b ∧ T.b < 6) (hn : T.out.length ≤ 100000) : Ctr Tryz.prog 39 #[.pointer (some ⟨b, 0, none⟩), vstr u] [Res.box b 57 (TurnV.enc ⟨T.w, T.b, g⟩), Res.own g 60 16 (T.out.flatMap Ing.Event.enc)] (fun v B => ∃ g' : Hd, v = .tuple #[] ∧ g'.len = (T.tell u).out.length ∧ B = [Res.box b 57 (TurnV.enc ⟨(T.tell u).w, (T.tell u).b, g'⟩), Res.own g' 60 16 ((T.tell u).out.flatMap Ing.Event.enc)]) := by
 intro w hS0
 refine Ret_body _ _ Tryz.func39 rfl rfl rfl (hS0) ?_
 refine G_region ?_
 refine GL_step rfl (PS_move rfl) ?_
 refine GL_step rfl (PS_move rfl) ?_
 refine GL_callL rfl cf20 (.cons rfl (.cons rfl (.cons rfl (.cons rfl (.cons rfl (.cons rfl (.cons rfl .nil))))))) (.cons .head (.cons .head .nil)) (ref_turn_add_spec _ _ _ 16 (-1) 0 0 [] u hg hb (show (-1 : Int) < 6 by decide) hn) (fun v1 B hv => ?_)
 obtain ⟨y2, rfl, y3, rfl⟩ := hv
 refine GL_nil ?_
 refine GQ_end rfl .nil ?_
 intro w1 hS
 have hS := (hS.perm (Pulls.perm (.cons .head (.cons .head .nil)))).headL
 exact ⟨_, ⟨_, rfl, by assumption, rfl⟩, hS⟩
theorem ref_HasAt_spec (X : Land) (whr at_ : Int) : Ctr Tryz.prog 68 #[.agg X.enc.toArray, .int .i64 whr, .int .i64 at_] [] (fun v B => ∃ h' : Hd, v = h'.val ∧ h'.len = (X.has whr at_).length ∧ B = [Res.own h' 3 1 ((X.has whr at_).flatMap encI)]) := by
 intro w hS0
 refine Ret_body _ _ Tryz.func68 rfl rfl rfl (hS0) ?_
 refine G_seq ?_
 refine G_region ?_
 refine GL_box rfl rfl rfl (fun b1 => ?_)
 refine GL_step rfl (PS_assign rfl) ?_
 refine GL_nil ?_
 refine GQ_sub (.cons (k := 1) rfl (.cons (k := 2) rfl (.cons (k := 3) rfl (.nil _)))) ?_
 refine GQ_then ?_
 refine G_seq ?_
 refine G_region ?_
 refine GL_step rfl (PS_assign rfl) ?_
 refine GL_nil ?_
 refine GQ_then ?_
 refine G_seq ?_
 refine G_seq ?_
 refine G_region ?_
 refine GL_step rfl (PS_move rfl) ?_
 refine GL_nil ?_
 refine GQ_then ?_
 refine G_block ?_
 refine G_subF (.cons (k := 7) rfl (.cons (k := 9) rfl (.cons (k := 1) rfl (.cons (k := 2) rfl (.cons (k := 3) rfl (.nil _)))))) ?_
 refine G_nilF encI 3 1 ?_
 refine G_loop3_ (fun (k : Int) (xs : List Int) (g : Hd) => 0 ≤ k ∧ k ≤ 9 ∧ xs = X.hasL whr at_ k.toNat ∧ g.len = xs.length) (fun (k : Int) (xs : List Int) (g : Hd) => (9 - k).toNat) (fun (k : Int) (xs : List Int) (g : Hd) => [(7, g.val), (9, .int .i64 k)]) (fun (k : Int) (xs : List Int) (g : Hd) => [Res.own g 3 1 (xs.flatMap encI)]) (0) ([]) (_) ?_ rfl rfl (fun k xs g hI1 => ?_)
 · exact ⟨by omega, by omega, rfl, rfl⟩
 obtain ⟨hI11, hI12, hI13, hI14⟩ := hI1
 refine G_seq ?_
 refine G_region ?_
 refine GL_step rfl (PS_lss rfl rfl) ?_
 refine GL_nil ?_
 refine GQ_then ?_
 refine G_seq ?_
 refine G_cond rfl (fun c1 => ?_) (fun c1 => ?_)
 ·
  have c1p := kz c1
  try dsimp only at c1p
  have hxl := Land.hasL_len X whr at_ k.toNat
  rw [← hI13] at hxl
  refine G_skip ?_
  refine GQ_sub (.cons (k := 1) rfl (.cons (k := 2) rfl (.cons (k := 3) rfl (.cons (k := 7) rfl (.cons (k := 9) rfl (.nil _)))))) ?_
  refine GQ_then ?_
  refine G_seq ?_
  refine G_block ?_
  refine G_seq ?_
  refine G_region ?_
  refine GL_step rfl (PS_move rfl) ?_
  refine GL_step rfl (PS_assign rfl) ?_
  refine GL_nil ?_
  refine GQ_sub (.cons (k := 1) rfl (.cons (k := 2) rfl (.cons (k := 3) rfl (.cons (k := 7) rfl (.cons (k := 8) rfl (.cons (k := 9) rfl (.nil _))))))) ?_
  refine GQ_then ?_
  refine G_seq ?_
  refine G_region ?_
  refine GL_step rfl (PS_move rfl) ?_
  refine GL_step rfl (PS_fieldAddr fa34_1 rfl) ?_
  refine GL_step rfl (PS_indexAddr ia29 rfl rfl (by omega) (by omega)) ?_
  refine GL_step rfl (PS_fieldAddr fa28_3 rfl) ?_
  refine GL_step rfl (PS_load rfl tys3 (.tail _ (.head _)) ((Land.l1.comp (Lens.arr (n := 9) Thing.fl (by omega) (by omega))).comp Thing.l3) rfl rfl) ?_
  refine GL_step rfl (PS_move rfl) ?_
  refine GL_step rfl (PS_eql rfl rfl) ?_
  refine GL_step rfl (PS_move rfl) ?_
  refine GL_gt (t := 19) rfl rfl rfl (fun q => PS_move rfl) ?_
  refine GL_gt (t := 19) rfl rfl rfl (fun q => PS_fieldAddr fa34_1 rfl) ?_
  refine GL_gt (t := 19) rfl rfl rfl (fun q => by have q1 := q; (try simp at q1); exact PS_indexAddr ia29 (cvE rfl q) (cvE rfl q) (by omega) (by omega)) ?_
  refine GL_gt (t := 19) rfl rfl rfl (fun q => PS_fieldAddr fa28_2 (cvE rfl q)) ?_
  refine GL_gt (t := 19) rfl rfl rfl (fun q => by have q1 := q; (try simp at q1); exact PS_load (cvE rfl q) tys3 (.tail _ (.head _)) ((Land.l1.comp (Lens.arr (n := 9) Thing.fl (by omega) (by omega))).comp Thing.l2) rfl rfl) ?_
  refine GL_gt (t := 19) rfl rfl rfl (fun q => PS_move rfl) ?_
  refine GL_gt (t := 19) rfl rfl rfl (fun q => PS_eql (cvE rfl q) (cvE rfl q)) ?_
  refine GL_step rfl (PS_and rfl rfl (fun h => h)) ?_
  refine GL_nil ?_
  refine GQ_sub (.cons (k := 1) rfl (.cons (k := 2) rfl (.cons (k := 3) rfl (.cons (k := 7) rfl (.cons (k := 8) rfl (.cons (k := 9) rfl (.cons (k := 27) rfl (.nil _)))))))) ?_
  refine GQ_then ?_
  refine G_cond rfl (fun c2 => ?_) (fun c2 => ?_)
  ·
   have c2p := kz c2
   try dsimp only at c2p
   refine G_region ?_
   refine GL_step rfl (PS_move rfl) ?_
   refine GL_step rfl (PS_move rfl) ?_
   refine GL_bs1F encI flI rfl Tryz.underlying66 sz3 zv3 rfl (by decide) (by decide) rfl rfl (fun b2 => ?_)
   refine GL_appendF flI rfl Tryz.underlying66 sz3 zv3 rfl by3 (by decide) (by decide) rfl rfl (fun w hS => Src.sliceT Tryz.underlying66 ((Kn.own (.head _)) w hS)) (by (try dsimp only); omega) (fun _ => (.tail .head)) (fun h1 h1l h1z => ?_)
   refine GL_step rfl (PS_assign rfl) ?_
   refine GL_nil ?_
   refine GQ_sub (.cons (k := 1) rfl (.cons (k := 2) rfl (.cons (k := 3) rfl (.cons (k := 7) rfl (.cons (k := 9) rfl (.nil _)))))) ?_
   refine GQ_block ?_
   refine GQ_then ?_
   refine G_region ?_
   refine GL_step rfl (PS_add rfl rfl (IntWalk.i64_in _ (by omega))) ?_
   refine GL_step rfl (PS_move rfl) ?_
   refine GL_nil ?_
   refine GQ_sub (.cons (k := 1) rfl (.cons (k := 2) rfl (.cons (k := 3) rfl (.cons (k := 7) rfl (.cons (k := 9) rfl (.nil _)))))) ?_
   refine GQ_next3_ (k + 1) _ _ ?_ ?_ (.cons (k := 7) rfl (.cons (k := 9) rfl (.cons (k := 1) rfl (.cons (k := 2) rfl (.cons (k := 3) rfl (.nil _)))))) (.cons _ (.refl _))
   · exact ⟨by omega, by omega, by rw [Land.hasL_t hI11 ((Bool.and_comm _ _).trans c2), ← hI13], (by (try dsimp only at *) <;> (try simp only [List.length_append, List.length_cons, List.length_nil]) <;> omega)⟩
   · omega
  have c2p := kz c2
  try dsimp only at c2p
  refine G_skip ?_
  refine GQ_sub (.cons (k := 1) rfl (.cons (k := 2) rfl (.cons (k := 3) rfl (.cons (k := 7) rfl (.cons (k := 9) rfl (.nil _)))))) ?_
  refine GQ_block ?_
  refine GQ_then ?_
  refine G_region ?_
  refine GL_step rfl (PS_add rfl rfl (IntWalk.i64_in _ (by omega))) ?_
  refine GL_step rfl (PS_move rfl) ?_
  refine GL_nil ?_
  refine GQ_sub (.cons (k := 1) rfl (.cons (k := 2) rfl (.cons (k := 3) rfl (.cons (k := 7) rfl (.cons (k := 9) rfl (.nil _)))))) ?_
  refine GQ_next3_ (k + 1) _ _ ?_ ?_ (.cons (k := 7) rfl (.cons (k := 9) rfl (.cons (k := 1) rfl (.cons (k := 2) rfl (.cons (k := 3) rfl (.nil _)))))) (.refl _)
  · exact ⟨by omega, by omega, by rw [Land.hasL_f hI11 ((Bool.and_comm _ _).trans c2), ← hI13], (by (try dsimp only at *) <;> (try simp only [List.length_append, List.length_cons, List.length_nil]) <;> omega)⟩
  · omega
 have c1p := kz c1
 try dsimp only at c1p
 obtain rfl : k = 9 := by omega
 refine G_exit ?_
 refine GQ_then_exit ?_
 refine GQ_then_exit ?_
 refine GQ_block_exit ?_
 refine GQ_sub (.cons (k := 7) rfl (.nil _)) ?_
 refine GQ_then ?_
 refine G_seq ?_
 refine G_region ?_
 refine GL_step rfl (PS_move rfl) ?_
 refine GL_step rfl (PS_assign rfl) ?_
 refine GL_nil ?_
 refine GQ_sub (.cons (k := 6) rfl (.nil _)) ?_
 refine GQ_then ?_
 refine G_ret ?_
 refine GQ_ret rfl (.tmp rfl .nil) ?_
 intro w1 hS
 have hS := (hS.perm (Pulls.perm (.cons .head .nil))).headL
 exact ⟨_, ⟨_, rfl, by rw [Land.has_eq, ← hI13]; assumption, by rw [Land.has_eq, ← hI13]⟩, hS⟩
theorem ref_turn_inSight_spec (b : Nat) (T : Turn) (g : Hd) (hF : T.Fit) : Ctr Tryz.prog 52 #[.pointer (some ⟨b, 0, none⟩)] [Res.box b 57 (TurnV.enc ⟨T.w, T.b, g⟩)] (fun v B => ∃ f : Hd, v = f.val ∧ f.len = (T.seen).length ∧ B = [Res.box b 57 (TurnV.enc ⟨T.w, T.b, g⟩), Res.own f 3 1 ((T.seen).flatMap encI)]) := by
 intro w hS0
 have hb := hF.b
 have hr := hF.room
 refine Ret_body _ _ Tryz.func52 rfl rfl rfl (hS0) ?_
 refine G_seq ?_
 refine G_region ?_
 refine GL_step rfl (PS_assign rfl) ?_
 refine GL_nil ?_
 refine GQ_sub (.cons (k := 0) rfl (.nil _)) ?_
 refine GQ_then ?_
 refine G_seq ?_
 refine G_seq ?_
 refine G_planN (N := 8) [0, 1, 3, 7, 0, 16, 63, 127] mix (by kernel_rfl) rfl ?_
 refine Plan_float 0 rfl rfl (by kernel_rfl) (OK_s (EX_s (PS_move rfl))) ?_
 refine Plan_float 1 rfl rfl (by kernel_rfl) (OK_s (EX_s (PS_nilCheck rfl))) ?_
 refine Plan_float 2 rfl rfl (by kernel_rfl) (OK_s (EX_s (PS_fieldAddr fa57_0 rfl))) ?_
 refine Plan_float 3 rfl rfl (by kernel_rfl) (OK_s (EX_s (PS_loadA rfl tya34 (.head _) TurnV.l0 rfl))) ?_
 refine Plan_float 4 rfl rfl (by kernel_rfl) (OK_s (EX_s (PS_move rfl))) ?_
 refine Plan_chain 5 rfl (by kernel_rfl) ?_
 refine GL_callL rfl cf51 (.cons rfl .nil) (.cons .head .nil) (ref_turn_here_spec _ T _ hF) (fun v1 B hv => ?_)
 obtain ⟨rfl, rfl⟩ := hv
 refine GL_hand rfl ⟨?_, ?_⟩
 · exact (Pend_skip (by kernel_rfl) (Pend_okv rfl (OK_s (EX_s (PS_loadA rfl tya34 (.head _) TurnV.l0 rfl))) rfl rfl (Pend_okv rfl (OK_s (EX_s (PS_fieldAddr fa57_0 rfl))) rfl rfl (Pend_okv rfl (OK_s (EX_s (PS_nilCheck rfl))) rfl rfl (Pend_okv rfl (OK_s (EX_s (PS_move rfl))) rfl rfl Pend_nil)))))
 refine Plan_float 6 rfl rfl (by kernel_rfl) (OK_s (EX_c (PC_of cf50 (.cons rfl (.cons rfl .nil)) (fun w hS => ref_IsBright_spec _ _ w)))) ?_
 refine Plan_float 7 rfl rfl (by kernel_rfl) (OK_s (EX_s (PS_not rfl))) ?_
 refine Plan_end (by kernel_rfl) ?_
 refine GQ_sub (.cons (k := 0) rfl (.cons (k := 10) rfl (.nil _))) ?_
 refine GQ_then ?_
 refine G_cond rfl (fun c1 => ?_) (fun c1 => ?_)
 ·
  have c1p := kz c1
  try dsimp only at c1p
  refine G_seq ?_
  refine G_region ?_
  refine GL_step rfl (PS_assign rfl) ?_
  refine GL_nil ?_
  refine GQ_sub (.cons (k := 2) rfl (.nil _)) ?_
  refine GQ_then ?_
  refine G_ret ?_
  refine GQ_then_ret ?_
  refine GQ_ret rfl (.tmp rfl .nil) ?_
  intro w1 hS
  have hS := hS.own_nil 3 1
  have hS := (hS.perm (Pulls.perm (.cons (.tail .head) (.cons .head .nil)))).headL
  have hq : T.seen = _ := if_t c1
  exact ⟨_, ⟨⟨none, 0, 0⟩, rfl, by rw [hq]; rfl, by rw [hq]; rfl⟩, hS⟩
 have c1p := kz c1
 try dsimp only at c1p
 refine G_skip ?_
 refine GQ_sub (.cons (k := 0) rfl (.nil _)) ?_
 refine GQ_then ?_
 refine G_seq ?_
 refine G_planN (N := 8) [0, 1, 3, 7, 0, 16, 63, 127] mix (by kernel_rfl) rfl ?_
 refine Plan_float 0 rfl rfl (by kernel_rfl) (OK_s (EX_s (PS_move rfl))) ?_
 refine Plan_float 1 rfl rfl (by kernel_rfl) (OK_s (EX_s (PS_nilCheck rfl))) ?_
 refine Plan_float 2 rfl rfl (by kernel_rfl) (OK_s (EX_s (PS_fieldAddr fa57_0 rfl))) ?_
 refine Plan_float 3 rfl rfl (by kernel_rfl) (OK_s (EX_s (PS_loadA rfl tya34 (.head _) TurnV.l0 rfl))) ?_
 refine Plan_float 4 rfl rfl (by kernel_rfl) (OK_s (EX_s (PS_move rfl))) ?_
 refine Plan_chain 5 rfl (by kernel_rfl) ?_
 refine GL_callL rfl cf51 (.cons rfl .nil) (.cons .head .nil) (ref_turn_here_spec _ T _ hF) (fun v3 B hv => ?_)
 obtain ⟨rfl, rfl⟩ := hv
 refine GL_hand rfl ⟨?_, ?_⟩
 · exact (Pend_skip (by kernel_rfl) (Pend_okv rfl (OK_s (EX_s (PS_loadA rfl tya34 (.head _) TurnV.l0 rfl))) rfl rfl (Pend_okv rfl (OK_s (EX_s (PS_fieldAddr fa57_0 rfl))) rfl rfl (Pend_okv rfl (OK_s (EX_s (PS_nilCheck rfl))) rfl rfl (Pend_okv rfl (OK_s (EX_s (PS_move rfl))) rfl rfl Pend_nil)))))
 refine Plan_chain 6 rfl (by kernel_rfl) ?_
 refine GL_callL rfl cf68 (.cons rfl (.cons rfl (.cons rfl .nil))) .nil (ref_HasAt_spec _ _ _) (fun v4 B hv => ?_)
 obtain ⟨y5, rfl, y6, rfl⟩ := hv
 refine GL_hand rfl ⟨?_, ?_⟩
 · exact (Pend_skip (by kernel_rfl) (Pend_skip (by kernel_rfl) (Pend_skip (by kernel_rfl) (Pend_skip (by kernel_rfl) (Pend_skip (by kernel_rfl) Pend_nil)))))
 refine Plan_float 7 rfl rfl (by kernel_rfl) (OK_s (EX_s (PS_assign rfl))) ?_
 refine Plan_end (by kernel_rfl) ?_
 refine GQ_sub (.cons (k := 2) rfl (.nil _)) ?_
 refine GQ_then ?_
 refine G_ret ?_
 refine GQ_ret rfl (.tmp rfl .nil) ?_
 intro w1 hS
 have hS := (hS.perm (Pulls.perm (.cons (.tail .head) (.cons .head .nil)))).headL
 have hq : T.seen = _ := (if_f c1)
 exact ⟨_, ⟨_, rfl, by rw [hq]; first | rfl | assumption, by rw [hq]; rfl⟩, hS⟩
theorem ref_turn_named_spec (b : Nat) (T : Turn) (g : Hd) (f : Hd) (l : List Int) (hF : T.Fit) (hf : f.len = l.length) (hl : l.length ≤ 9) (hi : ∀ i ∈ l, 0 ≤ i ∧ i < 9) : Ctr Tryz.prog 40 #[.pointer (some ⟨b, 0, none⟩), f.val] [Res.box b 57 (TurnV.enc ⟨T.w, T.b, g⟩), Res.own f 3 1 (l.flatMap encI)] (fun v B => v = vstr (Turn.namedR T.w l) ∧ B = [Res.box b 57 (TurnV.enc ⟨T.w, T.b, g⟩), Res.own f 3 1 (l.flatMap encI)]) := by
 intro w hS0
 have hb := hF.b
 have hr := hF.room
 have hw := hF.br
 refine Ret_body _ _ Tryz.func40 rfl rfl rfl (hS0) ?_
 refine G_seq ?_
 refine G_region ?_
 refine GL_step rfl (PS_assign rfl) ?_
 refine GL_nil ?_
 refine GQ_sub (.cons (k := 0) rfl (.cons (k := 1) rfl (.nil _))) ?_
 refine GQ_then ?_
 refine G_seq ?_
 refine G_region ?_
 refine GL_step rfl (PS_assign rfl) ?_
 refine GL_nil ?_
 refine GQ_then ?_
 refine G_seq ?_
 refine G_seq ?_
 refine G_region ?_
 refine GL_step rfl (PS_move rfl) ?_
 refine GL_step rfl (PS_len_slice rfl Tryz.underlying66 rfl) ?_
 refine GL_step rfl (PS_move rfl) ?_
 refine GL_nil ?_
 refine GQ_sub (.cons (k := 0) rfl (.cons (k := 5) rfl (.cons (k := 8) rfl (.cons (k := 9) rfl (.cons (k := 10) rfl (.nil _)))))) ?_
 refine GQ_then ?_
 refine G_block ?_
 refine G_subF (.cons (k := 5) rfl (.cons (k := 10) rfl (.cons (k := 0) rfl (.cons (k := 8) rfl (.cons (k := 9) rfl (.nil _)))))) ?_
 refine G_loop2_ (fun (k : Int) (x : Str) => 0 ≤ k ∧ k ≤ (l.length : Int) ∧ Turn.listS T.w [] l = Turn.listS T.w x (l.drop k.toNat) ∧ x.length ≤ 1000 + k.toNat * 140737488351300) (fun (k : Int) (x : Str) => ((l.length : Int) - k).toNat) (fun (k : Int) (x : Str) => [(5, vstr x), (10, .int .i64 k)]) (fun (k : Int) (x : Str) => []) (0) ([]) ?_ rfl rfl (fun k x hI1 => ?_)
 · exact ⟨by omega, by omega, by simp, by simp⟩
 obtain ⟨hI11, hI12, hI13, hI14⟩ := hI1
 refine G_seq ?_
 refine G_region ?_
 refine GL_step rfl (PS_lss rfl rfl) ?_
 refine GL_nil ?_
 refine GQ_then ?_
 refine G_seq ?_
 refine G_cond rfl (fun c1 => ?_) (fun c1 => ?_)
 ·
  have c1p := kz c1
  try dsimp only at c1p
  have hx := hi _ (Line.getD_memI (xs := l) (i := k.toNat) (by omega))
  have hnl := hw.th (l.getD k.toNat 0)
  refine G_skip ?_
  refine GQ_sub (.cons (k := 0) rfl (.cons (k := 5) rfl (.cons (k := 8) rfl (.cons (k := 9) rfl (.cons (k := 10) rfl (.nil _)))))) ?_
  refine GQ_then ?_
  refine G_seq ?_
  refine G_block ?_
  refine G_seq ?_
  refine G_region ?_
  refine GL_step rfl (PS_idxS is66 (by decide) (Kn.own (.tail _ (.head _))) rfl rfl (by omega) (by omega)) ?_
  refine GL_step rfl (PS_ldInt rfl tys3 (Kn.own (.tail _ (.head _))) (by omega)) ?_
  refine GL_step rfl (PS_assign rfl) ?_
  refine GL_nil ?_
  refine GQ_sub (.cons (k := 0) rfl (.cons (k := 5) rfl (.cons (k := 7) rfl (.cons (k := 8) rfl (.cons (k := 9) rfl (.cons (k := 10) rfl (.nil _))))))) ?_
  refine GQ_then ?_
  refine G_seq ?_
  refine G_region ?_
  refine GL_step rfl (PS_move rfl) ?_
  refine GL_step rfl (PS_move rfl) ?_
  refine GL_step rfl (PS_move rfl) ?_
  refine GL_step rfl (PS_nilCheck rfl) ?_
  refine GL_step rfl (PS_fieldAddr fa57_0 rfl) ?_
  refine GL_step rfl (PS_fieldAddr fa34_1 rfl) ?_
  refine GL_step rfl (PS_indexAddr ia29 rfl rfl (by first | omega | (dsimp only; omega) | ((try simp only [List.length_append, List.length_cons, List.length_nil]); omega) | ((try dsimp only at *); (try simp only [List.length_append, List.length_cons, List.length_nil]); omega)) (by first | omega | (dsimp only; omega) | ((try simp only [List.length_append, List.length_cons, List.length_nil]); omega) | ((try dsimp only at *); (try simp only [List.length_append, List.length_cons, List.length_nil]); omega))) ?_
  refine GL_step rfl (PS_fieldAddr fa28_0 rfl) ?_
  refine GL_step rfl (PS_load rfl tys9 (.head _) (((TurnV.l0.comp Land.l1).comp (Lens.arr (n := 9) Thing.fl (by first | omega | (dsimp only; omega) | ((try simp only [List.length_append, List.length_cons, List.length_nil]); omega) | ((try dsimp only at *); (try simp only [List.length_append, List.length_cons, List.length_nil]); omega)) (by first | omega | (dsimp only; omega) | ((try simp only [List.length_append, List.length_cons, List.length_nil]); omega) | ((try dsimp only at *); (try simp only [List.length_append, List.length_cons, List.length_nil]); omega)))).comp Thing.l0) rfl rfl) ?_
  refine GL_step rfl (PS_add_str rfl rfl (by first | omega | (dsimp only; omega) | ((try simp only [List.length_append, List.length_cons, List.length_nil]); omega) | ((try dsimp only at *); (try simp only [List.length_append, List.length_cons, List.length_nil]); omega))) ?_
  refine GL_step rfl (PS_add_str rfl rfl (by first | omega | (dsimp only; omega) | ((try simp only [List.length_append, List.length_cons, List.length_nil]); omega) | ((try dsimp only at *); (try simp only [List.length_append, List.length_cons, List.length_nil]); omega))) ?_
  refine GL_step rfl (PS_assign rfl) ?_
  refine GL_nil ?_
  refine GQ_sub (.cons (k := 0) rfl (.cons (k := 5) rfl (.cons (k := 7) rfl (.cons (k := 8) rfl (.cons (k := 9) rfl (.cons (k := 10) rfl (.nil _))))))) ?_
  refine GQ_then ?_
  refine G_seq ?_
  refine G_region ?_
  refine GL_step rfl (PS_move rfl) ?_
  refine GL_step rfl (PS_move rfl) ?_
  refine GL_step rfl (PS_nilCheck rfl) ?_
  refine GL_step rfl (PS_fieldAddr fa57_0 rfl) ?_
  refine GL_step rfl (PS_fieldAddr fa34_1 rfl) ?_
  refine GL_step rfl (PS_indexAddr ia29 rfl rfl (by first | omega | (dsimp only; omega) | ((try simp only [List.length_append, List.length_cons, List.length_nil]); omega) | ((try dsimp only at *); (try simp only [List.length_append, List.length_cons, List.length_nil]); omega)) (by first | omega | (dsimp only; omega) | ((try simp only [List.length_append, List.length_cons, List.length_nil]); omega) | ((try dsimp only at *); (try simp only [List.length_append, List.length_cons, List.length_nil]); omega))) ?_
  refine GL_step rfl (PS_fieldAddr fa28_4 rfl) ?_
  refine GL_step rfl (PS_load rfl tys4 (.head _) (((TurnV.l0.comp Land.l1).comp (Lens.arr (n := 9) Thing.fl (by first | omega | (dsimp only; omega) | ((try simp only [List.length_append, List.length_cons, List.length_nil]); omega) | ((try dsimp only at *); (try simp only [List.length_append, List.length_cons, List.length_nil]); omega)) (by first | omega | (dsimp only; omega) | ((try simp only [List.length_append, List.length_cons, List.length_nil]); omega) | ((try dsimp only at *); (try simp only [List.length_append, List.length_cons, List.length_nil]); omega)))).comp Thing.l4) rfl rfl) ?_
  refine GL_nil ?_
  refine GQ_sub (.cons (k := 0) rfl (.cons (k := 5) rfl (.cons (k := 8) rfl (.cons (k := 9) rfl (.cons (k := 10) rfl (.cons (k := 32) rfl (.nil _))))))) ?_
  refine GQ_then ?_
  refine G_cond rfl (fun c2 => ?_) (fun c2 => ?_)
  ·
   have c2p := kz c2
   try dsimp only at c2p
   refine G_region ?_
   refine GL_step rfl (PS_move rfl) ?_
   refine GL_step rfl (PS_add_str rfl rfl (by first | omega | (dsimp only; omega) | ((try simp only [List.length_append, List.length_cons, List.length_nil]); omega) | ((try dsimp only at *); (try simp only [List.length_append, List.length_cons, List.length_nil]); omega))) ?_
   refine GL_step rfl (PS_assign rfl) ?_
   refine GL_nil ?_
   refine GQ_sub (.cons (k := 0) rfl (.cons (k := 5) rfl (.cons (k := 8) rfl (.cons (k := 9) rfl (.cons (k := 10) rfl (.nil _)))))) ?_
   refine GQ_block ?_
   refine GQ_then ?_
   refine G_region ?_
   refine GL_step rfl (PS_add rfl rfl (IntWalk.i64_in _ (by first | omega | (dsimp only; omega) | ((try simp only [List.length_append, List.length_cons, List.length_nil]); omega) | ((try dsimp only at *); (try simp only [List.length_append, List.length_cons, List.length_nil]); omega)))) ?_
   refine GL_step rfl (PS_move rfl) ?_
   refine GL_nil ?_
   refine GQ_sub (.cons (k := 0) rfl (.cons (k := 5) rfl (.cons (k := 8) rfl (.cons (k := 9) rfl (.cons (k := 10) rfl (.nil _)))))) ?_
   refine GQ_next2_ (k + 1) _ ?_ ?_ (.cons (k := 5) rfl (.cons (k := 10) rfl (.cons (k := 0) rfl (.cons (k := 8) rfl (.cons (k := 9) rfl (.nil _)))))) (.refl _)
   · exact ⟨by omega, by omega, by rw [hI13, Turn.listS_t hI11 (by omega) c2], by simp only [List.length_append, List.length_cons, List.length_nil]; omega⟩
   · omega
  have c2p := kz c2
  try dsimp only at c2p
  refine G_skip ?_
  refine GQ_sub (.cons (k := 0) rfl (.cons (k := 5) rfl (.cons (k := 8) rfl (.cons (k := 9) rfl (.cons (k := 10) rfl (.nil _)))))) ?_
  refine GQ_block ?_
  refine GQ_then ?_
  refine G_region ?_
  refine GL_step rfl (PS_add rfl rfl (IntWalk.i64_in _ (by first | omega | (dsimp only; omega) | ((try simp only [List.length_append, List.length_cons, List.length_nil]); omega) | ((try dsimp only at *); (try simp only [List.length_append, List.length_cons, List.length_nil]); omega)))) ?_
  refine GL_step rfl (PS_move rfl) ?_
  refine GL_nil ?_
  refine GQ_sub (.cons (k := 0) rfl (.cons (k := 5) rfl (.cons (k := 8) rfl (.cons (k := 9) rfl (.cons (k := 10) rfl (.nil _)))))) ?_
  refine GQ_next2_ (k + 1) _ ?_ ?_ (.cons (k := 5) rfl (.cons (k := 10) rfl (.cons (k := 0) rfl (.cons (k := 8) rfl (.cons (k := 9) rfl (.nil _)))))) (.refl _)
  · exact ⟨by omega, by omega, by rw [hI13, Turn.listS_f hI11 (by omega) c2], by simp only [List.length_append, List.length_cons, List.length_nil]; omega⟩
  · omega
 have c1p := kz c1
 try dsimp only at c1p
 obtain rfl : k = (l.length : Int) := by omega
 rw [show (l.length : Int).toNat = l.length by omega, List.drop_length] at hI13
 have hxl : Turn.listS T.w [] l = x := hI13
 refine G_exit ?_
 refine GQ_then_exit ?_
 refine GQ_then_exit ?_
 refine GQ_block_exit ?_
 refine GQ_sub (.cons (k := 5) rfl (.nil _)) ?_
 refine GQ_then ?_
 refine G_seq ?_
 refine G_seq ?_
 refine G_region ?_
 refine GL_step rfl (PS_move rfl) ?_
 refine GL_step rfl (PS_eql_str rfl rfl) ?_
 refine GL_nil ?_
 refine GQ_sub (.cons (k := 5) rfl (.cons (k := 37) rfl (.nil _))) ?_
 refine GQ_then ?_
 refine G_cond rfl (fun c3 => ?_) (fun c3 => ?_)
 ·
  have c3p := kz c3
  try dsimp only at c3p
  refine G_seq ?_
  refine G_region ?_
  refine GL_step rfl (PS_assign rfl) ?_
  refine GL_nil ?_
  refine GQ_sub (.cons (k := 4) rfl (.nil _)) ?_
  refine GQ_then ?_
  refine G_ret ?_
  refine GQ_then_ret ?_
  refine GQ_ret rfl (.tmp rfl .nil) ?_
  intro w1 hS
  have hS := (hS.perm (Pulls.perm (.cons .head (.cons .head .nil)))).headL
  have hq : Turn.namedR T.w l = _ := if_t (show decide (Turn.listS T.w [] l = []) = true by rw [hxl]; exact c3)
  exact ⟨_, ⟨by rw [hq]; (try rw [hxl]); (try rfl), rfl⟩, hS⟩
 have c3p := kz c3
 try dsimp only at c3p
 refine G_skip ?_
 refine GQ_sub (.cons (k := 5) rfl (.nil _)) ?_
 refine GQ_then ?_
 refine G_seq ?_
 refine G_region ?_
 refine GL_step rfl (PS_move rfl) ?_
 refine GL_step rfl (PS_add_str rfl rfl (by first | omega | (dsimp only; omega) | ((try simp only [List.length_append, List.length_cons, List.length_nil]); omega) | ((try dsimp only at *); (try simp only [List.length_append, List.length_cons, List.length_nil]); omega))) ?_
 refine GL_step rfl (PS_assign rfl) ?_
 refine GL_nil ?_
 refine GQ_sub (.cons (k := 4) rfl (.nil _)) ?_
 refine GQ_then ?_
 refine G_ret ?_
 refine GQ_ret rfl (.tmp rfl .nil) ?_
 intro w1 hS
 have hS := (hS.perm (Pulls.perm (.cons .head (.cons .head .nil)))).headL
 have hq : Turn.namedR T.w l = _ := if_f (show decide (Turn.listS T.w [] l = []) = false by rw [hxl]; exact c3)
 exact ⟨_, ⟨by rw [hq]; (try rw [hxl]); (try rfl), rfl⟩, hS⟩
end Go.Proofs.YthaobbemigbcgaaGreatDoor
