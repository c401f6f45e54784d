/- What the functions that the law RulesLosses reaches compute: walks, part 2. No condition. -/
import Derived.Test.YthaobbemigbcgaaDoorCards
import Derived.Test.YthaobbemigbcgaaDoorTie
import Derived.Deep.DeepHandedRow
import Derived.Test.YthaobbemigbcgaaDoorRows
import Derived.Test.YthaobbemigbcgaaDoorRulesLossesEc3
import Derived.Test.YthaobbemigbcgaaDoorRulesLossesRa1
import Derived.Test.YthaobbemigbcgaaDoorRulesLossesRb1
import Derived.Test.YthaobbemigbcgaaDoorRulesLossesWalks
set_option linter.unusedSimpArgs false
set_option linter.unusedVariables false
set_option maxRecDepth 100000
set_option maxHeartbeats 1000000
namespace Go.Proofs.YthaobbemigbcgaaDoor
open Go Go.Ing Go.RowKit Go.ChangeShapes Go.WideShapes Go.ChangeAt
theorem rules_Round_spec (X : Land) (d : Int) (hw : X.Brief) : CtrR Tryd.prog 11 #[.agg X.enc.toArray, .int .i64 d] [] (fun w => (GV 0 Land.verbsV w ∧ 0 ∉ feet [])) (fun v B => ∃ h : Hd, v = .tuple #[.agg ((Turn.roundR X d).1.enc).toArray, h.val, .int .i64 (Turn.roundR X d).2.2] ∧ h.len = (Turn.roundR X d).2.1.length ∧ B = [Res.own h 48 16 ((Turn.roundR X d).2.1.flatMap Ing.Event.enc)]) := by
 intro w hS0 hH
 obtain ⟨gl0, gm0⟩ := hH
 have hm := tmod3 d
 refine Ret_body _ _ Tryd.func11 rfl rfl rfl (hS0) ?_
 refine G_seq ?_
 refine G_region ?_
 refine GL_box rfl rfl rfl (fun b1 => ?_)
 refine GL_alloc rfl zv34 rfl (fun b2 => ?_)
 refine GL_step rfl (PS_assign rfl) ?_
 refine GL_step rfl (PS_assign rfl) ?_
 refine GL_nil ?_
 refine GQ_sub (.cons (k := 1) rfl (.cons (k := 2) rfl (.cons (k := 4) rfl (.nil _)))) ?_
 refine GQ_then ?_
 refine G_seq ?_
 refine G_seq ?_
 refine G_region ?_
 refine GL_step rfl (PS_loadA rfl tya34 (.tail _ (.head _)) (Lens.id Land.fl.len Land.fl.one) rfl) ?_
 refine GL_pure rfl cf9 (.cons rfl .nil) (fun w hS => land_Good_spec _ w) ?_
 refine GL_step rfl (PS_not rfl) ?_
 refine GL_nil ?_
 refine GQ_sub (.cons (k := 1) rfl (.cons (k := 2) rfl (.cons (k := 4) rfl (.cons (k := 16) rfl (.nil _))))) ?_
 refine GQ_then ?_
 refine G_cond rfl (fun c1 => ?_) (fun c1 => ?_)
 ·
  have c1p := kz c1
  refine G_seq ?_
  refine G_region ?_
  refine GL_step rfl (PS_loadA rfl tya34 (.tail _ (.head _)) (Lens.id Land.fl.len Land.fl.one) rfl) ?_
  refine GL_unit (PU_store (Lens.id Land.fl.len Land.fl.one) rfl rfl rfl sz34 rfl .head) ?_
  refine GL_step rfl (PS_assign rfl) ?_
  refine GL_step rfl (PS_assign rfl) ?_
  refine GL_nil ?_
  refine GQ_sub (.cons (k := 4) rfl (.cons (k := 5) rfl (.cons (k := 6) rfl (.nil _)))) ?_
  refine GQ_then ?_
  refine G_ret ?_
  refine GQ_then_ret ?_
  refine GQ_ret rfl (.cell rfl (.head _) (.inl ⟨(by rw [Land.fl.len]; exact tya34), rfl⟩) (.tmp rfl (.tmp rfl .nil))) ?_
  intro w1 hS
  have hS := hS.own_nil 48 16
  have hS := (hS.perm (Pulls.perm (.cons .head .nil))).headL
  have hq : Turn.roundR X d = _ := if_t c1
  refine ⟨_, ⟨⟨none, 0, 0⟩, ?hv, ?hl, ?hB⟩, hS⟩
  case hv => rw [hq]; rfl
  case hl => rw [hq]; rfl
  case hB => rw [hq]; rfl
 have c1p := kz c1
 refine G_skip ?_
 refine GQ_sub (.cons (k := 1) rfl (.cons (k := 2) rfl (.cons (k := 4) rfl (.nil _)))) ?_
 refine GQ_then ?_
 refine G_seq ?_
 refine G_region ?_
 refine GL_step rfl (PS_assign rfl) ?_
 refine GL_nil ?_
 refine GQ_then ?_
 refine G_seq ?_
 refine G_seq ?_
 refine G_region ?_
 refine GL_step rfl (PS_move rfl) ?_
 refine GL_nil ?_
 refine GQ_then ?_
 refine G_block ?_
 refine G_subF (.cons (k := 7) rfl (.cons (k := 18) rfl (.cons (k := 1) rfl (.cons (k := 2) rfl (.cons (k := 4) rfl (.nil _)))))) ?_
 refine G_nilF Ing.Event.enc 48 16 ?_
 refine G_pull (.tail (.tail .head)) ?_
 refine G_pull (.tail .head) ?_
 refine G_loop3_ (fun (k : Int) (s : Land × List Ing.Event) (h : Hd) => 0 ≤ k ∧ k ≤ 6 ∧ s = Turn.roundK X d k.toNat ∧ s.1.good = true ∧ s.1.Brief ∧ (s.2.length : Int) ≤ 13 * k ∧ h.len = s.2.length) (fun (k : Int) (s : Land × List Ing.Event) (h : Hd) => (6 - k).toNat) (fun (k : Int) (s : Land × List Ing.Event) (h : Hd) => [(7, h.val), (18, .int .i64 k)]) (fun (k : Int) (s : Land × List Ing.Event) (h : Hd) => [Res.own h 48 16 (s.2.flatMap Ing.Event.enc), Res.box b1 34 (Land.enc s.1)]) (0) ((X, [])) (_) ?_ rfl rfl (fun k s h hI1 => ?_)
 · exact ⟨by omega, by omega, rfl, by simpa using c1, hw, by simp, rfl⟩
 obtain ⟨hI11, hI12, hI13, hI14, hI15, hI16, hI17⟩ := hI1
 refine G_seq ?_
 refine G_region ?_
 refine GL_step rfl (PS_lss rfl rfl) ?_
 refine GL_nil ?_
 refine GQ_then ?_
 refine G_seq ?_
 refine G_cond rfl (fun c2 => ?_) (fun c2 => ?_)
 ·
  have c2p := kz c2
  have hbe := Turn.good_be hI14 hI11 (show k < 6 by omega)
  have hfo := hbe.foe
  refine G_skip ?_
  refine GQ_sub (.cons (k := 1) rfl (.cons (k := 2) rfl (.cons (k := 4) rfl (.cons (k := 7) rfl (.cons (k := 18) rfl (.nil _)))))) ?_
  refine GQ_then ?_
  refine G_seq ?_
  refine G_block ?_
  refine G_seq ?_
  refine G_region ?_
  refine GL_step rfl (PS_move rfl) ?_
  refine GL_step rfl (PS_assign rfl) ?_
  refine GL_nil ?_
  refine GQ_sub (.cons (k := 1) rfl (.cons (k := 2) rfl (.cons (k := 4) rfl (.cons (k := 7) rfl (.cons (k := 8) rfl (.cons (k := 18) rfl (.nil _))))))) ?_
  refine GQ_then ?_
  refine G_seq ?_
  refine G_region ?_
  refine GL_step rfl (PS_move rfl) ?_
  refine GL_step rfl (PS_fieldAddr fa34_2 rfl) ?_
  refine GL_step rfl (PS_indexAddr ia32 rfl rfl (by first | omega | (dsimp only; omega) | (have := tmod3 (d.tmod 3 + 3 + k); omega)) (by first | omega | (dsimp only; omega) | (have := tmod3 (d.tmod 3 + 3 + k); omega))) ?_
  refine GL_step rfl (PS_loadA rfl tya31 (.tail _ (.head _)) (Land.l2.comp (Lens.arr (n := 6) Being.fl (by first | omega | (dsimp only; omega) | (have := tmod3 (d.tmod 3 + 3 + k); omega)) (by first | omega | (dsimp only; omega) | (have := tmod3 (d.tmod 3 + 3 + k); omega)))) rfl) ?_
  refine GL_alloc rfl zv31 rfl (fun b3 => ?_)
  refine GL_unit (PU_store (Lens.id Being.fl.len Being.fl.one) rfl rfl rfl sz31 rfl .head) ?_
  refine GL_nil ?_
  refine GQ_sub (.cons (k := 1) rfl (.cons (k := 2) rfl (.cons (k := 4) rfl (.cons (k := 7) rfl (.cons (k := 8) rfl (.cons (k := 9) rfl (.cons (k := 18) rfl (.nil _)))))))) ?_
  refine GQ_then ?_
  refine G_seq ?_
  refine G_seq ?_
  refine G_region ?_
  refine GL_step rfl (PS_fieldAddr fa31_1 rfl) ?_
  refine GL_step rfl (PS_load rfl tys4 (.head _) Being.l1 rfl rfl) ?_
  refine GL_step rfl (PS_not rfl) ?_
  refine GL_step rfl (PS_move rfl) ?_
  refine GL_gf (t := 28) rfl rfl rfl (fun q => PS_fieldAddr fa31_5 rfl) ?_
  refine GL_gf (t := 28) rfl rfl rfl (fun q => PS_load (cvE rfl (by rw [q]; rfl)) tys3 (.head _) Being.l5 rfl rfl) ?_
  refine GL_gf (t := 28) rfl rfl rfl (fun q => PS_eql (cvE rfl (by rw [q]; rfl)) rfl) ?_
  refine GL_step rfl (PS_or rfl rfl (fun h => by rw [h]; rfl)) ?_
  refine GL_nil ?_
  refine GQ_sub (.cons (k := 1) rfl (.cons (k := 2) rfl (.cons (k := 4) rfl (.cons (k := 7) rfl (.cons (k := 8) rfl (.cons (k := 9) rfl (.cons (k := 18) rfl (.cons (k := 32) rfl (.nil _))))))))) ?_
  refine GQ_then ?_
  refine G_cond rfl (fun c3 => ?_) (fun c3 => ?_)
  ·
   have c3p := kz c3
   refine G_exit ?_
   refine GQ_then_exit ?_
   refine GQ_block_exit ?_
   refine GQ_sub (.cons (k := 1) rfl (.cons (k := 2) rfl (.cons (k := 4) rfl (.cons (k := 7) rfl (.cons (k := 18) rfl (.nil _)))))) ?_
   refine GQ_then ?_
   refine G_region ?_
   refine GL_step rfl (PS_add rfl rfl (IntWalk.i64_in _ (by first | omega | (dsimp only; omega) | (have := tmod3 (d.tmod 3 + 3 + k); omega)))) ?_
   refine GL_step rfl (PS_move rfl) ?_
   refine GL_nil ?_
   refine GQ_sub (.cons (k := 1) rfl (.cons (k := 2) rfl (.cons (k := 4) rfl (.cons (k := 7) rfl (.cons (k := 18) rfl (.nil _)))))) ?_
   refine GQ_next3_ (k + 1) (s) _ ?_ ?_ (.cons (k := 7) rfl (.cons (k := 18) rfl (.cons (k := 1) rfl (.cons (k := 2) rfl (.cons (k := 4) rfl (.nil _)))))) (.cons _ (.refl _))
   · have hrs : Turn.roundS d k s = _ := (if_t c3)
     have hrg := Turn.roundS_good (draw := d) hI14 hI15 hI11 (by omega)
     rw [hrs] at hrg
     exact ⟨by omega, by omega, by rw [Turn.roundK_step hI11, ← hI13, hrs], hrg.1, hrg.2.1, (by have := hrg.2.2; omega), (by first | assumption | (have hso : (Turn.struck s.1 k ((s.1.beings.at k).foe - 1) (Turn.hit d k)).out.length = 1 := rfl; (try dsimp only at *); simp only [List.length_append] at *; omega))⟩
   · omega
  have c3p := kz c3
  have hf0 : 0 ≤ ((s.1.beings.at k).foe - 1) ∧ ((s.1.beings.at k).foe - 1) < 6 := by omega
  have hbf := (Turn.good_be hI14 hf0.1 hf0.2).health
  refine G_skip ?_
  refine GQ_sub (.cons (k := 1) rfl (.cons (k := 2) rfl (.cons (k := 4) rfl (.cons (k := 7) rfl (.cons (k := 8) rfl (.cons (k := 9) rfl (.cons (k := 18) rfl (.nil _)))))))) ?_
  refine GQ_then ?_
  refine G_seq ?_
  refine G_region ?_
  refine GL_step rfl (PS_fieldAddr fa31_5 rfl) ?_
  refine GL_step rfl (PS_load rfl tys3 (.head _) Being.l5 rfl rfl) ?_
  refine GL_step rfl (PS_sub rfl rfl (IntWalk.i64_in _ (by first | omega | (dsimp only; omega) | (have := tmod3 (d.tmod 3 + 3 + k); omega)))) ?_
  refine GL_step rfl (PS_assign rfl) ?_
  refine GL_nil ?_
  refine GQ_sub (.cons (k := 1) rfl (.cons (k := 2) rfl (.cons (k := 4) rfl (.cons (k := 7) rfl (.cons (k := 8) rfl (.cons (k := 9) rfl (.cons (k := 10) rfl (.cons (k := 18) rfl (.nil _))))))))) ?_
  refine GQ_then ?_
  refine G_seq ?_
  refine G_seq ?_
  refine G_planN (N := 16) [0, 0, 3, 7, 15, 31, 63, 127, 127, 511, 1023, 2047, 127, 4223, 16383, 32767] mix (by kernel_rfl) rfl ?_
  refine Plan_float 0 rfl rfl (by kernel_rfl) (OK_s (EX_s (PS_move rfl))) ?_
  refine Plan_float 1 rfl rfl (by kernel_rfl) (OK_s (EX_s (PS_fieldAddr fa34_2 rfl))) ?_
  refine Plan_float 2 rfl rfl (by kernel_rfl) (OK_s (EX_s (PS_indexAddr ia32 rfl rfl (by first | omega | (dsimp only; omega) | (have := tmod3 (d.tmod 3 + 3 + k); omega)) (by first | omega | (dsimp only; omega) | (have := tmod3 (d.tmod 3 + 3 + k); omega))))) ?_
  refine Plan_float 3 rfl rfl (by kernel_rfl) (OK_s (EX_s (PS_fieldAddr fa31_1 rfl))) ?_
  refine Plan_float 4 rfl rfl (by kernel_rfl) (OK_s (EX_s (PS_load rfl tys4 (.tail _ (.tail _ (.head _))) ((Land.l2.comp (Lens.arr (n := 6) Being.fl (by first | omega | (dsimp only; omega) | (have := tmod3 (d.tmod 3 + 3 + k); omega)) (by first | omega | (dsimp only; omega) | (have := tmod3 (d.tmod 3 + 3 + k); omega)))).comp Being.l1) rfl rfl))) ?_
  refine Plan_float 5 rfl rfl (by kernel_rfl) (OK_s (EX_s (PS_not rfl))) ?_
  refine Plan_float 6 rfl rfl (by kernel_rfl) (OK_s (EX_s (PS_move rfl))) ?_
  refine Plan_float 7 rfl rfl (by kernel_rfl) (OK_gf (t := 42) rfl rfl (fun q => EX_s (PS_move rfl))) ?_
  refine Plan_float 8 rfl rfl (by kernel_rfl) (OK_gf (t := 42) rfl rfl (fun q => EX_s (PS_fieldAddr fa34_2 rfl))) ?_
  refine Plan_float 9 rfl rfl (by kernel_rfl) (OK_gf (t := 42) rfl rfl (fun q => by have q1 := q; (try simp at q1); exact EX_s (PS_indexAddr ia32 (cvE rfl (by rw [q]; rfl)) (cvE rfl (by rw [q]; rfl)) (by first | omega | (dsimp only; omega) | (have := tmod3 (d.tmod 3 + 3 + k); omega)) (by first | omega | (dsimp only; omega) | (have := tmod3 (d.tmod 3 + 3 + k); omega))))) ?_
  refine Plan_float 10 rfl rfl (by kernel_rfl) (OK_gf (t := 42) rfl rfl (fun q => EX_s (PS_fieldAddr fa31_3 (cvE rfl (by rw [q]; rfl))))) ?_
  refine Plan_float 11 rfl rfl (by kernel_rfl) (OK_gf (t := 42) rfl rfl (fun q => by have q1 := q; (try simp at q1); exact EX_s (PS_load (cvE rfl (by rw [q]; rfl)) tys3 (.tail _ (.tail _ (.head _))) ((Land.l2.comp (Lens.arr (n := 6) Being.fl (by first | omega | (dsimp only; omega) | (have := tmod3 (d.tmod 3 + 3 + k); omega)) (by first | omega | (dsimp only; omega) | (have := tmod3 (d.tmod 3 + 3 + k); omega)))).comp Being.l3) rfl rfl))) ?_
  refine Plan_float 12 rfl rfl (by kernel_rfl) (OK_gf (t := 42) rfl rfl (fun q => EX_s (PS_fieldAddr fa31_3 rfl))) ?_
  refine Plan_float 13 rfl rfl (by kernel_rfl) (OK_gf (t := 42) rfl rfl (fun q => EX_s (PS_load (cvE rfl (by rw [q]; rfl)) tys3 (.head _) Being.l3 rfl rfl))) ?_
  refine Plan_float 14 rfl rfl (by kernel_rfl) (OK_gf (t := 42) rfl rfl (fun q => EX_s (PS_neq (cvE rfl (by rw [q]; rfl)) (cvE rfl (by rw [q]; rfl))))) ?_
  refine Plan_float 15 rfl rfl (by kernel_rfl) (OK_s (EX_s (PS_or rfl rfl (fun h => by rw [h]; rfl)))) ?_
  refine Plan_end (by kernel_rfl) ?_
  refine GQ_sub (.cons (k := 1) rfl (.cons (k := 2) rfl (.cons (k := 4) rfl (.cons (k := 7) rfl (.cons (k := 8) rfl (.cons (k := 10) rfl (.cons (k := 18) rfl (.cons (k := 51) rfl (.nil _))))))))) ?_
  refine GQ_then ?_
  refine G_cond rfl (fun c4 => ?_) (fun c4 => ?_)
  ·
   have c4p := kz c4
   refine G_seq ?_
   refine G_region ?_
   refine GL_step rfl (PS_move rfl) ?_
   refine GL_step rfl (PS_fieldAddr fa34_2 rfl) ?_
   refine GL_step rfl (PS_indexAddr ia32 rfl rfl (by first | omega | (dsimp only; omega) | (have := tmod3 (d.tmod 3 + 3 + k); omega)) (by first | omega | (dsimp only; omega) | (have := tmod3 (d.tmod 3 + 3 + k); omega))) ?_
   refine GL_step rfl (PS_fieldAddr fa31_5 rfl) ?_
   refine GL_unit (PU_store ((Land.l2.comp (Lens.arr (n := 6) Being.fl (by first | omega | (dsimp only; omega) | (have := tmod3 (d.tmod 3 + 3 + k); omega)) (by first | omega | (dsimp only; omega) | (have := tmod3 (d.tmod 3 + 3 + k); omega)))).comp Being.l5) rfl rfl rfl sz3 rfl (.tail (.tail .head))) ?_
   refine GL_nil ?_
   refine GQ_sub (.cons (k := 1) rfl (.cons (k := 2) rfl (.cons (k := 4) rfl (.cons (k := 7) rfl (.cons (k := 18) rfl (.nil _)))))) ?_
   refine GQ_then ?_
   refine G_exit ?_
   refine GQ_then_exit ?_
   refine GQ_block_exit ?_
   refine GQ_then ?_
   refine G_region ?_
   refine GL_step rfl (PS_add rfl rfl (IntWalk.i64_in _ (by first | omega | (dsimp only; omega) | (have := tmod3 (d.tmod 3 + 3 + k); omega)))) ?_
   refine GL_step rfl (PS_move rfl) ?_
   refine GL_nil ?_
   refine GQ_sub (.cons (k := 1) rfl (.cons (k := 2) rfl (.cons (k := 4) rfl (.cons (k := 7) rfl (.cons (k := 18) rfl (.nil _)))))) ?_
   refine GQ_next3_ (k + 1) ((s.1.putB k { s.1.beings.at k with foe := 0 }, s.2)) _ ?_ ?_ (.cons (k := 7) rfl (.cons (k := 18) rfl (.cons (k := 1) rfl (.cons (k := 2) rfl (.cons (k := 4) rfl (.nil _)))))) (.cons _ (.refl _))
   · have hrs : Turn.roundS d k s = _ := ((if_f c3).trans (if_t c4))
     have hrg := Turn.roundS_good (draw := d) hI14 hI15 hI11 (by omega)
     rw [hrs] at hrg
     exact ⟨by omega, by omega, by rw [Turn.roundK_step hI11, ← hI13, hrs], hrg.1, hrg.2.1, (by have := hrg.2.2; omega), (by first | assumption | (have hso : (Turn.struck s.1 k ((s.1.beings.at k).foe - 1) (Turn.hit d k)).out.length = 1 := rfl; (try dsimp only at *); simp only [List.length_append] at *; omega))⟩
   · omega
  have c4p := kz c4
  have hsf := Turn.struck_fit (b := k) (n := Turn.hit d k) hI14 hI15 (foe := ((s.1.beings.at k).foe - 1)) hf0.1 hf0.2 c4p.1
  have hht := Turn.hit_rng (draw := d) hI11
  refine G_skip ?_
  refine GQ_sub (.cons (k := 1) rfl (.cons (k := 2) rfl (.cons (k := 4) rfl (.cons (k := 7) rfl (.cons (k := 8) rfl (.cons (k := 10) rfl (.cons (k := 18) rfl (.nil _)))))))) ?_
  refine GQ_then ?_
  refine G_seq ?_
  refine G_region ?_
  refine GL_step rfl (PS_move rfl) ?_
  refine GL_step rfl (PS_rem rfl rfl (by first | omega | (dsimp only; omega) | (have := tmod3 (d.tmod 3 + 3 + k); omega))) ?_
  refine GL_step rfl (PS_add rfl rfl (IntWalk.i64_in _ (by first | omega | (dsimp only; omega) | (have := tmod3 (d.tmod 3 + 3 + k); omega)))) ?_
  refine GL_step rfl (PS_move rfl) ?_
  refine GL_step rfl (PS_add rfl rfl (IntWalk.i64_in _ (by first | omega | (dsimp only; omega) | (have := tmod3 (d.tmod 3 + 3 + k); omega)))) ?_
  refine GL_step rfl (PS_rem rfl rfl (by first | omega | (dsimp only; omega) | (have := tmod3 (d.tmod 3 + 3 + k); omega))) ?_
  refine GL_step rfl (PS_add rfl rfl (IntWalk.i64_in _ (by first | omega | (dsimp only; omega) | (have := tmod3 (d.tmod 3 + 3 + k); omega)))) ?_
  refine GL_step rfl (PS_assign rfl) ?_
  refine GL_nil ?_
  refine GQ_sub (.cons (k := 1) rfl (.cons (k := 2) rfl (.cons (k := 4) rfl (.cons (k := 7) rfl (.cons (k := 8) rfl (.cons (k := 10) rfl (.cons (k := 11) rfl (.cons (k := 18) rfl (.nil _))))))))) ?_
  refine GQ_then ?_
  refine G_seq ?_
  refine G_region ?_
  refine GL_step rfl (PS_loadA rfl tya34 (.tail _ (.tail _ (.head _))) (Lens.id Land.fl.len Land.fl.one) rfl) ?_
  refine GL_step rfl (PS_move rfl) ?_
  refine GL_step rfl (PS_build pl55 zv55 rfl (.cons TurnV.l0 rfl rfl rfl (.cons TurnV.l1 rfl rfl rfl .nil))) ?_
  refine GL_box rfl rfl rfl (fun b4 => ?_)
  refine GL_step rfl (PS_assign rfl) ?_
  refine GL_nil ?_
  refine GQ_sub (.cons (k := 1) rfl (.cons (k := 2) rfl (.cons (k := 4) rfl (.cons (k := 7) rfl (.cons (k := 10) rfl (.cons (k := 11) rfl (.cons (k := 12) rfl (.cons (k := 18) rfl (.nil _))))))))) ?_
  refine GQ_then ?_
  refine G_seq ?_
  refine G_region ?_
  refine GL_step rfl (PS_move rfl) ?_
  refine GL_step rfl (PS_move rfl) ?_
  refine GL_step rfl (PS_move rfl) ?_
  refine GL_step rfl (PS_build pl48 zv48 rfl (.cons Ing.Event.l0 rfl rfl rfl (.cons Ing.Event.l3 rfl rfl rfl (.cons Ing.Event.l5 rfl rfl rfl .nil)))) ?_
  refine GL_nilF Ing.Event.enc 48 16 ?_
  refine GL_callL rfl cf17 (.cons rfl (.cons rfl .nil)) (.cons (.tail .head) (.cons .head .nil)) (rules_turn_happens_spec _ ⟨s.1, k, []⟩ _ { Turn.evk 14 with other := ((s.1.beings.at k).foe - 1), n := Turn.hit d k } rfl (show 0 ≤ k ∧ k < 6 by omega) (show ((s.1.beings.at k).foe - 1) < 6 by omega) (Nat.zero_le _)) (fun v3 B hv => ?_)
  obtain ⟨y4, rfl, y5, rfl⟩ := hv
  refine GL_nil ?_
  refine GQ_sub (.cons (k := 1) rfl (.cons (k := 2) rfl (.cons (k := 4) rfl (.cons (k := 7) rfl (.cons (k := 10) rfl (.cons (k := 11) rfl (.cons (k := 12) rfl (.cons (k := 18) rfl (.nil _))))))))) ?_
  refine GQ_then ?_
  refine G_seq ?_
  refine G_planN (N := 16) [0, 0, 0, 0, 12, 28, 60, 0, 252, 508, 1, 1025, 3073, 8191, 16383, 32767] mix (by kernel_rfl) rfl ?_
  refine Plan_float 0 rfl rfl (by kernel_rfl) (OK_s (EX_s (PS_move rfl))) ?_
  refine Plan_float 1 rfl rfl (by kernel_rfl) (OK_s (EX_s (PS_move rfl))) ?_
  refine Plan_float 2 rfl rfl (by kernel_rfl) (OK_s (EX_s (PS_move rfl))) ?_
  refine Plan_float 3 rfl rfl (by kernel_rfl) (OK_s (EX_s (PS_fieldAddr fa34_2 rfl))) ?_
  refine Plan_float 4 rfl rfl (by kernel_rfl) (OK_s (EX_s (PS_indexAddr ia32 rfl rfl (by first | omega | (dsimp only; omega) | (have := tmod3 (d.tmod 3 + 3 + k); omega)) (by first | omega | (dsimp only; omega) | (have := tmod3 (d.tmod 3 + 3 + k); omega))))) ?_
  refine Plan_float 5 rfl rfl (by kernel_rfl) (OK_s (EX_s (PS_fieldAddr fa31_4 rfl))) ?_
  refine Plan_float 6 rfl rfl (by kernel_rfl) (OK_s (EX_s (PS_load rfl tys3 (.tail _ (.tail _ (.tail _ (.tail _ (.head _))))) ((Land.l2.comp (Lens.arr (n := 6) Being.fl (by first | omega | (dsimp only; omega) | (have := tmod3 (d.tmod 3 + 3 + k); omega)) (by first | omega | (dsimp only; omega) | (have := tmod3 (d.tmod 3 + 3 + k); omega)))).comp Being.l4) rfl rfl))) ?_
  refine Plan_float 7 rfl rfl (by kernel_rfl) (OK_s (EX_s (PS_move rfl))) ?_
  refine Plan_float 8 rfl rfl (by kernel_rfl) (OK_s (EX_s (PS_sub rfl rfl (IntWalk.i64_in _ (by first | omega | (dsimp only; omega) | (have := tmod3 (d.tmod 3 + 3 + k); omega)))))) ?_
  refine Plan_float 9 rfl rfl (by kernel_rfl) (OK_s (EX_s (PS_max2 rfl rfl))) ?_
  refine Plan_float 10 rfl rfl (by kernel_rfl) (OK_s (EX_s (PS_nilCheck rfl))) ?_
  refine Plan_float 11 rfl rfl (by kernel_rfl) (OK_s (EX_s (PS_fieldAddr fa55_0 rfl))) ?_
  refine Plan_float 12 rfl rfl (by kernel_rfl) (OK_s (EX_s (PS_fieldAddr fa34_2 rfl))) ?_
  refine Plan_float 13 rfl rfl (by kernel_rfl) (OK_s (EX_s (PS_indexAddr ia32 rfl rfl (by first | omega | (dsimp only; omega) | (have := tmod3 (d.tmod 3 + 3 + k); omega)) (by first | omega | (dsimp only; omega) | (have := tmod3 (d.tmod 3 + 3 + k); omega))))) ?_
  refine Plan_float 14 rfl rfl (by kernel_rfl) (OK_s (EX_s (PS_fieldAddr fa31_4 rfl))) ?_
  refine Plan_chain 15 rfl (by kernel_rfl) ?_
  refine GL_unit (PU_store (((TurnV.l0.comp Land.l2).comp (Lens.arr (n := 6) Being.fl (by first | omega | (dsimp only; omega) | (have := tmod3 (d.tmod 3 + 3 + k); omega)) (by first | omega | (dsimp only; omega) | (have := tmod3 (d.tmod 3 + 3 + k); omega)))).comp Being.l4) rfl rfl rfl sz3 rfl .head) ?_
  refine GL_hand0 rfl ⟨?_, ?_⟩
  · exact (Pend_skip (by kernel_rfl) (Pend_skip (by kernel_rfl) (Pend_skip (by kernel_rfl) (Pend_skip (by kernel_rfl) (Pend_skip (by kernel_rfl) (Pend_skip (by kernel_rfl) (Pend_skip (by kernel_rfl) (Pend_skip (by kernel_rfl) (Pend_skip (by kernel_rfl) (Pend_skip (by kernel_rfl) (Pend_skip (by kernel_rfl) (Pend_skip (by kernel_rfl) (Pend_skip (by kernel_rfl) (Pend_skip (by kernel_rfl) (Pend_skip (by kernel_rfl) Pend_nil)))))))))))))))
  refine Plan_end (by kernel_rfl) ?_
  refine GQ_sub (.cons (k := 1) rfl (.cons (k := 2) rfl (.cons (k := 4) rfl (.cons (k := 7) rfl (.cons (k := 10) rfl (.cons (k := 12) rfl (.cons (k := 18) rfl (.nil _)))))))) ?_
  refine GQ_then ?_
  refine G_seq ?_
  have hl1 : y4.len = 1 := y5
  refine G_region ?_
  refine GL_step rfl (PS_move rfl) ?_
  refine GL_step rfl (PS_move rfl) ?_
  refine GL_step rfl (PS_nilCheck rfl) ?_
  refine GL_step rfl (PS_fieldAddr fa55_2 rfl) ?_
  refine GL_step rfl (PS_load rfl tys37 (.head _) TurnV.l2 rfl rfl) ?_
  refine GL_appendF Ing.Event.fl rfl Tryd.underlying37 sz48 zv48 rfl by48 (by decide) (by decide) rfl rfl (fun w hS => Src.sliceT Tryd.underlying37 ((Kn.own (.tail _ (.head _))) w hS)) (by (try dsimp only at *); omega) (fun _ => (.tail (.tail (.tail .head)))) (fun h6 h6l h6z => ?_)
  refine GL_step rfl (PS_assign rfl) ?_
  refine GL_nil ?_
  refine GQ_sub (.cons (k := 1) rfl (.cons (k := 2) rfl (.cons (k := 4) rfl (.cons (k := 7) rfl (.cons (k := 10) rfl (.cons (k := 12) rfl (.cons (k := 18) rfl (.nil _)))))))) ?_
  refine GQ_then ?_
  refine G_seq ?_
  refine G_region ?_
  refine GL_step rfl (PS_move rfl) ?_
  refine GL_step rfl (PS_nilCheck rfl) ?_
  refine GL_step rfl (PS_fieldAddr fa55_0 rfl) ?_
  refine GL_step rfl (PS_loadA rfl tya34 (.head _) TurnV.l0 rfl) ?_
  refine GL_unit (PU_store (Lens.id Land.fl.len Land.fl.one) rfl rfl rfl sz34 rfl (.tail (.tail (.tail (.tail .head))))) ?_
  refine GL_nil ?_
  refine GQ_sub (.cons (k := 1) rfl (.cons (k := 2) rfl (.cons (k := 4) rfl (.cons (k := 7) rfl (.cons (k := 10) rfl (.cons (k := 18) rfl (.nil _))))))) ?_
  refine GQ_then ?_
  refine G_seq ?_
  refine G_region ?_
  refine GL_step rfl (PS_move rfl) ?_
  refine GL_step rfl (PS_fieldAddr fa34_2 rfl) ?_
  refine GL_step rfl (PS_indexAddr ia32 rfl rfl (by first | omega | (dsimp only; omega) | (have := tmod3 (d.tmod 3 + 3 + k); omega)) (by first | omega | (dsimp only; omega) | (have := tmod3 (d.tmod 3 + 3 + k); omega))) ?_
  refine GL_step rfl (PS_fieldAddr fa31_4 rfl) ?_
  refine GL_step rfl (PS_load rfl tys3 (.tail _ (.tail _ (.tail _ (.tail _ (.head _))))) ((Land.l2.comp (Lens.arr (n := 6) Being.fl (by first | omega | (dsimp only; omega) | (have := tmod3 (d.tmod 3 + 3 + k); omega)) (by first | omega | (dsimp only; omega) | (have := tmod3 (d.tmod 3 + 3 + k); omega)))).comp Being.l4) rfl rfl) ?_
  refine GL_step rfl (PS_eql rfl rfl) ?_
  refine GL_nil ?_
  refine GQ_sub (.cons (k := 1) rfl (.cons (k := 2) rfl (.cons (k := 4) rfl (.cons (k := 7) rfl (.cons (k := 10) rfl (.cons (k := 18) rfl (.cons (k := 102) rfl (.nil _)))))))) ?_
  refine GQ_then ?_
  refine G_cond rfl (fun c5 => ?_) (fun c5 => ?_)
  ·
   have c5p := kz c5
   refine G_seq ?_
   refine G_region ?_
   refine GL_step rfl (PS_assign rfl) ?_
   refine GL_nil ?_
   refine GQ_sub (.cons (k := 1) rfl (.cons (k := 2) rfl (.cons (k := 4) rfl (.cons (k := 7) rfl (.cons (k := 10) rfl (.cons (k := 18) rfl (.nil _))))))) ?_
   refine GQ_then ?_
   refine G_seq ?_
   refine G_region ?_
   refine GL_step rfl (PS_loadA rfl tya34 (.tail _ (.tail _ (.tail _ (.tail _ (.head _))))) (Lens.id Land.fl.len Land.fl.one) rfl) ?_
   refine GL_step rfl (PS_move rfl) ?_
   refine GL_callR rfl cf25 (.cons rfl (.cons rfl .nil)) .nil (rules_die_spec (Turn.struck s.1 k ((s.1.beings.at k).foe - 1) (Turn.hit d k)).w ((s.1.beings.at k).foe - 1) hsf) (fun w hS => gl0.pull gm0 hS .nil) (fun v7 B hv => ?_)
   obtain ⟨y8, rfl, y9, rfl⟩ := hv
   refine GL_step rfl (PS_move rfl) ?_
   refine GL_step rfl (PS_extract rfl rfl) ?_
   refine GL_step rfl (PS_extract rfl rfl) ?_
   refine GL_unit (PU_store (Lens.id Land.fl.len Land.fl.one) rfl rfl rfl sz34 rfl (.tail (.tail (.tail (.tail (.tail .head)))))) ?_
   refine GL_step rfl (PS_assign rfl) ?_
   refine GL_nil ?_
   refine GQ_sub (.cons (k := 1) rfl (.cons (k := 2) rfl (.cons (k := 4) rfl (.cons (k := 7) rfl (.cons (k := 13) rfl (.cons (k := 18) rfl (.nil _))))))) ?_
   refine GQ_then ?_
   have hl2 : y8.len ≤ 12 := by rw [y9]; exact (Turn.dieT_good hsf).2.2
   refine G_region ?_
   refine GL_step rfl (PS_move rfl) ?_
   refine GL_step rfl (PS_move rfl) ?_
   refine GL_appendF Ing.Event.fl rfl Tryd.underlying37 sz48 zv48 rfl by48 (by decide) (by decide) rfl rfl (fun w hS => Src.sliceT Tryd.underlying37 ((Kn.own (.head _)) w hS)) (by (try dsimp only at *); omega) (fun _ => (.tail (.tail (.tail (.tail .head))))) (fun h11 h11l h11z => ?_)
   refine GL_step rfl (PS_assign rfl) ?_
   refine GL_nil ?_
   refine GQ_sub (.cons (k := 1) rfl (.cons (k := 2) rfl (.cons (k := 4) rfl (.cons (k := 7) rfl (.cons (k := 18) rfl (.nil _)))))) ?_
   refine GQ_block ?_
   refine GQ_then ?_
   refine G_region ?_
   refine GL_step rfl (PS_add rfl rfl (IntWalk.i64_in _ (by first | omega | (dsimp only; omega) | (have := tmod3 (d.tmod 3 + 3 + k); omega)))) ?_
   refine GL_step rfl (PS_move rfl) ?_
   refine GL_nil ?_
   refine GQ_sub (.cons (k := 1) rfl (.cons (k := 2) rfl (.cons (k := 4) rfl (.cons (k := 7) rfl (.cons (k := 18) rfl (.nil _)))))) ?_
   refine GQ_next3_ (k + 1) (((Turn.dieT (Turn.struck s.1 k ((s.1.beings.at k).foe - 1) (Turn.hit d k)).w ((s.1.beings.at k).foe - 1)).w, (s.2 ++ (Turn.struck s.1 k ((s.1.beings.at k).foe - 1) (Turn.hit d k)).out) ++ (Turn.dieT (Turn.struck s.1 k ((s.1.beings.at k).foe - 1) (Turn.hit d k)).w ((s.1.beings.at k).foe - 1)).out)) _ ?_ ?_ (.cons (k := 7) rfl (.cons (k := 18) rfl (.cons (k := 1) rfl (.cons (k := 2) rfl (.cons (k := 4) rfl (.nil _)))))) (.cons _ (.cons _ (.cons _ (.cons _ (.refl _)))))
   · have hrs : Turn.roundS d k s = _ := ((if_f c3).trans ((if_f c4).trans (if_t c5)))
     have hrg := Turn.roundS_good (draw := d) hI14 hI15 hI11 (by omega)
     rw [hrs] at hrg
     exact ⟨by omega, by omega, by rw [Turn.roundK_step hI11, ← hI13, hrs], hrg.1, hrg.2.1, (by have := hrg.2.2; omega), (by first | assumption | (have hso : (Turn.struck s.1 k ((s.1.beings.at k).foe - 1) (Turn.hit d k)).out.length = 1 := rfl; (try dsimp only at *); simp only [List.length_append] at *; omega))⟩
   · omega
  have c5p := kz c5
  refine G_skip ?_
  refine GQ_sub (.cons (k := 1) rfl (.cons (k := 2) rfl (.cons (k := 4) rfl (.cons (k := 7) rfl (.cons (k := 18) rfl (.nil _)))))) ?_
  refine GQ_block ?_
  refine GQ_then ?_
  refine G_region ?_
  refine GL_step rfl (PS_add rfl rfl (IntWalk.i64_in _ (by first | omega | (dsimp only; omega) | (have := tmod3 (d.tmod 3 + 3 + k); omega)))) ?_
  refine GL_step rfl (PS_move rfl) ?_
  refine GL_nil ?_
  refine GQ_sub (.cons (k := 1) rfl (.cons (k := 2) rfl (.cons (k := 4) rfl (.cons (k := 7) rfl (.cons (k := 18) rfl (.nil _)))))) ?_
  refine GQ_next3_ (k + 1) (((Turn.struck s.1 k ((s.1.beings.at k).foe - 1) (Turn.hit d k)).w, s.2 ++ (Turn.struck s.1 k ((s.1.beings.at k).foe - 1) (Turn.hit d k)).out)) _ ?_ ?_ (.cons (k := 7) rfl (.cons (k := 18) rfl (.cons (k := 1) rfl (.cons (k := 2) rfl (.cons (k := 4) rfl (.nil _)))))) (.cons _ (.cons _ (.cons _ (.refl _))))
  · have hrs : Turn.roundS d k s = _ := ((if_f c3).trans ((if_f c4).trans (if_f c5)))
    have hrg := Turn.roundS_good (draw := d) hI14 hI15 hI11 (by omega)
    rw [hrs] at hrg
    exact ⟨by omega, by omega, by rw [Turn.roundK_step hI11, ← hI13, hrs], hrg.1, hrg.2.1, (by have := hrg.2.2; omega), (by first | assumption | (have hso : (Turn.struck s.1 k ((s.1.beings.at k).foe - 1) (Turn.hit d k)).out.length = 1 := rfl; (try dsimp only at *); simp only [List.length_append] at *; omega))⟩
  · omega
 have c2p := kz c2
 obtain rfl : k = 6 := by omega
 refine G_exit ?_
 refine GQ_then_exit ?_
 refine GQ_then_exit ?_
 refine GQ_block_exit ?_
 refine GQ_sub (.cons (k := 2) rfl (.cons (k := 4) rfl (.cons (k := 7) rfl (.nil _)))) ?_
 refine GQ_then ?_
 refine G_seq ?_
 refine G_region ?_
 refine GL_step rfl (PS_loadA rfl tya34 (.tail _ (.head _)) (Lens.id Land.fl.len Land.fl.one) rfl) ?_
 refine GL_step rfl (PS_move rfl) ?_
 refine GL_unit (PU_store (Lens.id Land.fl.len Land.fl.one) rfl rfl rfl sz34 rfl (.tail (.tail .head))) ?_
 refine GL_step rfl (PS_assign rfl) ?_
 refine GL_step rfl (PS_assign rfl) ?_
 refine GL_nil ?_
 refine GQ_sub (.cons (k := 4) rfl (.cons (k := 5) rfl (.cons (k := 6) rfl (.nil _)))) ?_
 refine GQ_then ?_
 refine G_ret ?_
 refine GQ_ret rfl (.cell rfl (.tail _ (.tail _ (.head _))) (.inl ⟨(by rw [Land.fl.len]; exact tya34), rfl⟩) (.tmp rfl (.tmp rfl .nil))) ?_
 intro w1 hS
 have hS := (hS.perm (Pulls.perm (.cons .head .nil))).headL
 have hq : Turn.roundR X d = ((Turn.roundK X d 6).1, (Turn.roundK X d 6).2, 0) := if_f c1
 have hs6 : s = Turn.roundK X d 6 := hI13
 rw [← hs6] at hq
 refine ⟨_, ⟨h, ?hv, ?hl, ?hB⟩, hS⟩
 case hv => rw [hq]; (try rfl)
 case hl => rw [hq]; exact hI17
 case hB => rw [hq]; (try rfl)
theorem land_New_spec  (w : World) : Ret Tryd.prog 23 #[] w fun v w' => v = .agg Land.new.enc.toArray ∧ Keep w w' := by
 refine Ret_body [] [] Tryd.func23 rfl rfl rfl (St.start w []) ?_
 refine G_seq ?_
 refine G_region ?_
 refine GL_alloc rfl zv34 rfl (fun b1 => ?_)
 refine GL_nil ?_
 refine GQ_then ?_
 refine G_seq ?_
 refine G_region ?_
 refine GL_alloc rfl zv34 rfl (fun b2 => ?_)
 refine GL_nil ?_
 refine GQ_then ?_
 refine G_seq ?_
 refine G_seq ?_
 refine G_region ?_
 refine GL_step rfl (PS_buildA Tryd.underlying22 sz3 zv22 rfl (.cons (Lens.arr (n := 6) (i := 0) flI (by decide) (by decide)) rfl rfl rfl (.cons (Lens.arr (n := 6) (i := 1) flI (by decide) (by decide)) rfl rfl rfl (.cons (Lens.arr (n := 6) (i := 2) flI (by decide) (by decide)) rfl rfl rfl (.cons (Lens.arr (n := 6) (i := 3) flI (by decide) (by decide)) rfl rfl rfl (.cons (Lens.arr (n := 6) (i := 4) flI (by decide) (by decide)) rfl rfl rfl (.cons (Lens.arr (n := 6) (i := 5) flI (by decide) (by decide)) rfl rfl rfl .nil))))))) ?_
 refine GL_step rfl (PS_buildA Tryd.underlying23 sz4 zv23 rfl (.cons (Lens.arr (n := 6) (i := 5) flB (by decide) (by decide)) rfl rfl rfl .nil)) ?_
 refine GL_step rfl (PS_build pl25 zv25 rfl (.cons Room.l0 rfl rfl rfl (.cons Room.l2 rfl rfl rfl (.cons Room.l3 rfl rfl rfl .nil)))) ?_
 refine GL_step rfl (PS_buildA Tryd.underlying22 sz3 zv22 rfl (.cons (Lens.arr (n := 6) (i := 0) flI (by decide) (by decide)) rfl rfl rfl (.cons (Lens.arr (n := 6) (i := 1) flI (by decide) (by decide)) rfl rfl rfl (.cons (Lens.arr (n := 6) (i := 2) flI (by decide) (by decide)) rfl rfl rfl (.cons (Lens.arr (n := 6) (i := 3) flI (by decide) (by decide)) rfl rfl rfl (.cons (Lens.arr (n := 6) (i := 4) flI (by decide) (by decide)) rfl rfl rfl (.cons (Lens.arr (n := 6) (i := 5) flI (by decide) (by decide)) rfl rfl rfl .nil))))))) ?_
 refine GL_step rfl (PS_build pl25 zv25 rfl (.cons Room.l0 rfl rfl rfl (.cons Room.l2 rfl rfl rfl .nil))) ?_
 refine GL_step rfl (PS_buildA Tryd.underlying22 sz3 zv22 rfl (.cons (Lens.arr (n := 6) (i := 0) flI (by decide) (by decide)) rfl rfl rfl (.cons (Lens.arr (n := 6) (i := 1) flI (by decide) (by decide)) rfl rfl rfl (.cons (Lens.arr (n := 6) (i := 2) flI (by decide) (by decide)) rfl rfl rfl (.cons (Lens.arr (n := 6) (i := 3) flI (by decide) (by decide)) rfl rfl rfl (.cons (Lens.arr (n := 6) (i := 4) flI (by decide) (by decide)) rfl rfl rfl (.cons (Lens.arr (n := 6) (i := 5) flI (by decide) (by decide)) rfl rfl rfl .nil))))))) ?_
 refine GL_step rfl (PS_build pl25 zv25 rfl (.cons Room.l0 rfl rfl rfl (.cons Room.l2 rfl rfl rfl (.cons Room.l1 rfl rfl rfl .nil)))) ?_
 refine GL_step rfl (PS_buildA Tryd.underlying22 sz3 zv22 rfl (.cons (Lens.arr (n := 6) (i := 0) flI (by decide) (by decide)) rfl rfl rfl (.cons (Lens.arr (n := 6) (i := 1) flI (by decide) (by decide)) rfl rfl rfl (.cons (Lens.arr (n := 6) (i := 2) flI (by decide) (by decide)) rfl rfl rfl (.cons (Lens.arr (n := 6) (i := 3) flI (by decide) (by decide)) rfl rfl rfl (.cons (Lens.arr (n := 6) (i := 4) flI (by decide) (by decide)) rfl rfl rfl (.cons (Lens.arr (n := 6) (i := 5) flI (by decide) (by decide)) rfl rfl rfl .nil))))))) ?_
 refine GL_step rfl (PS_build pl25 zv25 rfl (.cons Room.l0 rfl rfl rfl (.cons Room.l2 rfl rfl rfl (.cons Room.l1 rfl rfl rfl .nil)))) ?_
 refine GL_step rfl (PS_buildA Tryd.underlying22 sz3 zv22 rfl (.cons (Lens.arr (n := 6) (i := 0) flI (by decide) (by decide)) rfl rfl rfl (.cons (Lens.arr (n := 6) (i := 1) flI (by decide) (by decide)) rfl rfl rfl (.cons (Lens.arr (n := 6) (i := 2) flI (by decide) (by decide)) rfl rfl rfl (.cons (Lens.arr (n := 6) (i := 3) flI (by decide) (by decide)) rfl rfl rfl (.cons (Lens.arr (n := 6) (i := 4) flI (by decide) (by decide)) rfl rfl rfl (.cons (Lens.arr (n := 6) (i := 5) flI (by decide) (by decide)) rfl rfl rfl .nil))))))) ?_
 refine GL_step rfl (PS_buildA Tryd.underlying23 sz4 zv23 rfl (.cons (Lens.arr (n := 6) (i := 2) flB (by decide) (by decide)) rfl rfl rfl .nil)) ?_
 refine GL_step rfl (PS_build pl25 zv25 rfl (.cons Room.l0 rfl rfl rfl (.cons Room.l2 rfl rfl rfl (.cons Room.l3 rfl rfl rfl (.cons Room.l1 rfl rfl rfl .nil))))) ?_
 refine GL_step rfl (PS_buildA Tryd.underlying22 sz3 zv22 rfl (.cons (Lens.arr (n := 6) (i := 0) flI (by decide) (by decide)) rfl rfl rfl (.cons (Lens.arr (n := 6) (i := 1) flI (by decide) (by decide)) rfl rfl rfl (.cons (Lens.arr (n := 6) (i := 2) flI (by decide) (by decide)) rfl rfl rfl (.cons (Lens.arr (n := 6) (i := 3) flI (by decide) (by decide)) rfl rfl rfl (.cons (Lens.arr (n := 6) (i := 4) flI (by decide) (by decide)) rfl rfl rfl (.cons (Lens.arr (n := 6) (i := 5) flI (by decide) (by decide)) rfl rfl rfl .nil))))))) ?_
 refine GL_step rfl (PS_build pl25 zv25 rfl (.cons Room.l0 rfl rfl rfl (.cons Room.l2 rfl rfl rfl .nil))) ?_
 refine GL_bs (cs := encA (n := 6) Room.enc (Vector.replicate 6 default)) (cs' := encA (n := 6) Room.enc Land.roomsV) rfl Tryd.underlying89 sz25 zv25 (by decide) (by decide) (by kernel_rfl) (.cons (Lens.arr (n := 6) (i := 0) Room.fl (by decide) (by decide)) rfl rfl rfl (.cons (Lens.arr (n := 6) (i := 1) Room.fl (by decide) (by decide)) rfl rfl rfl (.cons (Lens.arr (n := 6) (i := 2) Room.fl (by decide) (by decide)) rfl rfl rfl (.cons (Lens.arr (n := 6) (i := 3) Room.fl (by decide) (by decide)) rfl rfl rfl (.cons (Lens.arr (n := 6) (i := 4) Room.fl (by decide) (by decide)) rfl rfl rfl (.cons (Lens.arr (n := 6) (i := 5) Room.fl (by decide) (by decide)) rfl rfl rfl .nil)))))) rfl (fun b3 => ?_)
 refine GL_step rfl (PS_len_slice rfl Tryd.underlying89 rfl) ?_
 refine GL_step rfl (PS_move rfl) ?_
 refine GL_nil ?_
 refine GQ_sub (.cons (k := 0) rfl (.cons (k := 1) rfl (.cons (k := 20) rfl (.cons (k := 21) rfl (.cons (k := 22) rfl (.nil _)))))) ?_
 refine GQ_then ?_
 refine G_block ?_
 refine G_subF (.cons (k := 22) rfl (.cons (k := 0) rfl (.cons (k := 1) rfl (.cons (k := 20) rfl (.cons (k := 21) rfl (.nil _)))))) ?_
 refine G_pull (.tail .head) ?_
 refine G_loop1_ (fun (k : Int) => 0 ≤ k ∧ k ≤ 6) (fun (k : Int) => (6 - k).toNat) (fun (k : Int) => [(22, .int .i64 k)]) (fun (k : Int) => [Res.box b2 34 (Land.enc (Land.newA k.toNat))]) (0) ?_ rfl rfl (fun k hI1 => ?_)
 · exact ⟨Int.le_refl _, by omega⟩
 obtain ⟨hI11, hI12⟩ := hI1
 refine G_seq ?_
 refine G_region ?_
 refine GL_step rfl (PS_lss rfl rfl) ?_
 refine GL_nil ?_
 refine GQ_then ?_
 refine G_seq ?_
 refine G_cond rfl (fun c1 => ?_) (fun c1 => ?_)
 ·
  have c1p := kz c1
  dsimp only at c1p
  refine G_skip ?_
  refine GQ_sub (.cons (k := 0) rfl (.cons (k := 1) rfl (.cons (k := 20) rfl (.cons (k := 21) rfl (.cons (k := 22) rfl (.nil _)))))) ?_
  refine GQ_then ?_
  refine G_seq ?_
  refine G_block ?_
  refine G_seq ?_
  refine G_region ?_
  refine GL_step rfl (PS_move rfl) ?_
  refine GL_step rfl (PS_idxS is89 (by decide) (Kn.own (.tail _ (.head _))) rfl rfl (by omega) (by dsimp only; omega)) ?_
  refine GL_step rfl (PS_ldG rfl tya25 (by decide) Room.fl (Kn.own (.tail _ (.head _))) (by simp; omega)) ?_
  refine GL_alloc rfl zv25 rfl (fun b4 => ?_)
  refine GL_step rfl (PS_assign rfl) ?_
  refine GL_unit (PU_store (Lens.id Room.fl.len Room.fl.one) rfl rfl rfl sz25 rfl .head) ?_
  refine GL_nil ?_
  refine GQ_sub (.cons (k := 0) rfl (.cons (k := 1) rfl (.cons (k := 2) rfl (.cons (k := 3) rfl (.cons (k := 20) rfl (.cons (k := 21) rfl (.cons (k := 22) rfl (.nil _)))))))) ?_
  refine GQ_then ?_
  refine G_region ?_
  refine GL_step rfl (PS_move rfl) ?_
  refine GL_step rfl (PS_loadA rfl tya25 (.head _) (Lens.id Room.fl.len Room.fl.one) rfl) ?_
  refine GL_step rfl (PS_fieldAddr fa34_0 rfl) ?_
  refine GL_step rfl (PS_indexAddr ia26 rfl rfl (by omega) (by omega)) ?_
  refine GL_unit (PU_store (Land.l0.comp (Lens.arr (n := 6) Room.fl (by omega) (by omega))) rfl rfl rfl sz25 rfl (.tail .head)) ?_
  refine GL_nil ?_
  refine GQ_sub (.cons (k := 0) rfl (.cons (k := 1) rfl (.cons (k := 20) rfl (.cons (k := 21) rfl (.cons (k := 22) rfl (.nil _)))))) ?_
  refine GQ_block ?_
  refine GQ_then ?_
  refine G_region ?_
  refine GL_step rfl (PS_add rfl rfl (IntWalk.i64_in _ (by omega))) ?_
  refine GL_step rfl (PS_move rfl) ?_
  refine GL_nil ?_
  refine GQ_sub (.cons (k := 0) rfl (.cons (k := 1) rfl (.cons (k := 20) rfl (.cons (k := 21) rfl (.cons (k := 22) rfl (.nil _)))))) ?_
  refine GQ_next1_ (k + 1) ?_ ?_ (.cons (k := 22) rfl (.cons (k := 0) rfl (.cons (k := 1) rfl (.cons (k := 20) rfl (.cons (k := 21) rfl (.nil _)))))) (by rw [Land.newA_step (by omega)]; exact (.cons _ (.refl _)))
  · exact ⟨by omega, by omega⟩
  · omega
 have c1p := kz c1
 dsimp only at c1p
 obtain rfl : k = 6 := by omega
 refine G_exit ?_
 refine GQ_then_exit ?_
 refine GQ_then_exit ?_
 refine GQ_block_exit ?_
 refine GQ_sub (.cons (k := 0) rfl (.cons (k := 1) rfl (.nil _))) ?_
 refine GQ_then ?_
 refine G_seq ?_
 refine G_seq ?_
 refine G_region ?_
 refine GL_step rfl (PS_build pl28 zv28 rfl (.cons Thing.l0 rfl rfl rfl (.cons Thing.l1 rfl rfl rfl .nil))) ?_
 refine GL_step rfl (PS_build pl28 zv28 rfl (.cons Thing.l0 rfl rfl rfl (.cons Thing.l1 rfl rfl rfl (.cons Thing.l3 rfl rfl rfl .nil)))) ?_
 refine GL_step rfl (PS_build pl28 zv28 rfl (.cons Thing.l0 rfl rfl rfl (.cons Thing.l1 rfl rfl rfl .nil))) ?_
 refine GL_step rfl (PS_build pl28 zv28 rfl (.cons Thing.l0 rfl rfl rfl (.cons Thing.l1 rfl rfl rfl (.cons Thing.l3 rfl rfl rfl .nil)))) ?_
 refine GL_step rfl (PS_build pl28 zv28 rfl (.cons Thing.l0 rfl rfl rfl (.cons Thing.l2 rfl rfl rfl (.cons Thing.l3 rfl rfl rfl .nil)))) ?_
 refine GL_step rfl (PS_build pl28 zv28 rfl (.cons Thing.l0 rfl rfl rfl (.cons Thing.l3 rfl rfl rfl .nil))) ?_
 refine GL_step rfl (PS_build pl28 zv28 rfl (.cons Thing.l0 rfl rfl rfl .nil)) ?_
 refine GL_step rfl (PS_build pl28 zv28 rfl (.cons Thing.l0 rfl rfl rfl (.cons Thing.l1 rfl rfl rfl (.cons Thing.l4 rfl rfl rfl .nil)))) ?_
 refine GL_step rfl (PS_build pl28 zv28 rfl (.cons Thing.l0 rfl rfl rfl (.cons Thing.l2 rfl rfl rfl (.cons Thing.l3 rfl rfl rfl .nil)))) ?_
 refine GL_bs (cs := encA (n := 9) Thing.enc (Vector.replicate 9 default)) (cs' := encA (n := 9) Thing.enc Land.thingsV) rfl Tryd.underlying90 sz28 zv28 (by decide) (by decide) (by kernel_rfl) (.cons (Lens.arr (n := 9) (i := 0) Thing.fl (by decide) (by decide)) rfl rfl rfl (.cons (Lens.arr (n := 9) (i := 1) Thing.fl (by decide) (by decide)) rfl rfl rfl (.cons (Lens.arr (n := 9) (i := 2) Thing.fl (by decide) (by decide)) rfl rfl rfl (.cons (Lens.arr (n := 9) (i := 3) Thing.fl (by decide) (by decide)) rfl rfl rfl (.cons (Lens.arr (n := 9) (i := 4) Thing.fl (by decide) (by decide)) rfl rfl rfl (.cons (Lens.arr (n := 9) (i := 5) Thing.fl (by decide) (by decide)) rfl rfl rfl (.cons (Lens.arr (n := 9) (i := 6) Thing.fl (by decide) (by decide)) rfl rfl rfl (.cons (Lens.arr (n := 9) (i := 7) Thing.fl (by decide) (by decide)) rfl rfl rfl (.cons (Lens.arr (n := 9) (i := 8) Thing.fl (by decide) (by decide)) rfl rfl rfl .nil))))))))) rfl (fun b5 => ?_)
 refine GL_step rfl (PS_len_slice rfl Tryd.underlying90 rfl) ?_
 refine GL_step rfl (PS_move rfl) ?_
 refine GL_nil ?_
 refine GQ_sub (.cons (k := 0) rfl (.cons (k := 1) rfl (.cons (k := 41) rfl (.cons (k := 42) rfl (.cons (k := 43) rfl (.nil _)))))) ?_
 refine GQ_then ?_
 refine G_block ?_
 refine G_subF (.cons (k := 43) rfl (.cons (k := 0) rfl (.cons (k := 1) rfl (.cons (k := 41) rfl (.cons (k := 42) rfl (.nil _)))))) ?_
 refine G_pull (.tail .head) ?_
 refine G_loop1_ (fun (k : Int) => 0 ≤ k ∧ k ≤ 9) (fun (k : Int) => (9 - k).toNat) (fun (k : Int) => [(43, .int .i64 k)]) (fun (k : Int) => [Res.box b2 34 (Land.enc (Land.newB k.toNat))]) (0) ?_ rfl rfl (fun k hI2 => ?_)
 · exact ⟨Int.le_refl _, by omega⟩
 obtain ⟨hI21, hI22⟩ := hI2
 refine G_seq ?_
 refine G_region ?_
 refine GL_step rfl (PS_lss rfl rfl) ?_
 refine GL_nil ?_
 refine GQ_then ?_
 refine G_seq ?_
 refine G_cond rfl (fun c2 => ?_) (fun c2 => ?_)
 ·
  have c2p := kz c2
  dsimp only at c2p
  refine G_skip ?_
  refine GQ_sub (.cons (k := 0) rfl (.cons (k := 1) rfl (.cons (k := 41) rfl (.cons (k := 42) rfl (.cons (k := 43) rfl (.nil _)))))) ?_
  refine GQ_then ?_
  refine G_seq ?_
  refine G_block ?_
  refine G_seq ?_
  refine G_region ?_
  refine GL_step rfl (PS_move rfl) ?_
  refine GL_step rfl (PS_idxS is90 (by decide) (Kn.own (.tail _ (.head _))) rfl rfl (by omega) (by dsimp only; omega)) ?_
  refine GL_step rfl (PS_ldG rfl tya28 (by decide) Thing.fl (Kn.own (.tail _ (.head _))) (by simp; omega)) ?_
  refine GL_alloc rfl zv28 rfl (fun b6 => ?_)
  refine GL_step rfl (PS_assign rfl) ?_
  refine GL_unit (PU_store (Lens.id Thing.fl.len Thing.fl.one) rfl rfl rfl sz28 rfl .head) ?_
  refine GL_nil ?_
  refine GQ_sub (.cons (k := 0) rfl (.cons (k := 1) rfl (.cons (k := 4) rfl (.cons (k := 5) rfl (.cons (k := 41) rfl (.cons (k := 42) rfl (.cons (k := 43) rfl (.nil _)))))))) ?_
  refine GQ_then ?_
  refine G_region ?_
  refine GL_step rfl (PS_move rfl) ?_
  refine GL_step rfl (PS_loadA rfl tya28 (.head _) (Lens.id Thing.fl.len Thing.fl.one) rfl) ?_
  refine GL_step rfl (PS_fieldAddr fa34_1 rfl) ?_
  refine GL_step rfl (PS_indexAddr ia29 rfl rfl (by omega) (by omega)) ?_
  refine GL_unit (PU_store (Land.l1.comp (Lens.arr (n := 9) Thing.fl (by omega) (by omega))) rfl rfl rfl sz28 rfl (.tail .head)) ?_
  refine GL_nil ?_
  refine GQ_sub (.cons (k := 0) rfl (.cons (k := 1) rfl (.cons (k := 41) rfl (.cons (k := 42) rfl (.cons (k := 43) rfl (.nil _)))))) ?_
  refine GQ_block ?_
  refine GQ_then ?_
  refine G_region ?_
  refine GL_step rfl (PS_add rfl rfl (IntWalk.i64_in _ (by omega))) ?_
  refine GL_step rfl (PS_move rfl) ?_
  refine GL_nil ?_
  refine GQ_sub (.cons (k := 0) rfl (.cons (k := 1) rfl (.cons (k := 41) rfl (.cons (k := 42) rfl (.cons (k := 43) rfl (.nil _)))))) ?_
  refine GQ_next1_ (k + 1) ?_ ?_ (.cons (k := 43) rfl (.cons (k := 0) rfl (.cons (k := 1) rfl (.cons (k := 41) rfl (.cons (k := 42) rfl (.nil _)))))) (by rw [Land.newB_step (by omega)]; exact (.cons _ (.refl _)))
  · exact ⟨by omega, by omega⟩
  · omega
 have c2p := kz c2
 dsimp only at c2p
 obtain rfl : k = 9 := by omega
 refine G_exit ?_
 refine GQ_then_exit ?_
 refine GQ_then_exit ?_
 refine GQ_block_exit ?_
 refine GQ_sub (.cons (k := 0) rfl (.cons (k := 1) rfl (.nil _))) ?_
 refine GQ_then ?_
 refine G_seq ?_
 refine G_region ?_
 refine GL_step rfl (PS_build pl31 zv31 rfl (.cons Being.l0 rfl rfl rfl (.cons Being.l1 rfl rfl rfl (.cons Being.l2 rfl rfl rfl (.cons Being.l4 rfl rfl rfl .nil))))) ?_
 refine GL_step rfl (PS_fieldAddr fa34_2 rfl) ?_
 refine GL_step rfl (PS_indexAddr ia32 rfl rfl (by decide) (by decide)) ?_
 refine GL_unit (PU_store (Land.l2.comp (Lens.arr (n := 6) Being.fl (by decide) (by decide))) rfl rfl rfl sz31 rfl .head) ?_
 refine GL_nil ?_
 refine GQ_sub (.cons (k := 0) rfl (.cons (k := 1) rfl (.nil _))) ?_
 refine GQ_then ?_
 refine G_seq ?_
 refine G_region ?_
 refine GL_step rfl (PS_build pl31 zv31 rfl (.cons Being.l0 rfl rfl rfl (.cons Being.l1 rfl rfl rfl (.cons Being.l3 rfl rfl rfl (.cons Being.l4 rfl rfl rfl .nil))))) ?_
 refine GL_step rfl (PS_fieldAddr fa34_2 rfl) ?_
 refine GL_step rfl (PS_indexAddr ia32 rfl rfl (by decide) (by decide)) ?_
 refine GL_unit (PU_store (Land.l2.comp (Lens.arr (n := 6) Being.fl (by decide) (by decide))) rfl rfl rfl sz31 rfl .head) ?_
 refine GL_nil ?_
 refine GQ_sub (.cons (k := 0) rfl (.cons (k := 1) rfl (.nil _))) ?_
 refine GQ_then ?_
 refine G_seq ?_
 refine G_region ?_
 refine GL_step rfl (PS_loadA rfl tya34 (.head _) (Lens.id Land.fl.len Land.fl.one) rfl) ?_
 refine GL_unit (PU_store (Lens.id Land.fl.len Land.fl.one) rfl rfl rfl sz34 rfl (.tail (.tail (.tail .head)))) ?_
 refine GL_nil ?_
 refine GQ_sub (.cons (k := 0) rfl (.nil _)) ?_
 refine GQ_then ?_
 refine G_ret ?_
 refine GQ_ret rfl (.cell rfl (.tail _ (.tail _ (.tail _ (.head _)))) (.inl ⟨(by rw [Land.fl.len]; exact tya34), rfl⟩) .nil) ?_
 intro w1 hS; refine ⟨?_, hS.toKeep⟩; rfl
theorem land_Opposite_spec (d : Int) (w : World) : Ret Tryd.prog 33 #[.int .i64 d] w fun v w' => v = .int .i64 (Land.opposite d) ∧ Keep w w' := by
 refine Ret_body [] [] Tryd.func33 rfl rfl rfl (St.start w []) ?_
 refine G_seq ?_
 refine G_region ?_
 refine GL_step rfl (PS_assign rfl) ?_
 refine GL_nil ?_
 refine GQ_sub (.cons (k := 0) rfl (.nil _)) ?_
 refine GQ_then ?_
 refine G_seq ?_
 refine G_region ?_
 refine GL_step rfl (PS_move rfl) ?_
 refine GL_step rfl (PS_min2 rfl rfl) ?_
 refine GL_step rfl (PS_max2 rfl rfl) ?_
 refine GL_step rfl (PS_add rfl rfl (IntWalk.i64_in _ (by omega))) ?_
 refine GL_step rfl (PS_rem rfl rfl (by omega)) ?_
 refine GL_step rfl (PS_assign rfl) ?_
 refine GL_nil ?_
 refine GQ_sub (.cons (k := 2) rfl (.nil _)) ?_
 refine GQ_then ?_
 refine G_ret ?_
 refine GQ_ret rfl (.tmp rfl .nil) ?_
 intro w1 hS; refine ⟨?_, hS.toKeep⟩; rfl
theorem rules_turn_walk_spec (b : Nat) (T : Turn) (g : Hd) (d : Int) (hg : g.len = T.out.length) (hF : T.Fit) (hd : 0 ≤ d ∧ d < 6) (hn : T.out.length ≤ 80000) : CtrR Tryd.prog 13 #[.pointer (some ⟨b, 0, none⟩), .int .i64 d] [Res.box b 55 (TurnV.enc ⟨T.w, T.b, g⟩), Res.own g 48 16 (T.out.flatMap Ing.Event.enc)] (fun w => (GV 0 Land.verbsV w ∧ 0 ∉ feet [Res.box b 55 (TurnV.enc ⟨T.w, T.b, g⟩), Res.own g 48 16 (T.out.flatMap Ing.Event.enc)])) (fun v B => ∃ g' : Hd, v = .tuple #[] ∧ g'.len = (T.walk d).out.length ∧ B = [Res.box b 55 (TurnV.enc ⟨(T.walk d).w, (T.walk d).b, g'⟩), Res.own g' 48 16 ((T.walk d).out.flatMap Ing.Event.enc)]) := by
 intro w hS0 hH
 obtain ⟨gl0, gm0⟩ := hH
 have hb := hF.b
 have hr := hF.room
 have hx := hF.exit hd.1 hd.2
 refine Ret_body _ _ Tryd.func13 rfl rfl rfl (hS0) ?_
 refine G_seq ?_
 refine G_planN (N := 19) [0, 0, 0, 4, 12, 28, 2, 66, 194, 510, 1022, 2046, 1, 4097, 12289, 32767, 65535, 0, 262143] mix (by kernel_rfl) rfl ?_
 refine Plan_float 0 rfl rfl (by kernel_rfl) (OK_s (EX_s (PS_move rfl))) ?_
 refine Plan_float 1 rfl rfl (by kernel_rfl) (OK_s (EX_s (PS_move rfl))) ?_
 refine Plan_float 2 rfl rfl (by kernel_rfl) (OK_s (EX_s (PS_move rfl))) ?_
 refine Plan_float 3 rfl rfl (by kernel_rfl) (OK_s (EX_s (PS_nilCheck rfl))) ?_
 refine Plan_float 4 rfl rfl (by kernel_rfl) (OK_s (EX_s (PS_fieldAddr fa55_1 rfl))) ?_
 refine Plan_float 5 rfl rfl (by kernel_rfl) (OK_s (EX_s (PS_load rfl tys3 (.head _) TurnV.l1 rfl rfl))) ?_
 refine Plan_float 6 rfl rfl (by kernel_rfl) (OK_s (EX_s (PS_nilCheck rfl))) ?_
 refine Plan_float 7 rfl rfl (by kernel_rfl) (OK_s (EX_s (PS_fieldAddr fa55_0 rfl))) ?_
 refine Plan_float 8 rfl rfl (by kernel_rfl) (OK_s (EX_s (PS_fieldAddr fa34_2 rfl))) ?_
 refine Plan_float 9 rfl rfl (by kernel_rfl) (OK_s (EX_s (PS_indexAddr ia32 rfl rfl (by first | omega | exact hb.1 | exact hb.2 | (dsimp only; omega)) (by first | omega | exact hb.1 | exact hb.2 | (dsimp only; omega))))) ?_
 refine Plan_float 10 rfl rfl (by kernel_rfl) (OK_s (EX_s (PS_fieldAddr fa31_3 rfl))) ?_
 refine Plan_float 11 rfl rfl (by kernel_rfl) (OK_s (EX_s (PS_load rfl tys3 (.head _) (((TurnV.l0.comp Land.l2).comp (Lens.arr (n := 6) Being.fl (by first | omega | exact hb.1 | exact hb.2 | (dsimp only; omega)) (by first | omega | exact hb.1 | exact hb.2 | (dsimp only; omega)))).comp Being.l3) rfl rfl))) ?_
 refine Plan_float 12 rfl rfl (by kernel_rfl) (OK_s (EX_s (PS_nilCheck rfl))) ?_
 refine Plan_float 13 rfl rfl (by kernel_rfl) (OK_s (EX_s (PS_fieldAddr fa55_0 rfl))) ?_
 refine Plan_float 14 rfl rfl (by kernel_rfl) (OK_s (EX_s (PS_fieldAddr fa34_0 rfl))) ?_
 refine Plan_float 15 rfl rfl (by kernel_rfl) (OK_s (EX_s (PS_indexAddr ia26 rfl rfl (by first | omega | exact hb.1 | exact hb.2 | (dsimp only; omega)) (by first | omega | exact hb.1 | exact hb.2 | (dsimp only; omega))))) ?_
 refine Plan_float 16 rfl rfl (by kernel_rfl) (OK_s (EX_s (PS_loadA rfl tya25 (.head _) ((TurnV.l0.comp Land.l0).comp (Lens.arr (n := 6) Room.fl (by first | omega | exact hb.1 | exact hb.2 | (dsimp only; omega)) (by first | omega | exact hb.1 | exact hb.2 | (dsimp only; omega)))) rfl))) ?_
 refine Plan_chain 17 rfl (by kernel_rfl) ?_
 refine GL_alloc rfl zv25 rfl (fun b1 => ?_)
 refine GL_hand rfl ⟨?_, ?_⟩
 · exact (Pend_okv rfl (OK_s (EX_s (PS_loadA rfl tya25 (.tail _ (.head _)) ((TurnV.l0.comp Land.l0).comp (Lens.arr (n := 6) Room.fl (by first | omega | exact hb.1 | exact hb.2 | (dsimp only; omega)) (by first | omega | exact hb.1 | exact hb.2 | (dsimp only; omega)))) rfl))) rfl rfl (Pend_okv rfl (OK_s (EX_s (PS_indexAddr ia26 rfl rfl (by first | omega | exact hb.1 | exact hb.2 | (dsimp only; omega)) (by first | omega | exact hb.1 | exact hb.2 | (dsimp only; omega))))) rfl rfl (Pend_okv rfl (OK_s (EX_s (PS_fieldAddr fa34_0 rfl))) rfl rfl (Pend_okv rfl (OK_s (EX_s (PS_fieldAddr fa55_0 rfl))) rfl rfl (Pend_okv rfl (OK_s (EX_s (PS_nilCheck rfl))) rfl rfl (Pend_okv rfl (OK_s (EX_s (PS_load rfl tys3 (.tail _ (.head _)) (((TurnV.l0.comp Land.l2).comp (Lens.arr (n := 6) Being.fl (by first | omega | exact hb.1 | exact hb.2 | (dsimp only; omega)) (by first | omega | exact hb.1 | exact hb.2 | (dsimp only; omega)))).comp Being.l3) rfl rfl))) rfl rfl (Pend_okv rfl (OK_s (EX_s (PS_fieldAddr fa31_3 rfl))) rfl rfl (Pend_okv rfl (OK_s (EX_s (PS_indexAddr ia32 rfl rfl (by first | omega | exact hb.1 | exact hb.2 | (dsimp only; omega)) (by first | omega | exact hb.1 | exact hb.2 | (dsimp only; omega))))) rfl rfl (Pend_okv rfl (OK_s (EX_s (PS_fieldAddr fa34_2 rfl))) rfl rfl (Pend_okv rfl (OK_s (EX_s (PS_fieldAddr fa55_0 rfl))) rfl rfl (Pend_okv rfl (OK_s (EX_s (PS_nilCheck rfl))) rfl rfl (Pend_okv rfl (OK_s (EX_s (PS_load rfl tys3 (.tail _ (.head _)) TurnV.l1 rfl rfl))) rfl rfl (Pend_okv rfl (OK_s (EX_s (PS_fieldAddr fa55_1 rfl))) rfl rfl (Pend_okv rfl (OK_s (EX_s (PS_nilCheck rfl))) rfl rfl (Pend_okv rfl (OK_s (EX_s (PS_move rfl))) rfl rfl (Pend_okv rfl (OK_s (EX_s (PS_move rfl))) rfl rfl (Pend_okv rfl (OK_s (EX_s (PS_move rfl))) rfl rfl Pend_nil)))))))))))))))))
 refine Plan_chain 18 rfl (by kernel_rfl) ?_
 refine GL_unit (PU_store (Lens.id Room.fl.len Room.fl.one) rfl rfl rfl sz25 rfl .head) ?_
 refine GL_hand0 rfl ⟨?_, ?_⟩
 · exact (Pend_skip (by kernel_rfl) (Pend_skip (by kernel_rfl) (Pend_skip (by kernel_rfl) (Pend_skip (by kernel_rfl) (Pend_skip (by kernel_rfl) (Pend_skip (by kernel_rfl) (Pend_skip (by kernel_rfl) (Pend_skip (by kernel_rfl) (Pend_skip (by kernel_rfl) (Pend_skip (by kernel_rfl) (Pend_skip (by kernel_rfl) (Pend_skip (by kernel_rfl) (Pend_skip (by kernel_rfl) (Pend_skip (by kernel_rfl) (Pend_skip (by kernel_rfl) (Pend_skip (by kernel_rfl) (Pend_skip (by kernel_rfl) Pend_nil)))))))))))))))))
 refine Plan_end (by kernel_rfl) ?_
 refine GQ_sub (.cons (k := 0) rfl (.cons (k := 1) rfl (.cons (k := 4) rfl (.nil _)))) ?_
 refine GQ_then ?_
 refine G_block ?_
 refine G_seq ?_
 refine G_region ?_
 refine GL_step rfl (PS_move rfl) ?_
 refine GL_step rfl (PS_fieldAddr fa25_2 rfl) ?_
 refine GL_step rfl (PS_indexAddr ia22 rfl rfl (by first | omega | exact hb.1 | exact hb.2 | (dsimp only; omega)) (by first | omega | exact hb.1 | exact hb.2 | (dsimp only; omega))) ?_
 refine GL_step rfl (PS_load rfl tys3 (.head _) (Room.l2.comp (Lens.arr (n := 6) flI (by first | omega | exact hb.1 | exact hb.2 | (dsimp only; omega)) (by first | omega | exact hb.1 | exact hb.2 | (dsimp only; omega)))) rfl rfl) ?_
 refine GL_step rfl (PS_eql rfl rfl) ?_
 refine GL_step rfl (PS_assign rfl) ?_
 refine GL_nil ?_
 refine GQ_sub (.cons (k := 0) rfl (.cons (k := 1) rfl (.cons (k := 4) rfl (.cons (k := 58) rfl (.nil _))))) ?_
 refine GQ_then ?_
 refine G_cond rfl (fun c1 => ?_) (fun c1 => ?_)
 ·
  have c1p := kz c1
  refine G_region ?_
  refine GL_step rfl (PS_move rfl) ?_
  refine GL_callL rfl cf32 (.cons rfl (.cons rfl .nil)) (.cons (.tail .head) (.cons (.tail .head) .nil)) (rules_turn_tell_spec _ _ _ _ hg hb (by omega)) (fun v1 B hv => ?_)
  obtain ⟨y2, rfl, y3, rfl⟩ := hv
  refine GL_nil ?_
  refine GQ_sub (.nil _) ?_
  refine GQ_block ?_
  refine GQ_end rfl .nil ?_
  intro w1 hS
  have hS := (hS.perm (Pulls.perm (.cons .head (.cons .head .nil)))).headL
  have hq : T.walk d = _ := (if_t c1)
  refine ⟨_, ⟨?gq1, rfl, ?hl1, ?hB1⟩, hS⟩
  case hB1 => rw [hq]; (try rfl)
  case hl1 => rw [hq]; assumption
 have c1p := kz c1
 refine G_seq ?_
 refine G_region ?_
 refine GL_step rfl (PS_move rfl) ?_
 refine GL_step rfl (PS_fieldAddr fa25_3 rfl) ?_
 refine GL_step rfl (PS_indexAddr ia23 rfl rfl (by first | omega | exact hb.1 | exact hb.2 | (dsimp only; omega)) (by first | omega | exact hb.1 | exact hb.2 | (dsimp only; omega))) ?_
 refine GL_step rfl (PS_load rfl tys4 (.head _) (Room.l3.comp (Lens.arr (n := 6) flB (by first | omega | exact hb.1 | exact hb.2 | (dsimp only; omega)) (by first | omega | exact hb.1 | exact hb.2 | (dsimp only; omega)))) rfl rfl) ?_
 refine GL_step rfl (PS_assign rfl) ?_
 refine GL_nil ?_
 refine GQ_sub (.cons (k := 0) rfl (.cons (k := 1) rfl (.cons (k := 4) rfl (.cons (k := 66) rfl (.nil _))))) ?_
 refine GQ_then ?_
 refine G_cond rfl (fun c2 => ?_) (fun c2 => ?_)
 ·
  have c2p := kz c2
  refine G_region ?_
  refine GL_step rfl (PS_move rfl) ?_
  refine GL_callL rfl cf32 (.cons rfl (.cons rfl .nil)) (.cons (.tail .head) (.cons (.tail .head) .nil)) (rules_turn_tell_spec _ _ _ _ hg hb (by omega)) (fun v4 B hv => ?_)
  obtain ⟨y5, rfl, y6, rfl⟩ := hv
  refine GL_nil ?_
  refine GQ_sub (.nil _) ?_
  refine GQ_block ?_
  refine GQ_end rfl .nil ?_
  intro w1 hS
  have hS := (hS.perm (Pulls.perm (.cons .head (.cons .head .nil)))).headL
  have hq : T.walk d = _ := ((if_f c1).trans (if_t c2))
  refine ⟨_, ⟨?gq2, rfl, ?hl2, ?hB2⟩, hS⟩
  case hB2 => rw [hq]; (try rfl)
  case hl2 => rw [hq]; assumption
 have c2p := kz c2
 have gm := Turn.moved_goes (hF.happens { Turn.evk 1 with dir := d }) (r := (T.w.rooms.at T.me.room).exits.at d - 1) (by have h0 : ¬ (T.w.rooms.at (T.w.beings.at T.b).room).exits.at d = 0 := c1p; show 0 ≤ (T.w.rooms.at (T.w.beings.at T.b).room).exits.at d - 1 ∧ (T.w.rooms.at (T.w.beings.at T.b).room).exits.at d - 1 < 6; omega)
 refine G_seq ?_
 refine G_region ?_
 refine GL_step rfl (PS_move rfl) ?_
 refine GL_step rfl (PS_move rfl) ?_
 refine GL_step rfl (PS_build pl48 zv48 rfl (.cons Ing.Event.l0 rfl rfl rfl (.cons Ing.Event.l3 rfl rfl rfl (.cons Ing.Event.l4 rfl rfl rfl .nil)))) ?_
 refine GL_callL rfl cf17 (.cons rfl (.cons rfl .nil)) (.cons (.tail .head) (.cons (.tail .head) .nil)) (rules_turn_happens_spec _ T _ { Turn.evk 1 with dir := d } hg hb (show (-1 : Int) < 6 by decide) (by omega)) (fun v7 B hv => ?_)
 obtain ⟨y8, rfl, y9, rfl⟩ := hv
 refine GL_nil ?_
 refine GQ_sub (.cons (k := 0) rfl (.cons (k := 1) rfl (.cons (k := 4) rfl (.nil _)))) ?_
 refine GQ_then ?_
 refine G_seq ?_
 refine G_planN (N := 16) [0, 0, 2, 6, 14, 0, 0, 96, 224, 480, 1, 1025, 3073, 8191, 16383, 32767] mix (by kernel_rfl) rfl ?_
 refine Plan_float 0 rfl rfl (by kernel_rfl) (OK_s (EX_s (PS_move rfl))) ?_
 refine Plan_float 1 rfl rfl (by kernel_rfl) (OK_s (EX_s (PS_move rfl))) ?_
 refine Plan_float 2 rfl rfl (by kernel_rfl) (OK_s (EX_s (PS_nilCheck rfl))) ?_
 refine Plan_float 3 rfl rfl (by kernel_rfl) (OK_s (EX_s (PS_fieldAddr fa55_1 rfl))) ?_
 refine Plan_float 4 rfl rfl (by kernel_rfl) (OK_s (EX_s (PS_load rfl tys3 (.head _) TurnV.l1 rfl rfl))) ?_
 refine Plan_float 5 rfl rfl (by kernel_rfl) (OK_s (EX_s (PS_move rfl))) ?_
 refine Plan_float 6 rfl rfl (by kernel_rfl) (OK_s (EX_s (PS_fieldAddr fa25_2 rfl))) ?_
 refine Plan_float 7 rfl rfl (by kernel_rfl) (OK_s (EX_s (PS_indexAddr ia22 rfl rfl (by first | omega | exact hb.1 | exact hb.2 | (dsimp only; omega)) (by first | omega | exact hb.1 | exact hb.2 | (dsimp only; omega))))) ?_
 refine Plan_float 8 rfl rfl (by kernel_rfl) (OK_s (EX_s (PS_load rfl tys3 (.tail _ (.tail _ (.head _))) (Room.l2.comp (Lens.arr (n := 6) flI (by first | omega | exact hb.1 | exact hb.2 | (dsimp only; omega)) (by first | omega | exact hb.1 | exact hb.2 | (dsimp only; omega)))) rfl rfl))) ?_
 refine Plan_float 9 rfl rfl (by kernel_rfl) (OK_s (EX_s (PS_sub rfl rfl (IntWalk.i64_in _ (by first | omega | exact hb.1 | exact hb.2 | (dsimp only; omega)))))) ?_
 refine Plan_float 10 rfl rfl (by kernel_rfl) (OK_s (EX_s (PS_nilCheck rfl))) ?_
 refine Plan_float 11 rfl rfl (by kernel_rfl) (OK_s (EX_s (PS_fieldAddr fa55_0 rfl))) ?_
 refine Plan_float 12 rfl rfl (by kernel_rfl) (OK_s (EX_s (PS_fieldAddr fa34_2 rfl))) ?_
 refine Plan_float 13 rfl rfl (by kernel_rfl) (OK_s (EX_s (PS_indexAddr ia32 rfl rfl (by first | omega | exact hb.1 | exact hb.2 | (dsimp only; omega)) (by first | omega | exact hb.1 | exact hb.2 | (dsimp only; omega))))) ?_
 refine Plan_float 14 rfl rfl (by kernel_rfl) (OK_s (EX_s (PS_fieldAddr fa31_3 rfl))) ?_
 refine Plan_chain 15 rfl (by kernel_rfl) ?_
 refine GL_unit (PU_store (((TurnV.l0.comp Land.l2).comp (Lens.arr (n := 6) Being.fl (by first | omega | exact hb.1 | exact hb.2 | (dsimp only; omega)) (by first | omega | exact hb.1 | exact hb.2 | (dsimp only; omega)))).comp Being.l3) rfl rfl rfl sz3 rfl .head) ?_
 refine GL_hand0 rfl ⟨?_, ?_⟩
 · exact (Pend_skip (by kernel_rfl) (Pend_skip (by kernel_rfl) (Pend_skip (by kernel_rfl) (Pend_skip (by kernel_rfl) (Pend_skip (by kernel_rfl) (Pend_skip (by kernel_rfl) (Pend_skip (by kernel_rfl) (Pend_skip (by kernel_rfl) (Pend_skip (by kernel_rfl) (Pend_skip (by kernel_rfl) (Pend_skip (by kernel_rfl) (Pend_skip (by kernel_rfl) (Pend_skip (by kernel_rfl) (Pend_skip (by kernel_rfl) (Pend_skip (by kernel_rfl) Pend_nil)))))))))))))))
 refine Plan_end (by kernel_rfl) ?_
 refine GQ_sub (.cons (k := 0) rfl (.cons (k := 1) rfl (.nil _))) ?_
 refine GQ_then ?_
 refine G_seq ?_
 refine G_planN (N := 11) [0, 0, 2, 6, 14, 1, 33, 97, 255, 511, 1023] mix (by kernel_rfl) rfl ?_
 refine Plan_float 0 rfl rfl (by kernel_rfl) (OK_s (EX_s (PS_move rfl))) ?_
 refine Plan_float 1 rfl rfl (by kernel_rfl) (OK_s (EX_s (PS_move rfl))) ?_
 refine Plan_float 2 rfl rfl (by kernel_rfl) (OK_s (EX_s (PS_nilCheck rfl))) ?_
 refine Plan_float 3 rfl rfl (by kernel_rfl) (OK_s (EX_s (PS_fieldAddr fa55_1 rfl))) ?_
 refine Plan_float 4 rfl rfl (by kernel_rfl) (OK_s (EX_s (PS_load rfl tys3 (.head _) TurnV.l1 rfl rfl))) ?_
 refine Plan_float 5 rfl rfl (by kernel_rfl) (OK_s (EX_s (PS_nilCheck rfl))) ?_
 refine Plan_float 6 rfl rfl (by kernel_rfl) (OK_s (EX_s (PS_fieldAddr fa55_0 rfl))) ?_
 refine Plan_float 7 rfl rfl (by kernel_rfl) (OK_s (EX_s (PS_fieldAddr fa34_2 rfl))) ?_
 refine Plan_float 8 rfl rfl (by kernel_rfl) (OK_s (EX_s (PS_indexAddr ia32 rfl rfl (by first | omega | exact hb.1 | exact hb.2 | (dsimp only; omega)) (by first | omega | exact hb.1 | exact hb.2 | (dsimp only; omega))))) ?_
 refine Plan_float 9 rfl rfl (by kernel_rfl) (OK_s (EX_s (PS_fieldAddr fa31_5 rfl))) ?_
 refine Plan_chain 10 rfl (by kernel_rfl) ?_
 refine GL_unit (PU_store (((TurnV.l0.comp Land.l2).comp (Lens.arr (n := 6) Being.fl (by first | omega | exact hb.1 | exact hb.2 | (dsimp only; omega)) (by first | omega | exact hb.1 | exact hb.2 | (dsimp only; omega)))).comp Being.l5) rfl rfl rfl sz3 rfl .head) ?_
 refine GL_hand0 rfl ⟨?_, ?_⟩
 · exact (Pend_skip (by kernel_rfl) (Pend_skip (by kernel_rfl) (Pend_skip (by kernel_rfl) (Pend_skip (by kernel_rfl) (Pend_skip (by kernel_rfl) (Pend_skip (by kernel_rfl) (Pend_skip (by kernel_rfl) (Pend_skip (by kernel_rfl) (Pend_skip (by kernel_rfl) (Pend_skip (by kernel_rfl) Pend_nil))))))))))
 refine Plan_end (by kernel_rfl) ?_
 refine GQ_sub (.cons (k := 0) rfl (.cons (k := 1) rfl (.nil _))) ?_
 refine GQ_then ?_
 refine G_seq ?_
 refine G_swap (fun _ => .head) (congrArg (fun q => TurnV.enc ⟨q, _, _⟩) (Turn.moved_eq (T.happens { Turn.evk 1 with dir := d }) hb _)) ?_
 refine G_region ?_
 refine GL_step rfl (PS_move rfl) ?_
 refine GL_step rfl (PS_move rfl) ?_
 refine GL_pure rfl cf33 (.cons rfl .nil) (fun w hS => land_Opposite_spec _ w) ?_
 refine GL_step rfl (PS_build pl48 zv48 rfl (.cons Ing.Event.l0 rfl rfl rfl (.cons Ing.Event.l3 rfl rfl rfl (.cons Ing.Event.l4 rfl rfl rfl .nil)))) ?_
 refine GL_callL rfl cf17 (.cons rfl (.cons rfl .nil)) (.cons .head (.cons .head .nil)) (rules_turn_happens_spec _ (Turn.moved (T.happens { Turn.evk 1 with dir := d }) ((T.w.rooms.at T.me.room).exits.at d - 1)) _ { Turn.evk 2 with dir := Land.opposite d } (by assumption) hb (show (-1 : Int) < 6 by decide) (show (Turn.out (T.happens { Turn.evk 1 with dir := d })).length ≤ 100000 by simp only [Turn.happens_len]; omega)) (fun v10 B hv => ?_)
 obtain ⟨y11, rfl, y12, rfl⟩ := hv
 refine GL_nil ?_
 refine GQ_sub (.cons (k := 0) rfl (.nil _)) ?_
 refine GQ_then ?_
 refine G_region ?_
 refine GL_step rfl (PS_move rfl) ?_
 refine GL_callR rfl cf14 (.cons rfl .nil) (.cons .head (.cons .head .nil)) (rules_turn_look_spec _ (Turn.happens (Turn.moved (T.happens { Turn.evk 1 with dir := d }) ((T.w.rooms.at T.me.room).exits.at d - 1)) { Turn.evk 2 with dir := Land.opposite d }) _ (by assumption) hb gm.fit.br (show _ ≤ 90000 by simp only [Turn.happens_len]; show (Turn.out (T.happens { Turn.evk 1 with dir := d })).length + 1 ≤ 90000; simp only [Turn.happens_len]; omega)) (fun w hS => gl0.pull gm0 hS (.cons .head (.cons .head .nil))) (fun v13 B hv => ?_)
 obtain ⟨y14, rfl, y15, rfl⟩ := hv
 refine GL_nil ?_
 refine GQ_sub (.nil _) ?_
 refine GQ_block ?_
 refine GQ_end rfl .nil ?_
 intro w1 hS
 have hS := (hS.perm (Pulls.perm (.cons .head (.cons .head .nil)))).headL
 have hq : T.walk d = _ := ((if_f c1).trans (if_f c2))
 refine ⟨_, ⟨?gq3, rfl, ?hl3, ?hB3⟩, hS⟩
 case hB3 => rw [hq]; (try rfl)
 case hl3 => rw [hq]; assumption
theorem rules_turn_fade_spec (b : Nat) (T : Turn) (g : Hd) (hg : g.len = T.out.length) (hF : T.Fit) (hn : T.out.length ≤ 90000) : Ctr Tryd.prog 18 #[.pointer (some ⟨b, 0, none⟩)] [Res.box b 55 (TurnV.enc ⟨T.w, T.b, g⟩), Res.own g 48 16 (T.out.flatMap Ing.Event.enc)] (fun v B => ∃ g' : Hd, v = .tuple #[] ∧ g'.len = (T.fade).out.length ∧ B = [Res.box b 55 (TurnV.enc ⟨(T.fade).w, (T.fade).b, g'⟩), Res.own g' 48 16 ((T.fade).out.flatMap Ing.Event.enc)]) := by
 intro w hS0
 have hb := hF.b
 have hr := hF.room
 refine Ret_body _ _ Tryd.func18 rfl rfl rfl (hS0) ?_
 refine G_seq ?_
 refine G_region ?_
 refine GL_step rfl (PS_move rfl) ?_
 refine GL_callL rfl cf37 (.cons rfl (.cons rfl .nil)) (.cons .head (.cons .head .nil)) (rules_turn_event_spec _ T _ 18 hg hb (by omega)) (fun v1 B hv => ?_)
 obtain ⟨y2, rfl, y3, rfl⟩ := hv
 refine GL_nil ?_
 refine GQ_sub (.cons (k := 0) rfl (.nil _)) ?_
 refine GQ_then ?_
 refine G_seq ?_
 refine G_region ?_
 refine GL_step rfl (PS_move rfl) ?_
 refine GL_callL rfl cf38 (.cons rfl .nil) (.cons .head .nil) (rules_turn_fall_spec _ (T.kind 18) _ (hF.of_w rfl rfl)) (fun v4 B hv => ?_)
 obtain ⟨y5, y6, rfl, rfl⟩ := hv
 refine GL_nil ?_
 refine GQ_sub (.cons (k := 0) rfl (.nil _)) ?_
 refine GQ_then ?_
 refine G_planN (N := 11) [0, 0, 2, 6, 14, 0, 1, 65, 193, 511, 1023] mix (by kernel_rfl) rfl ?_
 refine Plan_float 0 rfl rfl (by kernel_rfl) (OK_s (EX_s (PS_move rfl))) ?_
 refine Plan_float 1 rfl rfl (by kernel_rfl) (OK_s (EX_s (PS_move rfl))) ?_
 refine Plan_float 2 rfl rfl (by kernel_rfl) (OK_s (EX_s (PS_nilCheck rfl))) ?_
 refine Plan_float 3 rfl rfl (by kernel_rfl) (OK_s (EX_s (PS_fieldAddr fa55_1 rfl))) ?_
 refine Plan_float 4 rfl rfl (by kernel_rfl) (OK_s (EX_s (PS_load rfl tys3 (.head _) TurnV.l1 rfl rfl))) ?_
 refine Plan_float 5 rfl rfl (by kernel_rfl) (OK_s (EX_s (PS_build pl31 zv31 rfl .nil))) ?_
 refine Plan_float 6 rfl rfl (by kernel_rfl) (OK_s (EX_s (PS_nilCheck rfl))) ?_
 refine Plan_float 7 rfl rfl (by kernel_rfl) (OK_s (EX_s (PS_fieldAddr fa55_0 rfl))) ?_
 refine Plan_float 8 rfl rfl (by kernel_rfl) (OK_s (EX_s (PS_fieldAddr fa34_2 rfl))) ?_
 refine Plan_float 9 rfl rfl (by kernel_rfl) (OK_s (EX_s (PS_indexAddr ia32 rfl rfl (by first | exact hb.1 | exact hb.2 | omega | (dsimp only; omega)) (by first | exact hb.1 | exact hb.2 | omega | (dsimp only; omega))))) ?_
 refine Plan_chain 10 rfl (by kernel_rfl) ?_
 refine GL_unit (PU_store ((TurnV.l0.comp Land.l2).comp (Lens.arr (n := 6) Being.fl (by first | exact hb.1 | exact hb.2 | omega | (dsimp only; omega)) (by first | exact hb.1 | exact hb.2 | omega | (dsimp only; omega)))) rfl rfl rfl sz31 rfl .head) ?_
 refine GL_hand0 rfl ⟨?_, ?_⟩
 · exact (Pend_skip (by kernel_rfl) (Pend_skip (by kernel_rfl) (Pend_skip (by kernel_rfl) (Pend_skip (by kernel_rfl) (Pend_skip (by kernel_rfl) (Pend_skip (by kernel_rfl) (Pend_skip (by kernel_rfl) (Pend_skip (by kernel_rfl) (Pend_skip (by kernel_rfl) (Pend_skip (by kernel_rfl) Pend_nil))))))))))
 refine Plan_end (by kernel_rfl) ?_
 refine GQ_end rfl .nil ?_
 intro w1 hS
 have hS := (hS.perm (Pulls.perm (.cons .head (.cons .head .nil)))).headL
 obtain ⟨hf1, hf2, hf3⟩ := T.fade_b
 refine ⟨_, ⟨?gq, rfl, ?hl, ?hB⟩, hS⟩
 case hB => rw [hf1, hf2, hf3, ← y6]
 case hl => rw [hf2]; exact y3
theorem internal_stringslite_HasPrefix_spec (s p : Str) (w : World) : Ret Tryd.prog 78 #[vstr s, vstr p] w fun v w' => v = .bool (decide ((p.length : Int) ≤ (s.length : Int)) && decide (s.take p.length = p)) ∧ Keep w w' := by
 refine Ret_body [] [] Tryd.func78 rfl rfl rfl (St.start w []) ?_
 refine G_seq ?_
 refine G_region ?_
 refine GL_step rfl (PS_assign rfl) ?_
 refine GL_nil ?_
 refine GQ_sub (.cons (k := 0) rfl (.cons (k := 1) rfl (.nil _))) ?_
 refine GQ_then ?_
 refine G_seq ?_
 refine G_region ?_
 refine GL_step rfl (PS_move rfl) ?_
 refine GL_step rfl (PS_len_str rfl Tryd.underlying9 rfl) ?_
 refine GL_step rfl (PS_move rfl) ?_
 refine GL_step rfl (PS_len_str rfl Tryd.underlying9 rfl) ?_
 refine GL_step rfl (PS_geq rfl rfl) ?_
 refine GL_step rfl (PS_move rfl) ?_
 refine GL_gt (t := 10) rfl rfl rfl (fun q => PS_move rfl) ?_
 refine GL_gt (t := 10) rfl rfl rfl (fun q => PS_move rfl) ?_
 refine GL_gt (t := 10) rfl rfl rfl (fun q => PS_len_str rfl Tryd.underlying9 (cvE rfl q)) ?_
 refine GL_gt (t := 10) rfl rfl rfl (fun q => by have q1 := q; (try simp at q1); exact PS_subSh Tryd.underlying9 (cvE rfl q) (cvE rfl q) (by omega) (by omega)) ?_
 refine GL_gt (t := 10) rfl rfl rfl (fun q => PS_move rfl) ?_
 refine GL_gt (t := 10) rfl rfl rfl (fun q => PS_eql_str (cvE rfl q) (cvE rfl q)) ?_
 refine GL_step rfl (PS_and rfl rfl (fun h => h)) ?_
 refine GL_step rfl (PS_assign rfl) ?_
 refine GL_nil ?_
 refine GQ_sub (.cons (k := 4) rfl (.nil _)) ?_
 refine GQ_then ?_
 refine G_ret ?_
 refine GQ_ret rfl (.tmp rfl .nil) ?_
 intro w1 hS; refine ⟨?_, hS.toKeep⟩; rfl
theorem internal_stringslite_CutPrefix_spec (s p : Str) (w : World) : Ret Tryd.prog 68 #[vstr s, vstr p] w fun v w' => v = .tuple #[vstr (Words.cutP s p).1, .bool (Words.cutP s p).2] ∧ Keep w w' := by
 refine Ret_body [] [] Tryd.func68 rfl rfl rfl (St.start w []) ?_
 refine G_seq ?_
 refine G_region ?_
 refine GL_step rfl (PS_assign rfl) ?_
 refine GL_step rfl (PS_assign rfl) ?_
 refine GL_nil ?_
 refine GQ_sub (.cons (k := 0) rfl (.cons (k := 1) rfl (.nil _))) ?_
 refine GQ_then ?_
 refine G_seq ?_
 refine G_seq ?_
 refine G_region ?_
 refine GL_step rfl (PS_move rfl) ?_
 refine GL_step rfl (PS_move rfl) ?_
 refine GL_pure rfl cf78 (.cons rfl (.cons rfl .nil)) (fun w hS => internal_stringslite_HasPrefix_spec _ _ w) ?_
 refine GL_step rfl (PS_not rfl) ?_
 refine GL_nil ?_
 refine GQ_sub (.cons (k := 0) rfl (.cons (k := 1) rfl (.cons (k := 9) rfl (.nil _)))) ?_
 refine GQ_then ?_
 refine G_cond rfl (fun c1 => ?_) (fun c1 => ?_)
 ·
  have c1p := kz c1
  refine G_seq ?_
  refine G_region ?_
  refine GL_step rfl (PS_move rfl) ?_
  refine GL_step rfl (PS_assign rfl) ?_
  refine GL_step rfl (PS_assign rfl) ?_
  refine GL_nil ?_
  refine GQ_sub (.cons (k := 4) rfl (.cons (k := 5) rfl (.nil _))) ?_
  refine GQ_then ?_
  refine G_ret ?_
  refine GQ_then_ret ?_
  refine GQ_ret rfl (.tmp rfl (.tmp rfl .nil)) ?_
  intro w1 hS; refine ⟨?_, hS.toKeep⟩; rw [show Words.cutP s p = _ from (if_t c1)]; rfl
 have c1p := kz c1
 have hle : p.length ≤ s.length := by simp at c1; omega
 refine G_skip ?_
 refine GQ_sub (.cons (k := 0) rfl (.cons (k := 1) rfl (.nil _))) ?_
 refine GQ_then ?_
 refine G_seq ?_
 refine G_region ?_
 refine GL_step rfl (PS_move rfl) ?_
 refine GL_step rfl (PS_move rfl) ?_
 refine GL_step rfl (PS_len_str rfl Tryd.underlying9 rfl) ?_
 refine GL_step rfl (PS_subSl Tryd.underlying9 rfl rfl (by omega) (by omega)) ?_
 refine GL_step rfl (PS_assign rfl) ?_
 refine GL_step rfl (PS_assign rfl) ?_
 refine GL_nil ?_
 refine GQ_sub (.cons (k := 4) rfl (.cons (k := 5) rfl (.nil _))) ?_
 refine GQ_then ?_
 refine G_ret ?_
 refine GQ_ret rfl (.tmp rfl (.tmp rfl .nil)) ?_
 intro w1 hS; refine ⟨?_, hS.toKeep⟩; rw [show Words.cutP s p = _ from (if_f c1)]; rfl
theorem strings_CutPrefix_spec (s p : Str) (w : World) : Ret Tryd.prog 60 #[vstr s, vstr p] w fun v w' => v = .tuple #[vstr (Words.cutP s p).1, .bool (Words.cutP s p).2] ∧ Keep w w' := by
 refine Ret_body [] [] Tryd.func60 rfl rfl rfl (St.start w []) ?_
 refine G_seq ?_
 refine G_region ?_
 refine GL_step rfl (PS_assign rfl) ?_
 refine GL_step rfl (PS_assign rfl) ?_
 refine GL_nil ?_
 refine GQ_sub (.cons (k := 0) rfl (.cons (k := 1) rfl (.nil _))) ?_
 refine GQ_then ?_
 refine G_seq ?_
 refine G_region ?_
 refine GL_step rfl (PS_move rfl) ?_
 refine GL_step rfl (PS_move rfl) ?_
 refine GL_pure rfl cf68 (.cons rfl (.cons rfl .nil)) (fun w hS => internal_stringslite_CutPrefix_spec _ _ w) ?_
 refine GL_step rfl (PS_extract rfl rfl) ?_
 refine GL_step rfl (PS_extract rfl rfl) ?_
 refine GL_step rfl (PS_assign rfl) ?_
 refine GL_step rfl (PS_assign rfl) ?_
 refine GL_nil ?_
 refine GQ_sub (.cons (k := 4) rfl (.cons (k := 5) rfl (.nil _))) ?_
 refine GQ_then ?_
 refine G_ret ?_
 refine GQ_ret rfl (.tmp rfl (.tmp rfl .nil)) ?_
 intro w1 hS; refine ⟨?_, hS.toKeep⟩; rfl
theorem internal_stringslite_IndexByte_spec (s : Str) (c : UInt8) (w : World) : Ret Tryd.prog 87 #[vstr s, .int .u8 (c.toNat : Int)] w fun v w' => v = .int .i64 (Lib.indexByte s c) ∧ Keep w w' := by
 refine Ret_body [] [] Tryd.func87 rfl rfl rfl (St.start w []) ?_
 refine G_seq ?_
 refine G_region ?_
 refine GL_step rfl (PS_assign rfl) ?_
 refine GL_nil ?_
 refine GQ_sub (.cons (k := 0) rfl (.cons (k := 1) rfl (.nil _))) ?_
 refine GQ_then ?_
 refine G_seq ?_
 refine G_region ?_
 refine GL_step rfl (PS_move rfl) ?_
 refine GL_step rfl (PS_move rfl) ?_
 refine GL_step rfl (PS_indexByteString Tryd.func94 (by kernel_rfl) (by kernel_rfl) (by kernel_rfl) (by kernel_rfl) rfl rfl) ?_
 refine GL_step rfl (PS_assign rfl) ?_
 refine GL_nil ?_
 refine GQ_sub (.cons (k := 4) rfl (.nil _)) ?_
 refine GQ_then ?_
 refine G_ret ?_
 refine GQ_ret rfl (.tmp rfl .nil) ?_
 intro w1 hS; refine ⟨?_, hS.toKeep⟩; rfl
theorem internal_stringslite_Index_spec (s : Str) (c : UInt8) (w : World) : Ret Tryd.prog 79 #[vstr s, vstr [c]] w fun v w' => v = .int .i64 (Lib.indexByte s c) ∧ Keep w w' := by
 refine Ret_body [] [] Tryd.func79 rfl rfl rfl (St.start w []) ?_
 refine G_seq ?_
 refine G_region ?_
 refine GL_step rfl (PS_assign rfl) ?_
 refine GL_nil ?_
 refine GQ_sub (.cons (k := 0) rfl (.cons (k := 1) rfl (.nil _))) ?_
 refine GQ_then ?_
 refine G_seq ?_
 refine G_region ?_
 refine GL_step rfl (PS_move rfl) ?_
 refine GL_step rfl (PS_len_str rfl Tryd.underlying9 rfl) ?_
 refine GL_step rfl (PS_assign rfl) ?_
 refine GL_nil ?_
 refine GQ_sub (.cons (k := 0) rfl (.cons (k := 1) rfl (.cons (k := 5) rfl (.nil _)))) ?_
 refine GQ_then ?_
 refine G_seq ?_
 refine G_block ?_
 refine G_seq ?_
 refine G_region ?_
 refine GL_step rfl (PS_move rfl) ?_
 refine GL_step rfl (PS_eql rfl rfl) ?_
 refine GL_step rfl (PS_move rfl) ?_
 refine GL_gf (t := 19) rfl rfl rfl (fun q => PS_move rfl) ?_
 refine GL_gf (t := 19) rfl rfl rfl (fun q => PS_move rfl) ?_
 refine GL_gf (t := 19) rfl rfl rfl (fun q => PS_eql_str (cvE rfl (by rw [q]; rfl)) (cvE rfl (by rw [q]; rfl))) ?_
 refine GL_step rfl (PS_or rfl rfl (fun h => by rw [h]; rfl)) ?_
 refine GL_step rfl (PS_assign rfl) ?_
 refine GL_nil ?_
 refine GQ_sub (.cons (k := 0) rfl (.cons (k := 1) rfl (.cons (k := 5) rfl (.cons (k := 16) rfl (.nil _))))) ?_
 refine GQ_then ?_
 refine G_cond rfl (fun c1 => ?_) (fun c1 => ?_)
 ·
  have c1p := kz c1
  refine G_seq ?_
  refine G_region ?_
  refine GL_step rfl (PS_assign rfl) ?_
  refine GL_nil ?_
  refine GQ_sub (.cons (k := 4) rfl (.nil _)) ?_
  refine GQ_then ?_
  refine G_ret ?_
  refine GQ_block_ret ?_
  refine GQ_then_ret ?_
  refine GQ_ret rfl (.tmp rfl .nil) ?_
  intro w1 hS; refine ⟨?_, hS.toKeep⟩; have e : [c] = s := by simpa using c1
  rw [← e, Page.index_one]; rfl
 have c1p := kz c1
 refine G_seq ?_
 refine G_region ?_
 refine GL_step rfl (PS_move rfl) ?_
 refine GL_step rfl (PS_eql rfl rfl) ?_
 refine GL_step rfl (PS_assign rfl) ?_
 refine GL_nil ?_
 refine GQ_sub (.cons (k := 0) rfl (.cons (k := 1) rfl (.cons (k := 5) rfl (.cons (k := 24) rfl (.nil _))))) ?_
 refine GQ_then ?_
 refine G_true rfl (by simp) ?_
 refine G_seq ?_
 refine G_region ?_
 refine GL_step rfl (PS_move rfl) ?_
 refine GL_step rfl (PS_move rfl) ?_
 refine GL_step rfl (PS_index_str Tryd.underlying9 rfl rfl (by decide) (by first | omega | simp)) ?_
 refine GL_pure rfl cf87 (.cons rfl (.cons rfl .nil)) (fun w hS => internal_stringslite_IndexByte_spec _ _ w) ?_
 refine GL_step rfl (PS_assign rfl) ?_
 refine GL_nil ?_
 refine GQ_sub (.cons (k := 4) rfl (.nil _)) ?_
 refine GQ_then ?_
 refine G_ret ?_
 refine GQ_block_ret ?_
 refine GQ_then_ret ?_
 refine GQ_ret rfl (.tmp rfl .nil) ?_
 intro w1 hS; refine ⟨?_, hS.toKeep⟩; rfl
theorem strings_Index_spec (s : Str) (c : UInt8) (w : World) : Ret Tryd.prog 69 #[vstr s, vstr [c]] w fun v w' => v = .int .i64 (Lib.indexByte s c) ∧ Keep w w' := by
 refine Ret_body [] [] Tryd.func69 rfl rfl rfl (St.start w []) ?_
 refine G_seq ?_
 refine G_region ?_
 refine GL_step rfl (PS_assign rfl) ?_
 refine GL_nil ?_
 refine GQ_sub (.cons (k := 0) rfl (.cons (k := 1) rfl (.nil _))) ?_
 refine GQ_then ?_
 refine G_seq ?_
 refine G_region ?_
 refine GL_step rfl (PS_move rfl) ?_
 refine GL_step rfl (PS_move rfl) ?_
 refine GL_pure rfl cf79 (.cons rfl (.cons rfl .nil)) (fun w hS => internal_stringslite_Index_spec _ _ w) ?_
 refine GL_step rfl (PS_assign rfl) ?_
 refine GL_nil ?_
 refine GQ_sub (.cons (k := 4) rfl (.nil _)) ?_
 refine GQ_then ?_
 refine G_ret ?_
 refine GQ_ret rfl (.tmp rfl .nil) ?_
 intro w1 hS; refine ⟨?_, hS.toKeep⟩; rfl
theorem strings_Contains_spec (s : Str) (c : UInt8) (w : World) : Ret Tryd.prog 61 #[vstr s, vstr [c]] w fun v w' => v = .bool (decide (0 ≤ Lib.indexByte s c)) ∧ Keep w w' := by
 refine Ret_body [] [] Tryd.func61 rfl rfl rfl (St.start w []) ?_
 refine G_seq ?_
 refine G_region ?_
 refine GL_step rfl (PS_assign rfl) ?_
 refine GL_nil ?_
 refine GQ_sub (.cons (k := 0) rfl (.cons (k := 1) rfl (.nil _))) ?_
 refine GQ_then ?_
 refine G_seq ?_
 refine G_region ?_
 refine GL_step rfl (PS_move rfl) ?_
 refine GL_step rfl (PS_move rfl) ?_
 refine GL_pure rfl cf69 (.cons rfl (.cons rfl .nil)) (fun w hS => strings_Index_spec _ c w) ?_
 refine GL_step rfl (PS_geq rfl rfl) ?_
 refine GL_step rfl (PS_assign rfl) ?_
 refine GL_nil ?_
 refine GQ_sub (.cons (k := 4) rfl (.nil _)) ?_
 refine GQ_then ?_
 refine G_ret ?_
 refine GQ_ret rfl (.tmp rfl .nil) ?_
 intro w1 hS; refine ⟨?_, hS.toKeep⟩; rfl
theorem internal_stringslite_Cut_spec (s : Str) (c : UInt8) (hs : s.length ≤ 140737488351232) (w : World) : Ret Tryd.prog 70 #[vstr s, vstr [c]] w fun v w' => v = .tuple #[vstr (Words.cut c s).1, vstr (Words.cut c s).2.1, .bool (Words.cut c s).2.2] ∧ Keep w w' := by
 refine Ret_body [] [] Tryd.func70 rfl rfl rfl (St.start w []) ?_
 refine G_seq ?_
 refine G_region ?_
 refine GL_step rfl (PS_assign rfl) ?_
 refine GL_step rfl (PS_assign rfl) ?_
 refine GL_step rfl (PS_assign rfl) ?_
 refine GL_nil ?_
 refine GQ_sub (.cons (k := 0) rfl (.cons (k := 1) rfl (.nil _))) ?_
 refine GQ_then ?_
 refine G_seq ?_
 refine G_seq ?_
 refine G_region ?_
 refine GL_step rfl (PS_move rfl) ?_
 refine GL_step rfl (PS_move rfl) ?_
 refine GL_pure rfl cf79 (.cons rfl (.cons rfl .nil)) (fun w hS => internal_stringslite_Index_spec _ c w) ?_
 refine GL_step rfl (PS_assign rfl) ?_
 refine GL_nil ?_
 refine GQ_sub (.cons (k := 0) rfl (.cons (k := 1) rfl (.cons (k := 7) rfl (.nil _)))) ?_
 refine GQ_then ?_
 refine G_seq ?_
 refine G_region ?_
 refine GL_step rfl (PS_move rfl) ?_
 refine GL_step rfl (PS_geq rfl rfl) ?_
 refine GL_nil ?_
 refine GQ_sub (.cons (k := 0) rfl (.cons (k := 1) rfl (.cons (k := 7) rfl (.cons (k := 12) rfl (.nil _))))) ?_
 refine GQ_then ?_
 refine G_cond rfl (fun c1 => ?_) (fun c1 => ?_)
 ·
  have c1p := kz c1
  have hm := Words.idx_lt (c := c) (s := s) (by simpa using c1)
  refine G_seq ?_
  refine G_planN (N := 12) [0, 0, 3, 0, 0, 0, 32, 112, 248, 7, 1023, 2047] mix (by kernel_rfl) rfl ?_
  refine Plan_float 0 rfl rfl (by kernel_rfl) (OK_s (EX_s (PS_move rfl))) ?_
  refine Plan_float 1 rfl rfl (by kernel_rfl) (OK_s (EX_s (PS_move rfl))) ?_
  refine Plan_float 3 rfl rfl (by kernel_rfl) (OK_s (EX_s (PS_move rfl))) ?_
  refine Plan_float 4 rfl rfl (by kernel_rfl) (OK_s (EX_s (PS_move rfl))) ?_
  refine Plan_float 5 rfl rfl (by kernel_rfl) (OK_s (EX_s (PS_move rfl))) ?_
  refine Plan_float 6 rfl rfl (by kernel_rfl) (OK_s (EX_s (PS_len_str rfl Tryd.underlying9 rfl))) ?_
  refine Plan_float 7 rfl rfl (by kernel_rfl) (OK_s (EX_s (PS_add rfl rfl (IntWalk.i64_in _ (by (try simp only [List.length_cons, List.length_nil]); omega))))) ?_
  refine Plan_two 2 8 rfl rfl (by kernel_rfl) ?_ ?_
  ·
   refine GL_step rfl (PS_subSh Tryd.underlying9 rfl rfl (by (try simp only [List.length_cons, List.length_nil]); omega) (by (try simp only [List.length_cons, List.length_nil]); omega)) ?_
   refine GL_hand rfl ⟨?_, ?_⟩
   · exact (Pend_okv rfl (OK_s (EX_s (PS_add rfl rfl (IntWalk.i64_in _ (by (try simp only [List.length_cons, List.length_nil]); omega))))) rfl rfl (Pend_okv rfl (OK_s (EX_s (PS_len_str rfl Tryd.underlying9 rfl))) rfl rfl (Pend_okv rfl (OK_s (EX_s (PS_move rfl))) rfl rfl (Pend_okv rfl (OK_s (EX_s (PS_move rfl))) rfl rfl (Pend_okv rfl (OK_s (EX_s (PS_move rfl))) rfl rfl (Pend_skip (by kernel_rfl) (Pend_skip (by kernel_rfl) Pend_nil)))))))
   refine Plan_float 9 rfl rfl (by kernel_rfl) (OK_s (EX_s (PS_assign rfl))) ?_
   refine Plan_chain 8 rfl (by kernel_rfl) ?_
   refine GL_step rfl (PS_subSl Tryd.underlying9 rfl rfl (by (try simp only [List.length_cons, List.length_nil]); omega) (by (try simp only [List.length_cons, List.length_nil]); omega)) ?_
   refine GL_hand rfl ⟨?_, ?_⟩
   · exact (Pend_okv rfl (OK_s (EX_s (PS_assign rfl))) rfl rfl (Pend_skip (by kernel_rfl) (Pend_skip (by kernel_rfl) (Pend_skip (by kernel_rfl) (Pend_skip (by kernel_rfl) (Pend_skip (by kernel_rfl) (Pend_okv rfl (OK_s (EX_s (PS_move rfl))) rfl rfl (Pend_okv rfl (OK_s (EX_s (PS_move rfl))) rfl rfl Pend_nil))))))))
   refine Plan_float 10 rfl rfl (by kernel_rfl) (OK_s (EX_s (PS_assign rfl))) ?_
   refine Plan_float 11 rfl rfl (by kernel_rfl) (OK_s (EX_s (PS_assign rfl))) ?_
   refine Plan_end (by kernel_rfl) ?_
   refine GQ_sub (.cons (k := 4) rfl (.cons (k := 5) rfl (.cons (k := 6) rfl (.nil _)))) ?_
   refine GQ_then ?_
   refine G_ret ?_
   refine GQ_then_ret ?_
   refine GQ_ret rfl (.tmp rfl (.tmp rfl (.tmp rfl .nil))) ?_
   intro w1 hS; refine ⟨?_, hS.toKeep⟩; rw [show Words.cut c s = _ from (if_t c1)]; rfl
  ·
   refine GL_step rfl (PS_subSl Tryd.underlying9 rfl rfl (by (try simp only [List.length_cons, List.length_nil]); omega) (by (try simp only [List.length_cons, List.length_nil]); omega)) ?_
   refine GL_hand rfl ⟨?_, ?_⟩
   · exact (Pend_skip (by kernel_rfl) (Pend_skip (by kernel_rfl) (Pend_skip (by kernel_rfl) (Pend_skip (by kernel_rfl) (Pend_skip (by kernel_rfl) (Pend_okv rfl (OK_s (EX_s (PS_move rfl))) rfl rfl (Pend_okv rfl (OK_s (EX_s (PS_move rfl))) rfl rfl Pend_nil)))))))
   refine Plan_chain 2 rfl (by kernel_rfl) ?_
   refine GL_step rfl (PS_subSh Tryd.underlying9 rfl rfl (by (try simp only [List.length_cons, List.length_nil]); omega) (by (try simp only [List.length_cons, List.length_nil]); omega)) ?_
   refine GL_hand rfl ⟨?_, ?_⟩
   · exact (Pend_okv rfl (OK_s (EX_s (PS_add rfl rfl (IntWalk.i64_in _ (by (try simp only [List.length_cons, List.length_nil]); omega))))) rfl rfl (Pend_okv rfl (OK_s (EX_s (PS_len_str rfl Tryd.underlying9 rfl))) rfl rfl (Pend_okv rfl (OK_s (EX_s (PS_move rfl))) rfl rfl (Pend_okv rfl (OK_s (EX_s (PS_move rfl))) rfl rfl (Pend_okv rfl (OK_s (EX_s (PS_move rfl))) rfl rfl (Pend_skip (by kernel_rfl) (Pend_skip (by kernel_rfl) Pend_nil)))))))
   refine Plan_float 9 rfl rfl (by kernel_rfl) (OK_s (EX_s (PS_assign rfl))) ?_
   refine Plan_float 10 rfl rfl (by kernel_rfl) (OK_s (EX_s (PS_assign rfl))) ?_
   refine Plan_float 11 rfl rfl (by kernel_rfl) (OK_s (EX_s (PS_assign rfl))) ?_
   refine Plan_end (by kernel_rfl) ?_
   refine GQ_sub (.cons (k := 4) rfl (.cons (k := 5) rfl (.cons (k := 6) rfl (.nil _)))) ?_
   refine GQ_then ?_
   refine G_ret ?_
   refine GQ_then_ret ?_
   refine GQ_ret rfl (.tmp rfl (.tmp rfl (.tmp rfl .nil))) ?_
   intro w1 hS; refine ⟨?_, hS.toKeep⟩; rw [show Words.cut c s = _ from (if_t c1)]; rfl
 have c1p := kz c1
 refine G_skip ?_
 refine GQ_sub (.cons (k := 0) rfl (.nil _)) ?_
 refine GQ_then ?_
 refine G_seq ?_
 refine G_region ?_
 refine GL_step rfl (PS_move rfl) ?_
 refine GL_step rfl (PS_assign rfl) ?_
 refine GL_step rfl (PS_assign rfl) ?_
 refine GL_step rfl (PS_assign rfl) ?_
 refine GL_nil ?_
 refine GQ_sub (.cons (k := 4) rfl (.cons (k := 5) rfl (.cons (k := 6) rfl (.nil _)))) ?_
 refine GQ_then ?_
 refine G_ret ?_
 refine GQ_ret rfl (.tmp rfl (.tmp rfl (.tmp rfl .nil))) ?_
 intro w1 hS; refine ⟨?_, hS.toKeep⟩; rw [show Words.cut c s = _ from (if_f c1)]; rfl
theorem strings_Cut_spec (s : Str) (c : UInt8) (hs : s.length ≤ 140737488351232) (w : World) : Ret Tryd.prog 62 #[vstr s, vstr [c]] w fun v w' => v = .tuple #[vstr (Words.cut c s).1, vstr (Words.cut c s).2.1, .bool (Words.cut c s).2.2] ∧ Keep w w' := by
 refine Ret_body [] [] Tryd.func62 rfl rfl rfl (St.start w []) ?_
 refine G_seq ?_
 refine G_region ?_
 refine GL_step rfl (PS_assign rfl) ?_
 refine GL_step rfl (PS_assign rfl) ?_
 refine GL_step rfl (PS_assign rfl) ?_
 refine GL_nil ?_
 refine GQ_sub (.cons (k := 0) rfl (.cons (k := 1) rfl (.nil _))) ?_
 refine GQ_then ?_
 refine G_seq ?_
 refine G_region ?_
 refine GL_step rfl (PS_move rfl) ?_
 refine GL_step rfl (PS_move rfl) ?_
 refine GL_pure rfl cf70 (.cons rfl (.cons rfl .nil)) (fun w hS => internal_stringslite_Cut_spec _ c hs w) ?_
 refine GL_step rfl (PS_extract rfl rfl) ?_
 refine GL_step rfl (PS_extract rfl rfl) ?_
 refine GL_step rfl (PS_extract rfl rfl) ?_
 refine GL_step rfl (PS_assign rfl) ?_
 refine GL_step rfl (PS_assign rfl) ?_
 refine GL_step rfl (PS_assign rfl) ?_
 refine GL_nil ?_
 refine GQ_sub (.cons (k := 4) rfl (.cons (k := 5) rfl (.cons (k := 6) rfl (.nil _)))) ?_
 refine GQ_then ?_
 refine G_ret ?_
 refine GQ_ret rfl (.tmp rfl (.tmp rfl (.tmp rfl .nil))) ?_
 intro w1 hS; refine ⟨?_, hS.toKeep⟩; rfl
def laysAtoi_ren : Go.Shelf.Ren := ⟨fun | 172 => 63 | 244 => 71 | 245 => 72 | 247 => 80 | 279 => 81 | 280 => 82 | 281 => 83 | 282 => 84 | 287 => 91 | 316 => 92 | 171 => 30 | 205 => 93 | 321 => 96 | 322 => 97 | 243 => 50 | 246 => 58 | 283 => 64 | 284 => 65 | 285 => 66 | 286 => 67 | 129 => 74 | 317 => 73 | 318 => 75 | 319 => 76 | 320 => 77 | 337 => 85 | 338 => 86 | n => n, fun | 9 => 9 | 3 => 3 | 75 => 72 | 76 => 74 | 4 => 4 | 5 => 5 | 167 => 120 | 37 => 68 | 0 => 0 | 85 => 121 | 2 => 2 | 168 => 123 | 53 => 107 | 175 => 128 | 46 => 118 | 210 => 132 | 127 => 93 | 145 => 142 | 143 => 140 | 21 => 21 | 171 => 106 | 173 => 110 | 212 => 115 | 51 => 116 | 20 => 20 | 213 => 117 | 232 => 134 | 233 => 135 | 80 => 77 | n => n, fun | 15 => 3 | 16 => 4 | 17 => 1 | 18 => 5 | 19 => 6 | n => n⟩
theorem laysAtoi : LaysC.n172 Tryd.prog laysAtoi_ren where
  mixed := by kernel_rfl
  f129 := Tryd.func74.trans (congrArg some (by kernel_rfl))
  f171 := Tryd.func30.trans (congrArg some (by kernel_rfl))
  f172 := Tryd.func63.trans (congrArg some (by kernel_rfl))
  f205 := Tryd.func93.trans (congrArg some (by kernel_rfl))
  f243 := Tryd.func50.trans (congrArg some (by kernel_rfl))
  f244 := Tryd.func71.trans (congrArg some (by kernel_rfl))
  f245 := Tryd.func72.trans (congrArg some (by kernel_rfl))
  f246 := Tryd.func58.trans (congrArg some (by kernel_rfl))
  f247 := Tryd.func80.trans (congrArg some (by kernel_rfl))
  f279 := Tryd.func81.trans (congrArg some (by kernel_rfl))
  f280 := Tryd.func82.trans (congrArg some (by kernel_rfl))
  f281 := Tryd.func83.trans (congrArg some (by kernel_rfl))
  f282 := Tryd.func84.trans (congrArg some (by kernel_rfl))
  f283 := Tryd.func64.trans (congrArg some (by kernel_rfl))
  f284 := Tryd.func65.trans (congrArg some (by kernel_rfl))
  f285 := Tryd.func66.trans (congrArg some (by kernel_rfl))
  f286 := Tryd.func67.trans (congrArg some (by kernel_rfl))
  f287 := Tryd.func91.trans (congrArg some (by kernel_rfl))
  f316 := Tryd.func92.trans (congrArg some (by kernel_rfl))
  f317 := Tryd.func73.trans (congrArg some (by kernel_rfl))
  f318 := Tryd.func75.trans (congrArg some (by kernel_rfl))
  f319 := Tryd.func76.trans (congrArg some (by kernel_rfl))
  f320 := Tryd.func77.trans (congrArg some (by kernel_rfl))
  f321 := Tryd.func96.trans (congrArg some (by kernel_rfl))
  f322 := Tryd.func97.trans (congrArg some (by kernel_rfl))
  f337 := Tryd.func85.trans (congrArg some (by kernel_rfl))
  f338 := Tryd.func86.trans (congrArg some (by kernel_rfl))
  t0 := Tryd.underlying0
  a0 := Tryd.isAgg0
  z0 := Tryd.sizeOf0
  v0 := Tryd.zeroValue0
  t2 := Tryd.underlying2
  a2 := Tryd.isAgg2
  z2 := Tryd.sizeOf2
  v2 := Tryd.zeroValue2
  t3 := Tryd.underlying3
  a3 := Tryd.isAgg3
  z3 := Tryd.sizeOf3
  v3 := Tryd.zeroValue3
  t4 := Tryd.underlying4
  a4 := Tryd.isAgg4
  z4 := Tryd.sizeOf4
  v4 := Tryd.zeroValue4
  t5 := Tryd.underlying5
  a5 := Tryd.isAgg5
  z5 := Tryd.sizeOf5
  v5 := Tryd.zeroValue5
  t9 := Tryd.underlying9
  a9 := Tryd.isAgg9
  z9 := Tryd.sizeOf9
  v9 := Tryd.zeroValue9
  t20 := Tryd.underlying20
  a20 := Tryd.isAgg20
  z20 := Tryd.sizeOf20
  v20 := Tryd.zeroValue20
  t21 := Tryd.underlying21
  a21 := Tryd.isAgg21
  z21 := Tryd.sizeOf21
  v21 := Tryd.zeroValue21
  t37 := Tryd.underlying68
  a37 := Tryd.isAgg68
  z37 := Tryd.sizeOf68
  v37 := Tryd.zeroValue68
  t46 := Tryd.underlying118
  a46 := Tryd.isAgg118
  z46 := Tryd.sizeOf118
  v46 := Tryd.zeroValue118
  t51 := Tryd.underlying116
  a51 := Tryd.isAgg116
  z51 := Tryd.sizeOf116
  v51 := Tryd.zeroValue116
  t53 := Tryd.underlying107
  a53 := Tryd.isAgg107
  z53 := Tryd.sizeOf107
  v53 := Tryd.zeroValue107
  t75 := Tryd.underlying72
  a75 := Tryd.isAgg72
  z75 := Tryd.sizeOf72
  v75 := Tryd.zeroValue72
  t76 := Tryd.underlying74
  a76 := Tryd.isAgg74
  z76 := Tryd.sizeOf74
  v76 := Tryd.zeroValue74
  t85 := Tryd.underlying121
  a85 := Tryd.isAgg121
  z85 := Tryd.sizeOf121
  v85 := Tryd.zeroValue121
  t127 := Tryd.underlying93
  a127 := Tryd.isAgg93
  z127 := Tryd.sizeOf93
  v127 := Tryd.zeroValue93
  t143 := Tryd.underlying140
  a143 := Tryd.isAgg140
  z143 := Tryd.sizeOf140
  v143 := Tryd.zeroValue140
  t145 := Tryd.underlying142
  a145 := Tryd.isAgg142
  z145 := Tryd.sizeOf142
  v145 := Tryd.zeroValue142
  t167 := Tryd.underlying120
  a167 := Tryd.isAgg120
  z167 := Tryd.sizeOf120
  v167 := Tryd.zeroValue120
  t168 := Tryd.underlying123
  a168 := Tryd.isAgg123
  z168 := Tryd.sizeOf123
  v168 := Tryd.zeroValue123
  t171 := Tryd.underlying106
  a171 := Tryd.isAgg106
  z171 := Tryd.sizeOf106
  v171 := Tryd.zeroValue106
  t173 := Tryd.underlying110
  a173 := Tryd.isAgg110
  z173 := Tryd.sizeOf110
  v173 := Tryd.zeroValue110
  t175 := Tryd.underlying128
  a175 := Tryd.isAgg128
  z175 := Tryd.sizeOf128
  v175 := Tryd.zeroValue128
  t210 := Tryd.underlying132
  a210 := Tryd.isAgg132
  z210 := Tryd.sizeOf132
  v210 := Tryd.zeroValue132
  t212 := Tryd.underlying115
  a212 := Tryd.isAgg115
  z212 := Tryd.sizeOf115
  v212 := Tryd.zeroValue115
  t213 := Tryd.underlying117
  a213 := Tryd.isAgg117
  z213 := Tryd.sizeOf117
  t232 := Tryd.underlying134
  a232 := Tryd.isAgg134
  z232 := Tryd.sizeOf134
  v232 := Tryd.zeroValue134
  t233 := Tryd.underlying135
  a233 := Tryd.isAgg135
  z233 := Tryd.sizeOf135
  v233 := Tryd.zeroValue135
  g15 := by kernel_rfl
  g16 := by kernel_rfl
  g17 := by kernel_rfl
  g18 := by kernel_rfl
  g19 := by kernel_rfl
  t80 := Tryd.underlying77
  a80 := Tryd.isAgg77
  z80 := Tryd.sizeOf77
  v80 := Tryd.zeroValue77
  i0 := by kernel_rfl
  i2 := by kernel_rfl
  i3 := by kernel_rfl
  i4 := by kernel_rfl
  i5 := by kernel_rfl
  i9 := by kernel_rfl
  i20 := by kernel_rfl
  i21 := by kernel_rfl
  i37 := by kernel_rfl
  i46 := by kernel_rfl
  i51 := by kernel_rfl
  i53 := by kernel_rfl
  i75 := by kernel_rfl
  i76 := by kernel_rfl
  i80 := by kernel_rfl
  i85 := by kernel_rfl
  i127 := by kernel_rfl
  i143 := by kernel_rfl
  i145 := by kernel_rfl
  i167 := by kernel_rfl
  i168 := by kernel_rfl
  i171 := by kernel_rfl
  i173 := by kernel_rfl
  i175 := by kernel_rfl
  i210 := by kernel_rfl
  i212 := by kernel_rfl
  i232 := by kernel_rfl
  i233 := by kernel_rfl
  m15 := by kernel_rfl
  m16 := by kernel_rfl
  m17 := by kernel_rfl
  m18 := by kernel_rfl
  m19 := by kernel_rfl
  c0 := by kernel_rfl
  c2 := by kernel_rfl
  c3 := by kernel_rfl
  c4 := by kernel_rfl
  c5 := by kernel_rfl
  c9 := by kernel_rfl
  c20 := by kernel_rfl
  c21 := by kernel_rfl
  c37 := by kernel_rfl
  c46 := by kernel_rfl
  c51 := by kernel_rfl
  c53 := by kernel_rfl
  c75 := by kernel_rfl
  c76 := by kernel_rfl
  c80 := by kernel_rfl
  c85 := by kernel_rfl
  c127 := by kernel_rfl
  c143 := by kernel_rfl
  c145 := by kernel_rfl
  c167 := by kernel_rfl
  c168 := by kernel_rfl
  c171 := by kernel_rfl
  c173 := by kernel_rfl
  c175 := by kernel_rfl
  c210 := by kernel_rfl
  c212 := by kernel_rfl
  c213 := by kernel_rfl
  c232 := by kernel_rfl
  c233 := by kernel_rfl
theorem strconv_Atoi_spec (s : Str) (hs : s.length ≤ 140737488351232) : CtrR Tryd.prog 63 #[vstr s] [] (fun w => GVE 3 w ∧ GVE 4 w) (fun v B => (∃ k : Int, Lib.atoiAll s = .ok k ∧ v = .tuple #[.int .i64 k, .nilIface] ∧ B = []) ∨ (∃ (k : Int) (t : TypeId) (x : Value), (∀ j, Lib.atoiAll s ≠ .ok j) ∧ v = .tuple #[.int .i64 k, .iface t x] ∧ B = [])) :=
  atoi_ctr laysAtoi s hs (by kernel_rfl) (by kernel_rfl)
theorem words_Noun_spec (u : Str) (hu : u.length ≤ 140737488351232) (w : World) (gl0 : GVE 3 w) (gl1 : GVE 4 w) : Ret Tryd.prog 55 #[vstr u] w fun v w' => v = .tuple #[.int .i64 (Words.noun u).1, vstr (Words.noun u).2.1, .bool (Words.noun u).2.2.1, .int .i64 (Words.noun u).2.2.2] ∧ Keep w w' := by
 have hcut := Words.cut_len 46 u
 refine Ret_body [] [] Tryd.func55 rfl rfl rfl (St.start w []) ?_
 refine G_seq ?_
 refine G_region ?_
 refine GL_step rfl (PS_assign rfl) ?_
 refine GL_step rfl (PS_assign rfl) ?_
 refine GL_step rfl (PS_assign rfl) ?_
 refine GL_step rfl (PS_assign rfl) ?_
 refine GL_nil ?_
 refine GQ_sub (.cons (k := 0) rfl (.nil _)) ?_
 refine GQ_then ?_
 refine G_seq ?_
 refine G_seq ?_
 refine G_region ?_
 refine GL_step rfl (PS_move rfl) ?_
 refine GL_step rfl (PS_eql_str rfl rfl) ?_
 refine GL_nil ?_
 refine GQ_sub (.cons (k := 0) rfl (.cons (k := 14) rfl (.nil _))) ?_
 refine GQ_then ?_
 refine G_cond rfl (fun c1 => ?_) (fun c1 => ?_)
 ·
  have c1p := kz c1
  refine G_seq ?_
  refine G_region ?_
  refine GL_step rfl (PS_assign rfl) ?_
  refine GL_step rfl (PS_assign rfl) ?_
  refine GL_step rfl (PS_assign rfl) ?_
  refine GL_step rfl (PS_assign rfl) ?_
  refine GL_nil ?_
  refine GQ_sub (.cons (k := 2) rfl (.cons (k := 3) rfl (.cons (k := 4) rfl (.cons (k := 5) rfl (.nil _))))) ?_
  refine GQ_then ?_
  refine G_ret ?_
  refine GQ_then_ret ?_
  refine GQ_ret rfl (.tmp rfl (.tmp rfl (.tmp rfl (.tmp rfl .nil)))) ?_
  intro w1 hS; refine ⟨?_, hS.toKeep⟩; rw [show Words.noun u = _ from (if_t c1)]; rfl
 have c1p := kz c1
 refine G_skip ?_
 refine GQ_sub (.cons (k := 0) rfl (.nil _)) ?_
 refine GQ_then ?_
 refine G_seq ?_
 refine G_seq ?_
 refine G_region ?_
 refine GL_step rfl (PS_move rfl) ?_
 refine GL_pure rfl cf60 (.cons rfl (.cons rfl .nil)) (fun w hS => strings_CutPrefix_spec _ _ w) ?_
 refine GL_step rfl (PS_move rfl) ?_
 refine GL_step rfl (PS_extract rfl rfl) ?_
 refine GL_step rfl (PS_extract rfl rfl) ?_
 refine GL_step rfl (PS_assign rfl) ?_
 refine GL_step rfl (PS_assign rfl) ?_
 refine GL_nil ?_
 refine GQ_sub (.cons (k := 0) rfl (.cons (k := 6) rfl (.cons (k := 7) rfl (.nil _)))) ?_
 refine GQ_then ?_
 refine G_seq ?_
 refine G_region ?_
 refine GL_step rfl (PS_move rfl) ?_
 refine GL_step rfl (PS_move rfl) ?_
 refine GL_gt (t := 21) rfl rfl rfl (fun q => PS_move rfl) ?_
 refine GL_gt (t := 21) rfl rfl rfl (fun q => PS_neq_str (cvE rfl q) rfl) ?_
 refine GL_step rfl (PS_and rfl rfl (fun h => h)) ?_
 refine GL_step rfl (PS_move rfl) ?_
 refine GL_gt (t := 25) rfl rfl rfl (fun q => PS_move rfl) ?_
 refine GL_pgt (t := 25) rfl rfl rfl (fun q => PC_of cf61 (.cons (cvE rfl q) (.cons rfl .nil)) (fun w hS => strings_Contains_spec _ 46 w)) ?_
 refine GL_gt (t := 25) rfl rfl rfl (fun q => PS_not (cvE rfl q)) ?_
 refine GL_step rfl (PS_and rfl rfl (fun h => h)) ?_
 refine GL_nil ?_
 refine GQ_sub (.cons (k := 0) rfl (.cons (k := 6) rfl (.cons (k := 29) rfl (.nil _)))) ?_
 refine GQ_then ?_
 refine G_cond rfl (fun c2 => ?_) (fun c2 => ?_)
 ·
  have c2p := kz c2
  refine G_seq ?_
  refine G_region ?_
  refine GL_step rfl (PS_move rfl) ?_
  refine GL_step rfl (PS_assign rfl) ?_
  refine GL_step rfl (PS_assign rfl) ?_
  refine GL_step rfl (PS_assign rfl) ?_
  refine GL_step rfl (PS_assign rfl) ?_
  refine GL_nil ?_
  refine GQ_sub (.cons (k := 2) rfl (.cons (k := 3) rfl (.cons (k := 4) rfl (.cons (k := 5) rfl (.nil _))))) ?_
  refine GQ_then ?_
  refine G_ret ?_
  refine GQ_then_ret ?_
  refine GQ_ret rfl (.tmp rfl (.tmp rfl (.tmp rfl (.tmp rfl .nil)))) ?_
  intro w1 hS; refine ⟨?_, hS.toKeep⟩; rw [show Words.noun u = _ from ((if_f c1).trans (if_t c2))]; rfl
 have c2p := kz c2
 refine G_skip ?_
 refine GQ_sub (.cons (k := 0) rfl (.nil _)) ?_
 refine GQ_then ?_
 refine G_seq ?_
 refine G_region ?_
 refine GL_step rfl (PS_move rfl) ?_
 refine GL_pure rfl cf62 (.cons rfl (.cons rfl .nil)) (fun w hS => strings_Cut_spec _ 46 (by omega) w) ?_
 refine GL_step rfl (PS_move rfl) ?_
 refine GL_step rfl (PS_extract rfl rfl) ?_
 refine GL_step rfl (PS_extract rfl rfl) ?_
 refine GL_step rfl (PS_extract rfl rfl) ?_
 refine GL_step rfl (PS_assign rfl) ?_
 refine GL_step rfl (PS_assign rfl) ?_
 refine GL_step rfl (PS_assign rfl) ?_
 refine GL_nil ?_
 refine GQ_sub (.cons (k := 0) rfl (.cons (k := 8) rfl (.cons (k := 9) rfl (.cons (k := 10) rfl (.nil _))))) ?_
 refine GQ_then ?_
 refine G_seq ?_
 refine G_seq ?_
 refine G_region ?_
 refine GL_step rfl (PS_move rfl) ?_
 refine GL_step rfl (PS_not rfl) ?_
 refine GL_nil ?_
 refine GQ_sub (.cons (k := 0) rfl (.cons (k := 8) rfl (.cons (k := 9) rfl (.cons (k := 38) rfl (.nil _))))) ?_
 refine GQ_then ?_
 refine G_cond rfl (fun c3 => ?_) (fun c3 => ?_)
 ·
  have c3p := kz c3
  refine G_seq ?_
  refine G_seq ?_
  refine G_region ?_
  refine GL_step rfl (PS_move rfl) ?_
  refine GL_step rfl (PS_eql_str rfl rfl) ?_
  refine GL_nil ?_
  refine GQ_sub (.cons (k := 0) rfl (.cons (k := 40) rfl (.nil _))) ?_
  refine GQ_then ?_
  refine G_cond rfl (fun c4 => ?_) (fun c4 => ?_)
  ·
   have c4p := kz c4
   refine G_seq ?_
   refine G_region ?_
   refine GL_step rfl (PS_assign rfl) ?_
   refine GL_step rfl (PS_assign rfl) ?_
   refine GL_step rfl (PS_assign rfl) ?_
   refine GL_step rfl (PS_assign rfl) ?_
   refine GL_nil ?_
   refine GQ_sub (.cons (k := 2) rfl (.cons (k := 3) rfl (.cons (k := 4) rfl (.cons (k := 5) rfl (.nil _))))) ?_
   refine GQ_then ?_
   refine G_ret ?_
   refine GQ_then_ret ?_
   refine GQ_then_ret ?_
   refine GQ_ret rfl (.tmp rfl (.tmp rfl (.tmp rfl (.tmp rfl .nil)))) ?_
   intro w1 hS; refine ⟨?_, hS.toKeep⟩; rw [show Words.noun u = _ from ((if_f c1).trans ((if_f c2).trans ((if_t c3).trans (if_t c4))))]; rfl
  have c4p := kz c4
  refine G_skip ?_
  refine GQ_sub (.cons (k := 0) rfl (.nil _)) ?_
  refine GQ_then ?_
  refine G_seq ?_
  refine G_region ?_
  refine GL_step rfl (PS_move rfl) ?_
  refine GL_step rfl (PS_assign rfl) ?_
  refine GL_step rfl (PS_assign rfl) ?_
  refine GL_step rfl (PS_assign rfl) ?_
  refine GL_step rfl (PS_assign rfl) ?_
  refine GL_nil ?_
  refine GQ_sub (.cons (k := 2) rfl (.cons (k := 3) rfl (.cons (k := 4) rfl (.cons (k := 5) rfl (.nil _))))) ?_
  refine GQ_then ?_
  refine G_ret ?_
  refine GQ_then_ret ?_
  refine GQ_ret rfl (.tmp rfl (.tmp rfl (.tmp rfl (.tmp rfl .nil)))) ?_
  intro w1 hS; refine ⟨?_, hS.toKeep⟩; rw [show Words.noun u = _ from ((if_f c1).trans ((if_f c2).trans ((if_t c3).trans (if_f c4))))]; rfl
 have c3p := kz c3
 refine G_skip ?_
 refine GQ_sub (.cons (k := 8) rfl (.cons (k := 9) rfl (.nil _))) ?_
 refine GQ_then ?_
 refine G_seq ?_
 refine G_region ?_
 refine GL_step rfl (PS_move rfl) ?_
 refine GL_callR rfl cf63 (.cons rfl .nil) .nil (strconv_Atoi_spec _ (by omega)) (fun w hS => ⟨gl0.st hS, gl1.st hS⟩) (fun v1 B hv => ?_)
 rcases hv with ⟨y2, y3, rfl, rfl⟩ | ⟨y4, y5, y6, y7, rfl, rfl⟩
 ·
  refine GL_step rfl (PS_move rfl) ?_
  refine GL_step rfl (PS_extract rfl rfl) ?_
  refine GL_step rfl (PS_extract rfl rfl) ?_
  refine GL_step rfl (PS_assign rfl) ?_
  refine GL_step rfl (PS_assign rfl) ?_
  refine GL_nil ?_
  refine GQ_sub (.cons (k := 8) rfl (.cons (k := 9) rfl (.cons (k := 11) rfl (.cons (k := 12) rfl (.nil _))))) ?_
  refine GQ_then ?_
  refine G_seq ?_
  refine G_seq ?_
  refine G_region ?_
  refine GL_step rfl (PS_move rfl) ?_
  refine GL_step rfl (PS_neqi_nil Tryd.underlying72 rfl) ?_
  refine GL_step rfl (PS_move rfl) ?_
  refine GL_guard (t := 49) rfl rfl rfl (PS_move rfl) ?_
  refine GL_guard (t := 49) rfl rfl rfl (PS_lss rfl rfl) ?_
  refine GL_step rfl (PS_pick_false rfl rfl) ?_
  refine GL_step rfl (PS_move rfl) ?_
  refine GL_gf (t := 53) rfl rfl rfl (fun q => PS_move rfl) ?_
  refine GL_gf (t := 53) rfl rfl rfl (fun q => PS_gtr (cvE rfl (by rw [q]; rfl)) rfl) ?_
  refine GL_step rfl (PS_or rfl rfl (fun h => by rw [h]; rfl)) ?_
  refine GL_step rfl (PS_move rfl) ?_
  refine GL_gf (t := 57) rfl rfl rfl (fun q => PS_move rfl) ?_
  refine GL_gf (t := 57) rfl rfl rfl (fun q => by have q1 := q; (try simp at q1); exact PS_index_str Tryd.underlying9 (cvE rfl (by rw [q]; rfl)) rfl (by decide) (by first | omega | (have hq := Words.atoi_pos (by assumption); omega))) ?_
  refine GL_gf (t := 57) rfl rfl rfl (fun q => PS_lss (cvE rfl (by rw [q]; rfl)) rfl) ?_
  refine GL_step rfl (PS_or rfl rfl (fun h => by rw [h]; rfl)) ?_
  refine GL_step rfl (PS_move rfl) ?_
  refine GL_gf (t := 62) rfl rfl rfl (fun q => PS_move rfl) ?_
  refine GL_gf (t := 62) rfl rfl rfl (fun q => by have q1 := q; (try simp at q1); exact PS_index_str Tryd.underlying9 (cvE rfl (by rw [q]; rfl)) rfl (by decide) (by first | omega | (have hq := Words.atoi_pos (by assumption); omega))) ?_
  refine GL_gf (t := 62) rfl rfl rfl (fun q => PS_gtr (cvE rfl (by rw [q]; rfl)) rfl) ?_
  refine GL_step rfl (PS_or rfl rfl (fun h => by rw [h]; rfl)) ?_
  refine GL_step rfl (PS_move rfl) ?_
  refine GL_gf (t := 67) rfl rfl rfl (fun q => PS_move rfl) ?_
  refine GL_gf (t := 67) rfl rfl rfl (fun q => PS_eql_str (cvE rfl (by rw [q]; rfl)) rfl) ?_
  refine GL_step rfl (PS_or rfl rfl (fun h => by rw [h]; rfl)) ?_
  refine GL_step rfl (PS_move rfl) ?_
  refine GL_gf (t := 71) rfl rfl rfl (fun q => PS_move rfl) ?_
  refine GL_pgf (t := 71) rfl rfl rfl (fun q => by have q1 := q; (try simp at q1); exact PC_of cf61 (.cons (cvE rfl (by rw [q]; rfl)) (.cons rfl .nil)) (fun w hS => strings_Contains_spec _ 46 w)) ?_
  refine GL_step rfl (PS_or rfl rfl (fun h => by rw [h]; rfl)) ?_
  refine GL_nil ?_
  refine GQ_sub (.cons (k := 9) rfl (.cons (k := 11) rfl (.cons (k := 74) rfl (.nil _)))) ?_
  refine GQ_then ?_
  refine G_cond rfl (fun c5 => ?_) (fun c5 => ?_)
  ·
   have c5p := kz c5
   refine G_seq ?_
   refine G_region ?_
   refine GL_step rfl (PS_assign rfl) ?_
   refine GL_step rfl (PS_assign rfl) ?_
   refine GL_step rfl (PS_assign rfl) ?_
   refine GL_step rfl (PS_assign rfl) ?_
   refine GL_nil ?_
   refine GQ_sub (.cons (k := 2) rfl (.cons (k := 3) rfl (.cons (k := 4) rfl (.cons (k := 5) rfl (.nil _))))) ?_
   refine GQ_then ?_
   refine G_ret ?_
   refine GQ_then_ret ?_
   refine GQ_ret rfl (.tmp rfl (.tmp rfl (.tmp rfl (.tmp rfl .nil)))) ?_
   intro w1 hS; refine ⟨?_, hS.toKeep⟩; rw [show Words.noun u = _ from ((if_f c1).trans ((if_f c2).trans (if_f c3))), Words.numN_ok y3, if_t c5]; rfl
  have c5p := kz c5
  refine G_skip ?_
  refine GQ_sub (.cons (k := 9) rfl (.cons (k := 11) rfl (.nil _))) ?_
  refine GQ_then ?_
  refine G_seq ?_
  refine G_region ?_
  refine GL_step rfl (PS_move rfl) ?_
  refine GL_step rfl (PS_move rfl) ?_
  refine GL_step rfl (PS_assign rfl) ?_
  refine GL_step rfl (PS_assign rfl) ?_
  refine GL_step rfl (PS_assign rfl) ?_
  refine GL_step rfl (PS_assign rfl) ?_
  refine GL_nil ?_
  refine GQ_sub (.cons (k := 2) rfl (.cons (k := 3) rfl (.cons (k := 4) rfl (.cons (k := 5) rfl (.nil _))))) ?_
  refine GQ_then ?_
  refine G_ret ?_
  refine GQ_ret rfl (.tmp rfl (.tmp rfl (.tmp rfl (.tmp rfl .nil)))) ?_
  intro w1 hS; refine ⟨?_, hS.toKeep⟩; rw [show Words.noun u = _ from ((if_f c1).trans ((if_f c2).trans (if_f c3))), Words.numN_ok y3, if_f c5]; rfl
 refine GL_step rfl (PS_move rfl) ?_
 refine GL_step rfl (PS_extract rfl rfl) ?_
 refine GL_step rfl (PS_extract rfl rfl) ?_
 refine GL_step rfl (PS_assign rfl) ?_
 refine GL_step rfl (PS_assign rfl) ?_
 refine GL_nil ?_
 refine GQ_sub (.cons (k := 8) rfl (.cons (k := 9) rfl (.cons (k := 11) rfl (.cons (k := 12) rfl (.nil _))))) ?_
 refine GQ_then ?_
 refine G_seq ?_
 refine G_seq ?_
 refine G_region ?_
 refine GL_step rfl (PS_move rfl) ?_
 refine GL_step rfl (PS_neqi Tryd.underlying72 rfl) ?_
 refine GL_step rfl (PS_move rfl) ?_
 refine GL_pass (t := 49) rfl rfl rfl rfl ?_
 refine GL_pass (t := 49) rfl rfl rfl rfl ?_
 refine GL_step rfl (PS_pick_true rfl rfl) ?_
 refine GL_step rfl (PS_move rfl) ?_
 refine GL_pass (t := 53) rfl rfl rfl rfl ?_
 refine GL_pass (t := 53) rfl rfl rfl rfl ?_
 refine GL_step rfl (PS_pick_true rfl rfl) ?_
 refine GL_step rfl (PS_move rfl) ?_
 refine GL_pass (t := 57) rfl rfl rfl rfl ?_
 refine GL_pass (t := 57) rfl rfl rfl rfl ?_
 refine GL_pass (t := 57) rfl rfl rfl rfl ?_
 refine GL_step rfl (PS_pick_true rfl rfl) ?_
 refine GL_step rfl (PS_move rfl) ?_
 refine GL_pass (t := 62) rfl rfl rfl rfl ?_
 refine GL_pass (t := 62) rfl rfl rfl rfl ?_
 refine GL_pass (t := 62) rfl rfl rfl rfl ?_
 refine GL_step rfl (PS_pick_true rfl rfl) ?_
 refine GL_step rfl (PS_move rfl) ?_
 refine GL_pass (t := 67) rfl rfl rfl rfl ?_
 refine GL_pass (t := 67) rfl rfl rfl rfl ?_
 refine GL_step rfl (PS_pick_true rfl rfl) ?_
 refine GL_step rfl (PS_move rfl) ?_
 refine GL_pass (t := 71) rfl rfl rfl rfl ?_
 refine GL_pass (t := 71) rfl rfl rfl rfl ?_
 refine GL_step rfl (PS_pick_true rfl rfl) ?_
 refine GL_nil ?_
 refine GQ_sub (.cons (k := 9) rfl (.cons (k := 11) rfl (.cons (k := 74) rfl (.nil _)))) ?_
 refine GQ_then ?_
 refine G_true rfl rfl ?_
 refine G_seq ?_
 refine G_region ?_
 refine GL_step rfl (PS_assign rfl) ?_
 refine GL_step rfl (PS_assign rfl) ?_
 refine GL_step rfl (PS_assign rfl) ?_
 refine GL_step rfl (PS_assign rfl) ?_
 refine GL_nil ?_
 refine GQ_sub (.cons (k := 2) rfl (.cons (k := 3) rfl (.cons (k := 4) rfl (.cons (k := 5) rfl (.nil _))))) ?_
 refine GQ_then ?_
 refine G_ret ?_
 refine GQ_then_ret ?_
 refine GQ_ret rfl (.tmp rfl (.tmp rfl (.tmp rfl (.tmp rfl .nil)))) ?_
 intro w1 hS; refine ⟨?_, hS.toKeep⟩; rw [show Words.noun u = _ from ((if_f c1).trans ((if_f c2).trans (if_f c3))), Words.numN_bad y7]; rfl
theorem rules_turn_somebody_spec (b : Nat) (T : Turn) (g : Hd) (u : Str) (hg : g.len = T.out.length) (hF : T.Fit) (hu : u.length ≤ 140737488351232) (hn : T.out.length ≤ 99000) : CtrR Tryd.prog 39 #[.pointer (some ⟨b, 0, none⟩), vstr u] [Res.box b 55 (TurnV.enc ⟨T.w, T.b, g⟩), Res.own g 48 16 (T.out.flatMap Ing.Event.enc)] (fun w => (GVE 3 w ∧ 3 ∉ feet [Res.box b 55 (TurnV.enc ⟨T.w, T.b, g⟩), Res.own g 48 16 (T.out.flatMap Ing.Event.enc)]) ∧ (GVE 4 w ∧ 4 ∉ feet [Res.box b 55 (TurnV.enc ⟨T.w, T.b, g⟩), Res.own g 48 16 (T.out.flatMap Ing.Event.enc)])) (fun v B => ∃ g' : Hd, v = .tuple #[.int .i64 (T.somebody u).2.1, .bool (T.somebody u).2.2] ∧ g'.len = ((T.somebody u).1).out.length ∧ B = [Res.box b 55 (TurnV.enc ⟨((T.somebody u).1).w, ((T.somebody u).1).b, g'⟩), Res.own g' 48 16 (((T.somebody u).1).out.flatMap Ing.Event.enc)]) := by
 intro w hS0 hH
 obtain ⟨⟨gl0, gm0⟩, ⟨gl1, gm1⟩⟩ := hH
 have hb := hF.b
 have hr := hF.room
 refine Ret_body _ _ Tryd.func39 rfl rfl rfl (hS0) ?_
 refine G_seq ?_
 refine G_region ?_
 refine GL_step rfl (PS_assign rfl) ?_
 refine GL_step rfl (PS_assign rfl) ?_
 refine GL_nil ?_
 refine GQ_sub (.cons (k := 0) rfl (.cons (k := 1) rfl (.nil _))) ?_
 refine GQ_then ?_
 refine G_seq ?_
 refine G_region ?_
 refine GL_step rfl (PS_move rfl) ?_
 refine GL_pure rfl cf55 (.cons rfl .nil) (fun w hS => words_Noun_spec _ (by first | assumption | omega) w (gl0.stM gm0 hS) (gl1.stM gm1 hS)) ?_
 refine GL_step rfl (PS_move rfl) ?_
 refine GL_step rfl (PS_extract rfl rfl) ?_
 refine GL_step rfl (PS_extract rfl rfl) ?_
 refine GL_step rfl (PS_extract rfl rfl) ?_
 refine GL_step rfl (PS_extract rfl rfl) ?_
 refine GL_step rfl (PS_assign rfl) ?_
 refine GL_step rfl (PS_assign rfl) ?_
 refine GL_step rfl (PS_assign rfl) ?_
 refine GL_step rfl (PS_assign rfl) ?_
 refine GL_nil ?_
 refine GQ_sub (.cons (k := 0) rfl (.cons (k := 6) rfl (.cons (k := 7) rfl (.cons (k := 8) rfl (.cons (k := 9) rfl (.nil _)))))) ?_
 refine GQ_then ?_
 refine G_seq ?_
 refine G_seq ?_
 refine G_region ?_
 refine GL_step rfl (PS_move rfl) ?_
 refine GL_step rfl (PS_eql rfl rfl) ?_
 refine GL_step rfl (PS_move rfl) ?_
 refine GL_gt (t := 20) rfl rfl rfl (fun q => PS_move rfl) ?_
 refine GL_gt (t := 20) rfl rfl rfl (fun q => PS_not (cvE rfl q)) ?_
 refine GL_step rfl (PS_and rfl rfl (fun h => h)) ?_
 refine GL_nil ?_
 refine GQ_sub (.cons (k := 0) rfl (.cons (k := 6) rfl (.cons (k := 7) rfl (.cons (k := 23) rfl (.nil _))))) ?_
 refine GQ_then ?_
 refine G_cond rfl (fun c1 => ?_) (fun c1 => ?_)
 ·
  have c1p := kz c1
  have hnf := Words.noun_fine u (of_decide_eq_true (Bool.and_eq_true_iff.1 c1).1)
  refine G_seq ?_
  refine G_region ?_
  refine GL_step rfl (PS_move rfl) ?_
  refine GL_nil ?_
  refine GQ_sub (.cons (k := 0) rfl (.cons (k := 6) rfl (.cons (k := 7) rfl (.cons (k := 24) rfl (.nil _))))) ?_
  refine GQ_then ?_
  refine G_block ?_
  refine G_subF (.cons (k := 6) rfl (.cons (k := 24) rfl (.cons (k := 0) rfl (.cons (k := 7) rfl (.nil _))))) ?_
  refine G_loop2_ (fun (k : Int) (n : Int) => 0 ≤ k ∧ k ≤ 6 ∧ T.someF (Words.noun u).2.1 6 (Words.noun u).1 = T.someF (Words.noun u).2.1 (6 - k).toNat n ∧ -k ≤ n ∧ n ≤ 99) (fun (k : Int) (n : Int) => (6 - k).toNat) (fun (k : Int) (n : Int) => [(6, .int .i64 n), (24, .int .i64 k)]) (fun (k : Int) (n : Int) => []) (0) (_) ?_ rfl rfl (fun k n hI1 => ?_)
  · exact ⟨by omega, by omega, rfl, by omega, by omega⟩
  obtain ⟨hI11, hI12, hI13, hI14, hI15⟩ := hI1
  refine G_seq ?_
  refine G_region ?_
  refine GL_step rfl (PS_lss rfl rfl) ?_
  refine GL_nil ?_
  refine GQ_then ?_
  refine G_seq ?_
  refine G_cond rfl (fun c2 => ?_) (fun c2 => ?_)
  ·
   have c2p := kz c2
   refine G_skip ?_
   refine GQ_sub (.cons (k := 0) rfl (.cons (k := 6) rfl (.cons (k := 7) rfl (.cons (k := 24) rfl (.nil _))))) ?_
   refine GQ_then ?_
   refine G_seq ?_
   refine G_block ?_
   refine G_seq ?_
   refine G_region ?_
   refine GL_step rfl (PS_move rfl) ?_
   refine GL_step rfl (PS_assign rfl) ?_
   refine GL_nil ?_
   refine GQ_sub (.cons (k := 0) rfl (.cons (k := 6) rfl (.cons (k := 7) rfl (.cons (k := 10) rfl (.cons (k := 24) rfl (.nil _)))))) ?_
   refine GQ_then ?_
   refine G_seq ?_
   refine G_seq ?_
   refine G_planN (N := 31) [0, 0, 2, 6, 14, 31, 63, 127, 127, 255, 767, 1791, 4095, 8191, 16383, 127, 65535, 131071, 262143, 524287, 1048575, 2097151, 4194303, 524287, 8912895, 25690111, 59244543, 524287, 268435455, 536870911, 1073741823] mix (by kernel_rfl) rfl ?_
   refine Plan_float 0 rfl rfl (by kernel_rfl) (OK_s (EX_s (PS_move rfl))) ?_
   refine Plan_float 1 rfl rfl (by kernel_rfl) (OK_s (EX_s (PS_move rfl))) ?_
   refine Plan_float 2 rfl rfl (by kernel_rfl) (OK_s (EX_s (PS_nilCheck rfl))) ?_
   refine Plan_float 3 rfl rfl (by kernel_rfl) (OK_s (EX_s (PS_fieldAddr fa55_1 rfl))) ?_
   refine Plan_float 4 rfl rfl (by kernel_rfl) (OK_s (EX_s (PS_load rfl tys3 (.head _) TurnV.l1 rfl rfl))) ?_
   refine Plan_float 5 rfl rfl (by kernel_rfl) (OK_s (EX_s (PS_eql rfl rfl))) ?_
   refine Plan_float 6 rfl rfl (by kernel_rfl) (OK_s (EX_s (PS_move rfl))) ?_
   refine Plan_float 7 rfl rfl (by kernel_rfl) (OK_gf (t := 33) rfl rfl (fun q => EX_s (PS_move rfl))) ?_
   refine Plan_float 8 rfl rfl (by kernel_rfl) (OK_gf (t := 33) rfl rfl (fun q => EX_s (PS_move rfl))) ?_
   refine Plan_float 9 rfl rfl (by kernel_rfl) (OK_gf (t := 33) rfl rfl (fun q => EX_s (PS_nilCheck (cvE rfl (by rw [q]; rfl))))) ?_
   refine Plan_float 10 rfl rfl (by kernel_rfl) (OK_gf (t := 33) rfl rfl (fun q => EX_s (PS_fieldAddr fa55_0 (cvE rfl (by rw [q]; rfl))))) ?_
   refine Plan_float 11 rfl rfl (by kernel_rfl) (OK_gf (t := 33) rfl rfl (fun q => EX_s (PS_fieldAddr fa34_2 (cvE rfl (by rw [q]; rfl))))) ?_
   refine Plan_float 12 rfl rfl (by kernel_rfl) (OK_gf (t := 33) rfl rfl (fun q => by have q1 := q; (try simp at q1); exact EX_s (PS_indexAddr ia32 (cvE rfl (by rw [q]; rfl)) (cvE rfl (by rw [q]; rfl)) (by first | omega | exact hb.1 | exact hb.2 | (dsimp only; omega)) (by first | omega | exact hb.1 | exact hb.2 | (dsimp only; omega))))) ?_
   refine Plan_float 13 rfl rfl (by kernel_rfl) (OK_gf (t := 33) rfl rfl (fun q => EX_s (PS_fieldAddr fa31_0 (cvE rfl (by rw [q]; rfl))))) ?_
   refine Plan_float 14 rfl rfl (by kernel_rfl) (OK_gf (t := 33) rfl rfl (fun q => by have q1 := q; (try simp at q1); exact EX_s (PS_load (cvE rfl (by rw [q]; rfl)) tys9 (.head _) (((TurnV.l0.comp Land.l2).comp (Lens.arr (n := 6) Being.fl (by first | omega | exact hb.1 | exact hb.2 | (dsimp only; omega)) (by first | omega | exact hb.1 | exact hb.2 | (dsimp only; omega)))).comp Being.l0) rfl rfl))) ?_
   refine Plan_float 15 rfl rfl (by kernel_rfl) (OK_gf (t := 33) rfl rfl (fun q => EX_s (PS_move rfl))) ?_
   refine Plan_float 16 rfl rfl (by kernel_rfl) (OK_gf (t := 33) rfl rfl (fun q => EX_s (PS_neq_str (cvE rfl (by rw [q]; rfl)) (cvE rfl (by rw [q]; rfl))))) ?_
   refine Plan_float 17 rfl rfl (by kernel_rfl) (OK_s (EX_s (PS_or rfl rfl (fun h => by rw [h]; rfl)))) ?_
   refine Plan_float 18 rfl rfl (by kernel_rfl) (OK_s (EX_s (PS_move rfl))) ?_
   refine Plan_float 19 rfl rfl (by kernel_rfl) (OK_gf (t := 45) rfl rfl (fun q => EX_s (PS_move rfl))) ?_
   refine Plan_float 20 rfl rfl (by kernel_rfl) (OK_gf (t := 45) rfl rfl (fun q => EX_s (PS_nilCheck (cvE rfl (by rw [q]; rfl))))) ?_
   refine Plan_float 21 rfl rfl (by kernel_rfl) (OK_gf (t := 45) rfl rfl (fun q => EX_s (PS_fieldAddr fa55_0 (cvE rfl (by rw [q]; rfl))))) ?_
   refine Plan_float 22 rfl rfl (by kernel_rfl) (OK_gf (t := 45) rfl rfl (fun q => EX_s (PS_loadA (cvE rfl (by rw [q]; rfl)) tya34 (.head _) TurnV.l0 rfl))) ?_
   refine Plan_float 23 rfl rfl (by kernel_rfl) (OK_gf (t := 45) rfl rfl (fun q => EX_s (PS_move rfl))) ?_
   refine Plan_float 24 rfl rfl (by kernel_rfl) (OK_gf (t := 45) rfl rfl (fun q => EX_s (PS_nilCheck (cvE rfl (by rw [q]; rfl))))) ?_
   refine Plan_float 25 rfl rfl (by kernel_rfl) (OK_gf (t := 45) rfl rfl (fun q => EX_s (PS_fieldAddr fa55_1 (cvE rfl (by rw [q]; rfl))))) ?_
   refine Plan_float 26 rfl rfl (by kernel_rfl) (OK_gf (t := 45) rfl rfl (fun q => EX_s (PS_load (cvE rfl (by rw [q]; rfl)) tys3 (.head _) TurnV.l1 rfl rfl))) ?_
   refine Plan_float 27 rfl rfl (by kernel_rfl) (OK_gf (t := 45) rfl rfl (fun q => EX_s (PS_move rfl))) ?_
   refine Plan_float 28 rfl rfl (by kernel_rfl) (OK_gf (t := 45) rfl rfl (fun q => by have q1 := q; (try simp at q1); exact EX_c (PC_of cf35 (.cons (cvE rfl (by rw [q]; rfl)) (.cons (cvE rfl (by rw [q]; rfl)) (.cons (cvE rfl (by rw [q]; rfl)) .nil))) (fun w hS => sense_Sees_spec _ _ _ w)))) ?_
   refine Plan_float 29 rfl rfl (by kernel_rfl) (OK_gf (t := 45) rfl rfl (fun q => EX_s (PS_not (cvE rfl (by rw [q]; rfl))))) ?_
   refine Plan_float 30 rfl rfl (by kernel_rfl) (OK_s (EX_s (PS_or rfl rfl (fun h => by rw [h]; rfl)))) ?_
   refine Plan_end (by kernel_rfl) ?_
   refine GQ_sub (.cons (k := 0) rfl (.cons (k := 6) rfl (.cons (k := 7) rfl (.cons (k := 10) rfl (.cons (k := 24) rfl (.cons (k := 57) rfl (.nil _))))))) ?_
   refine GQ_then ?_
   refine G_cond rfl (fun c3 => ?_) (fun c3 => ?_)
   ·
    have c3p := kz c3
    refine G_exit ?_
    refine GQ_then_exit ?_
    refine GQ_block_exit ?_
    refine GQ_sub (.cons (k := 0) rfl (.cons (k := 6) rfl (.cons (k := 7) rfl (.cons (k := 24) rfl (.nil _))))) ?_
    refine GQ_then ?_
    refine G_region ?_
    refine GL_step rfl (PS_add rfl rfl (IntWalk.i64_in _ (by first | omega | exact hb.1 | exact hb.2 | (dsimp only; omega)))) ?_
    refine GL_step rfl (PS_move rfl) ?_
    refine GL_nil ?_
    refine GQ_sub (.cons (k := 0) rfl (.cons (k := 6) rfl (.cons (k := 7) rfl (.cons (k := 24) rfl (.nil _))))) ?_
    refine GQ_next2_ (k + 1) (n) ?_ ?_ (.cons (k := 6) rfl (.cons (k := 24) rfl (.cons (k := 0) rfl (.cons (k := 7) rfl (.nil _))))) (.refl _)
    · exact ⟨by omega, by omega, by rw [hI13, Turn.someF_step hI11 (by omega), if_t c3], by omega, by omega⟩
    · omega
   have c3p := kz c3
   refine G_skip ?_
   refine GQ_sub (.cons (k := 0) rfl (.cons (k := 6) rfl (.cons (k := 7) rfl (.cons (k := 10) rfl (.cons (k := 24) rfl (.nil _)))))) ?_
   refine GQ_then ?_
   refine G_seq ?_
   refine G_region ?_
   refine GL_step rfl (PS_move rfl) ?_
   refine GL_step rfl (PS_sub rfl rfl (IntWalk.i64_in _ (by first | omega | exact hb.1 | exact hb.2 | (dsimp only; omega)))) ?_
   refine GL_step rfl (PS_assign rfl) ?_
   refine GL_nil ?_
   refine GQ_sub (.cons (k := 0) rfl (.cons (k := 6) rfl (.cons (k := 7) rfl (.cons (k := 10) rfl (.cons (k := 24) rfl (.nil _)))))) ?_
   refine GQ_then ?_
   refine G_seq ?_
   refine G_region ?_
   refine GL_step rfl (PS_move rfl) ?_
   refine GL_step rfl (PS_eql rfl rfl) ?_
   refine GL_nil ?_
   refine GQ_sub (.cons (k := 0) rfl (.cons (k := 6) rfl (.cons (k := 7) rfl (.cons (k := 10) rfl (.cons (k := 24) rfl (.cons (k := 61) rfl (.nil _))))))) ?_
   refine GQ_then ?_
   refine G_cond rfl (fun c4 => ?_) (fun c4 => ?_)
   ·
    have c4p := kz c4
    refine G_seq ?_
    refine G_region ?_
    refine GL_step rfl (PS_move rfl) ?_
    refine GL_step rfl (PS_assign rfl) ?_
    refine GL_step rfl (PS_assign rfl) ?_
    refine GL_nil ?_
    refine GQ_sub (.cons (k := 4) rfl (.cons (k := 5) rfl (.nil _))) ?_
    refine GQ_then ?_
    refine G_ret ?_
    refine GQ_block_ret ?_
    refine GQ_then_ret ?_
    refine GQ_then_ret ?_
    refine GQ_block_ret ?_
    refine GQ_then_ret ?_
    refine GQ_ret rfl (.tmp rfl (.tmp rfl .nil)) ?_
    intro w1 hS
    have hS := (hS.perm (Pulls.perm (.cons .head (.cons .head .nil)))).headL
    have hs : T.someF (Words.noun u).2.1 6 (Words.noun u).1 = some k := by rw [hI13, Turn.someF_step hI11 (by omega), if_f c3, if_t c4]
    have hq : T.somebody u = (T, k, true) := (show T.somebody u = _ from if_t c1).trans (by simp only [hs])
    refine ⟨_, ⟨?gq1, ?hv1, ?hl1, ?hB1⟩, hS⟩
    case hB1 => rw [hq]; (try rfl)
    case hv1 => rw [hq]; (try rfl)
    case hl1 => rw [hq]; assumption
   have c4p := kz c4
   refine G_skip ?_
   refine GQ_sub (.cons (k := 0) rfl (.cons (k := 6) rfl (.cons (k := 7) rfl (.cons (k := 24) rfl (.nil _))))) ?_
   refine GQ_block ?_
   refine GQ_then ?_
   refine G_region ?_
   refine GL_step rfl (PS_add rfl rfl (IntWalk.i64_in _ (by first | omega | exact hb.1 | exact hb.2 | (dsimp only; omega)))) ?_
   refine GL_step rfl (PS_move rfl) ?_
   refine GL_nil ?_
   refine GQ_sub (.cons (k := 0) rfl (.cons (k := 6) rfl (.cons (k := 7) rfl (.cons (k := 24) rfl (.nil _))))) ?_
   refine GQ_next2_ (k + 1) (n - 1) ?_ ?_ (.cons (k := 6) rfl (.cons (k := 24) rfl (.cons (k := 0) rfl (.cons (k := 7) rfl (.nil _))))) (.refl _)
   · exact ⟨by omega, by omega, by rw [hI13, Turn.someF_step hI11 (by omega), if_f c3, if_f c4], by omega, by omega⟩
   · omega
  have c2p := kz c2
  obtain rfl : k = 6 := by omega
  refine G_exit ?_
  refine GQ_then_exit ?_
  refine GQ_then_exit ?_
  refine GQ_block_exit ?_
  refine GQ_sub (.cons (k := 0) rfl (.nil _)) ?_
  refine GQ_then ?_
  refine G_seq ?_
  refine G_region ?_
  refine GL_step rfl (PS_move rfl) ?_
  refine GL_callL rfl cf32 (.cons rfl (.cons rfl .nil)) (.cons .head (.cons .head .nil)) (rules_turn_tell_spec _ _ _ _ hg hb (by omega)) (fun v1 B hv => ?_)
  obtain ⟨y2, rfl, y3, rfl⟩ := hv
  refine GL_nil ?_
  refine GQ_sub (.nil _) ?_
  refine GQ_then ?_
  refine G_seq ?_
  refine G_region ?_
  refine GL_step rfl (PS_assign rfl) ?_
  refine GL_step rfl (PS_assign rfl) ?_
  refine GL_nil ?_
  refine GQ_then ?_
  refine G_ret ?_
  refine GQ_ret rfl (.tmp rfl (.tmp rfl .nil)) ?_
  intro w1 hS
  have hS := (hS.perm (Pulls.perm (.cons .head (.cons .head .nil)))).headL
  have hs : T.someF (Words.noun u).2.1 6 (Words.noun u).1 = none := by rw [hI13]; rfl
  have hq : T.somebody u = (T.tell Turn.noBody, 0, false) := (show T.somebody u = _ from if_t c1).trans (by simp only [hs])
  refine ⟨_, ⟨?gq2, ?hv2, ?hl2, ?hB2⟩, hS⟩
  case hB2 => rw [hq]; (try rfl)
  case hv2 => rw [hq]; (try rfl)
  case hl2 => rw [hq]; assumption
 have c1p := kz c1
 refine G_skip ?_
 refine GQ_sub (.cons (k := 0) rfl (.nil _)) ?_
 refine GQ_then ?_
 refine G_seq ?_
 refine G_region ?_
 refine GL_step rfl (PS_move rfl) ?_
 refine GL_callL rfl cf32 (.cons rfl (.cons rfl .nil)) (.cons .head (.cons .head .nil)) (rules_turn_tell_spec _ _ _ _ hg hb (by omega)) (fun v4 B hv => ?_)
 obtain ⟨y5, rfl, y6, rfl⟩ := hv
 refine GL_nil ?_
 refine GQ_sub (.nil _) ?_
 refine GQ_then ?_
 refine G_seq ?_
 refine G_region ?_
 refine GL_step rfl (PS_assign rfl) ?_
 refine GL_step rfl (PS_assign rfl) ?_
 refine GL_nil ?_
 refine GQ_then ?_
 refine G_ret ?_
 refine GQ_ret rfl (.tmp rfl (.tmp rfl .nil)) ?_
 intro w1 hS
 have hS := (hS.perm (Pulls.perm (.cons .head (.cons .head .nil)))).headL
 have hq : T.somebody u = (T.tell Turn.noBody, 0, false) := if_f c1
 refine ⟨_, ⟨?gq3, ?hv3, ?hl3, ?hB3⟩, hS⟩
 case hB3 => rw [hq]; (try rfl)
 case hv3 => rw [hq]; (try rfl)
 case hl3 => rw [hq]; assumption
theorem rules_turn_fight_spec (b : Nat) (T : Turn) (g : Hd) (o : Order) (hg : g.len = T.out.length) (hF : T.Fit) (hm : o.name.length ≤ 140737488351232) (hn : T.out.length ≤ 90000) : CtrR Tryd.prog 19 #[.pointer (some ⟨b, 0, none⟩), .agg o.enc.toArray] [Res.box b 55 (TurnV.enc ⟨T.w, T.b, g⟩), Res.own g 48 16 (T.out.flatMap Ing.Event.enc)] (fun w => (GVE 3 w ∧ 3 ∉ feet [Res.box b 55 (TurnV.enc ⟨T.w, T.b, g⟩), Res.own g 48 16 (T.out.flatMap Ing.Event.enc)]) ∧ (GVE 4 w ∧ 4 ∉ feet [Res.box b 55 (TurnV.enc ⟨T.w, T.b, g⟩), Res.own g 48 16 (T.out.flatMap Ing.Event.enc)])) (fun v B => ∃ g' : Hd, v = .tuple #[] ∧ g'.len = (T.fight o).out.length ∧ B = [Res.box b 55 (TurnV.enc ⟨(T.fight o).w, (T.fight o).b, g'⟩), Res.own g' 48 16 ((T.fight o).out.flatMap Ing.Event.enc)]) := by
 intro w hS0 hH
 obtain ⟨⟨gl0, gm0⟩, ⟨gl1, gm1⟩⟩ := hH
 have hb := hF.b
 have hr := hF.room
 have hsr := T.somebody_rng (if (!decide (o.nth = 1) || o.all_) = true then [] else o.name)
 have hsb : 0 ≤ (T.somebody (if (!decide (o.nth = 1) || o.all_) = true then [] else o.name)).1.b ∧ (T.somebody (if (!decide (o.nth = 1) || o.all_) = true then [] else o.name)).1.b < 6 := by rw [(T.somebody_w _).2]; exact hb
 refine Ret_body _ _ Tryd.func19 rfl rfl rfl (hS0) ?_
 refine G_seq ?_
 refine G_region ?_
 refine GL_box rfl rfl rfl (fun b1 => ?_)
 refine GL_nil ?_
 refine GQ_sub (.cons (k := 0) rfl (.cons (k := 3) rfl (.nil _))) ?_
 refine GQ_then ?_
 refine G_seq ?_
 refine G_region ?_
 refine GL_step rfl (PS_fieldAddr fa36_3 rfl) ?_
 refine GL_step rfl (PS_load rfl tys9 (.head _) Order.l3 rfl rfl) ?_
 refine GL_step rfl (PS_assign rfl) ?_
 refine GL_nil ?_
 refine GQ_sub (.cons (k := 0) rfl (.cons (k := 3) rfl (.cons (k := 4) rfl (.nil _)))) ?_
 refine GQ_then ?_
 refine G_seq ?_
 refine G_seq ?_
 refine G_region ?_
 refine GL_step rfl (PS_fieldAddr fa36_1 rfl) ?_
 refine GL_step rfl (PS_load rfl tys3 (.head _) Order.l1 rfl rfl) ?_
 refine GL_step rfl (PS_neq rfl rfl) ?_
 refine GL_step rfl (PS_move rfl) ?_
 refine GL_gf (t := 12) rfl rfl rfl (fun q => PS_fieldAddr fa36_2 rfl) ?_
 refine GL_gf (t := 12) rfl rfl rfl (fun q => PS_load (cvE rfl (by rw [q]; rfl)) tys4 (.head _) Order.l2 rfl rfl) ?_
 refine GL_step rfl (PS_or rfl rfl (fun h => by rw [h]; rfl)) ?_
 refine GL_nil ?_
 refine GQ_sub (.cons (k := 0) rfl (.cons (k := 4) rfl (.cons (k := 15) rfl (.nil _)))) ?_
 refine GQ_then ?_
 refine G_set1 (vstr) (s := (if (!decide (o.nth = 1) || o.all_) = true then [] else o.name)) rfl rfl rfl rfl rfl ?_
 refine GQ_sub (.cons (k := 0) rfl (.cons (k := 4) rfl (.nil _))) ?_
 refine GQ_then ?_
 refine G_seq ?_
 refine G_region ?_
 refine GL_step rfl (PS_move rfl) ?_
 refine GL_step rfl (PS_move rfl) ?_
 refine GL_callR rfl cf39 (.cons rfl (.cons rfl .nil)) (.cons (.tail .head) (.cons (.tail .head) .nil)) (rules_turn_somebody_spec _ T _ _ hg hF (by split <;> (try simp) <;> omega) (by omega)) (fun w hS => ⟨gl0.pull gm0 hS (.cons (.tail .head) (.cons (.tail .head) .nil)), gl1.pull gm1 hS (.cons (.tail .head) (.cons (.tail .head) .nil))⟩) (fun v1 B hv => ?_)
 obtain ⟨y2, rfl, y3, rfl⟩ := hv
 refine GL_step rfl (PS_move rfl) ?_
 refine GL_step rfl (PS_extract rfl rfl) ?_
 refine GL_step rfl (PS_extract rfl rfl) ?_
 refine GL_step rfl (PS_assign rfl) ?_
 refine GL_step rfl (PS_assign rfl) ?_
 refine GL_nil ?_
 refine GQ_sub (.cons (k := 0) rfl (.cons (k := 5) rfl (.cons (k := 6) rfl (.nil _)))) ?_
 refine GQ_then ?_
 refine G_seq ?_
 refine G_seq ?_
 refine G_region ?_
 refine GL_step rfl (PS_move rfl) ?_
 refine GL_step rfl (PS_not rfl) ?_
 refine GL_nil ?_
 refine GQ_sub (.cons (k := 0) rfl (.cons (k := 5) rfl (.cons (k := 23) rfl (.nil _)))) ?_
 refine GQ_then ?_
 refine G_cond rfl (fun c1 => ?_) (fun c1 => ?_)
 ·
  have c1p := kz c1
  refine G_ret ?_
  refine GQ_then_ret ?_
  refine GQ_ret rfl .nil ?_
  intro w1 hS
  have hS := (hS.perm (Pulls.perm (.cons .head (.cons .head .nil)))).headL
  have hq : T.fight o = _ := if_t c1
  refine ⟨_, ⟨?gq1, rfl, ?hl1, ?hB1⟩, hS⟩
  case hB1 => rw [hq]; (try rfl)
  case hl1 => rw [hq]; assumption
 have c1p := kz c1
 refine G_skip ?_
 refine GQ_sub (.cons (k := 0) rfl (.cons (k := 5) rfl (.nil _))) ?_
 refine GQ_then ?_
 refine G_seq ?_
 refine G_planN (N := 13) [0, 0, 2, 6, 14, 0, 32, 1, 129, 385, 1023, 2047, 4095] mix (by kernel_rfl) rfl ?_
 refine Plan_float 0 rfl rfl (by kernel_rfl) (OK_s (EX_s (PS_move rfl))) ?_
 refine Plan_float 1 rfl rfl (by kernel_rfl) (OK_s (EX_s (PS_move rfl))) ?_
 refine Plan_float 2 rfl rfl (by kernel_rfl) (OK_s (EX_s (PS_nilCheck rfl))) ?_
 refine Plan_float 3 rfl rfl (by kernel_rfl) (OK_s (EX_s (PS_fieldAddr fa55_1 rfl))) ?_
 refine Plan_float 4 rfl rfl (by kernel_rfl) (OK_s (EX_s (PS_load rfl tys3 (.head _) TurnV.l1 rfl rfl))) ?_
 refine Plan_float 5 rfl rfl (by kernel_rfl) (OK_s (EX_s (PS_move rfl))) ?_
 refine Plan_float 6 rfl rfl (by kernel_rfl) (OK_s (EX_s (PS_add rfl rfl (IntWalk.i64_in _ (by first | omega | exact hsb.1 | exact hsb.2 | (dsimp only; omega)))))) ?_
 refine Plan_float 7 rfl rfl (by kernel_rfl) (OK_s (EX_s (PS_nilCheck rfl))) ?_
 refine Plan_float 8 rfl rfl (by kernel_rfl) (OK_s (EX_s (PS_fieldAddr fa55_0 rfl))) ?_
 refine Plan_float 9 rfl rfl (by kernel_rfl) (OK_s (EX_s (PS_fieldAddr fa34_2 rfl))) ?_
 refine Plan_float 10 rfl rfl (by kernel_rfl) (OK_s (EX_s (PS_indexAddr ia32 rfl rfl (by first | omega | exact hsb.1 | exact hsb.2 | (dsimp only; omega)) (by first | omega | exact hsb.1 | exact hsb.2 | (dsimp only; omega))))) ?_
 refine Plan_float 11 rfl rfl (by kernel_rfl) (OK_s (EX_s (PS_fieldAddr fa31_5 rfl))) ?_
 refine Plan_chain 12 rfl (by kernel_rfl) ?_
 refine GL_unit (PU_store (((TurnV.l0.comp Land.l2).comp (Lens.arr (n := 6) Being.fl (by first | omega | exact hsb.1 | exact hsb.2 | (dsimp only; omega)) (by first | omega | exact hsb.1 | exact hsb.2 | (dsimp only; omega)))).comp Being.l5) rfl rfl rfl sz3 rfl .head) ?_
 refine GL_hand0 rfl ⟨?_, ?_⟩
 · exact (Pend_skip (by kernel_rfl) (Pend_skip (by kernel_rfl) (Pend_skip (by kernel_rfl) (Pend_skip (by kernel_rfl) (Pend_skip (by kernel_rfl) (Pend_skip (by kernel_rfl) (Pend_skip (by kernel_rfl) (Pend_skip (by kernel_rfl) (Pend_skip (by kernel_rfl) (Pend_skip (by kernel_rfl) (Pend_skip (by kernel_rfl) (Pend_skip (by kernel_rfl) Pend_nil))))))))))))
 refine Plan_end (by kernel_rfl) ?_
 refine GQ_sub (.cons (k := 0) rfl (.cons (k := 5) rfl (.nil _))) ?_
 refine GQ_then ?_
 refine G_seq ?_
 refine G_seq ?_
 refine G_region ?_
 refine GL_step rfl (PS_move rfl) ?_
 refine GL_step rfl (PS_move rfl) ?_
 refine GL_step rfl (PS_nilCheck rfl) ?_
 refine GL_step rfl (PS_fieldAddr fa55_0 rfl) ?_
 refine GL_step rfl (PS_fieldAddr fa34_2 rfl) ?_
 refine GL_step rfl (PS_indexAddr ia32 rfl rfl (by first | omega | exact hsb.1 | exact hsb.2 | (dsimp only; omega)) (by first | omega | exact hsb.1 | exact hsb.2 | (dsimp only; omega))) ?_
 refine GL_step rfl (PS_fieldAddr fa31_5 rfl) ?_
 refine GL_step rfl (PS_load rfl tys3 (.head _) (((TurnV.l0.comp Land.l2).comp (Lens.arr (n := 6) Being.fl (by first | omega | exact hsb.1 | exact hsb.2 | (dsimp only; omega)) (by first | omega | exact hsb.1 | exact hsb.2 | (dsimp only; omega)))).comp Being.l5) rfl rfl) ?_
 refine GL_step rfl (PS_eql rfl rfl) ?_
 refine GL_nil ?_
 refine GQ_sub (.cons (k := 0) rfl (.cons (k := 5) rfl (.cons (k := 44) rfl (.nil _)))) ?_
 refine GQ_then ?_
 refine G_cond rfl (fun c2 => ?_) (fun c2 => ?_)
 ·
  have c2p := kz c2
  refine G_planN (N := 13) [0, 0, 0, 4, 12, 28, 60, 1, 129, 385, 1023, 2047, 4095] mix (by kernel_rfl) rfl ?_
  refine Plan_float 0 rfl rfl (by kernel_rfl) (OK_s (EX_s (PS_move rfl))) ?_
  refine Plan_float 1 rfl rfl (by kernel_rfl) (OK_s (EX_s (PS_move rfl))) ?_
  refine Plan_float 2 rfl rfl (by kernel_rfl) (OK_s (EX_s (PS_move rfl))) ?_
  refine Plan_float 3 rfl rfl (by kernel_rfl) (OK_s (EX_s (PS_nilCheck rfl))) ?_
  refine Plan_float 4 rfl rfl (by kernel_rfl) (OK_s (EX_s (PS_fieldAddr fa55_1 rfl))) ?_
  refine Plan_float 5 rfl rfl (by kernel_rfl) (OK_s (EX_s (PS_load rfl tys3 (.head _) TurnV.l1 rfl rfl))) ?_
  refine Plan_float 6 rfl rfl (by kernel_rfl) (OK_s (EX_s (PS_add rfl rfl (IntWalk.i64_in _ (by first | omega | exact hsb.1 | exact hsb.2 | (dsimp only; omega)))))) ?_
  refine Plan_float 7 rfl rfl (by kernel_rfl) (OK_s (EX_s (PS_nilCheck rfl))) ?_
  refine Plan_float 8 rfl rfl (by kernel_rfl) (OK_s (EX_s (PS_fieldAddr fa55_0 rfl))) ?_
  refine Plan_float 9 rfl rfl (by kernel_rfl) (OK_s (EX_s (PS_fieldAddr fa34_2 rfl))) ?_
  refine Plan_float 10 rfl rfl (by kernel_rfl) (OK_s (EX_s (PS_indexAddr ia32 rfl rfl (by first | omega | exact hsb.1 | exact hsb.2 | (dsimp only; omega)) (by first | omega | exact hsb.1 | exact hsb.2 | (dsimp only; omega))))) ?_
  refine Plan_float 11 rfl rfl (by kernel_rfl) (OK_s (EX_s (PS_fieldAddr fa31_5 rfl))) ?_
  refine Plan_chain 12 rfl (by kernel_rfl) ?_
  refine GL_unit (PU_store (((TurnV.l0.comp Land.l2).comp (Lens.arr (n := 6) Being.fl (by first | omega | exact hsb.1 | exact hsb.2 | (dsimp only; omega)) (by first | omega | exact hsb.1 | exact hsb.2 | (dsimp only; omega)))).comp Being.l5) rfl rfl rfl sz3 rfl .head) ?_
  refine GL_hand0 rfl ⟨?_, ?_⟩
  · exact (Pend_skip (by kernel_rfl) (Pend_skip (by kernel_rfl) (Pend_skip (by kernel_rfl) (Pend_skip (by kernel_rfl) (Pend_skip (by kernel_rfl) (Pend_skip (by kernel_rfl) (Pend_skip (by kernel_rfl) (Pend_skip (by kernel_rfl) (Pend_skip (by kernel_rfl) (Pend_skip (by kernel_rfl) (Pend_skip (by kernel_rfl) (Pend_skip (by kernel_rfl) Pend_nil))))))))))))
  refine Plan_end (by kernel_rfl) ?_
  refine GQ_sub (.cons (k := 0) rfl (.nil _)) ?_
  refine GQ_then ?_
  refine G_region ?_
  refine GL_step rfl (PS_move rfl) ?_
  refine GL_callL rfl cf32 (.cons rfl (.cons rfl .nil)) (.cons .head (.cons .head .nil)) (rules_turn_tell_spec _ (Turn.setFoe (Turn.setFoe (T.somebody (if (!decide (o.nth = 1) || o.all_) = true then [] else o.name)).1 (T.somebody (if (!decide (o.nth = 1) || o.all_) = true then [] else o.name)).1.b ((T.somebody (if (!decide (o.nth = 1) || o.all_) = true then [] else o.name)).2.1 + 1)) (T.somebody (if (!decide (o.nth = 1) || o.all_) = true then [] else o.name)).2.1 ((T.somebody (if (!decide (o.nth = 1) || o.all_) = true then [] else o.name)).1.b + 1)) _ _ (by assumption) hsb (by show (T.somebody (if (!decide (o.nth = 1) || o.all_) = true then [] else o.name)).1.out.length ≤ 100000; have := T.somebody_out (if (!decide (o.nth = 1) || o.all_) = true then [] else o.name); omega)) (fun v4 B hv => ?_)
  obtain ⟨y5, rfl, y6, rfl⟩ := hv
  refine GL_nil ?_
  refine GQ_end rfl .nil ?_
  intro w1 hS
  have hS := (hS.perm (Pulls.perm (.cons .head (.cons .head .nil)))).headL
  have hq : T.fight o = _ := (show T.fight o = _ from if_f c1).trans (congrArg (fun q => Turn.tell q Turn.fightT) (if_t c2))
  refine ⟨_, ⟨?gq2, rfl, ?hl2, ?hB2⟩, hS⟩
  case hB2 => rw [hq]; (try rfl)
  case hl2 => rw [hq]; assumption
 have c2p := kz c2
 refine G_skip ?_
 refine GQ_sub (.cons (k := 0) rfl (.nil _)) ?_
 refine GQ_then ?_
 refine G_region ?_
 refine GL_step rfl (PS_move rfl) ?_
 refine GL_callL rfl cf32 (.cons rfl (.cons rfl .nil)) (.cons .head (.cons .head .nil)) (rules_turn_tell_spec _ (Turn.setFoe (T.somebody (if (!decide (o.nth = 1) || o.all_) = true then [] else o.name)).1 (T.somebody (if (!decide (o.nth = 1) || o.all_) = true then [] else o.name)).1.b ((T.somebody (if (!decide (o.nth = 1) || o.all_) = true then [] else o.name)).2.1 + 1)) _ _ (by assumption) hsb (by show (T.somebody (if (!decide (o.nth = 1) || o.all_) = true then [] else o.name)).1.out.length ≤ 100000; have := T.somebody_out (if (!decide (o.nth = 1) || o.all_) = true then [] else o.name); omega)) (fun v7 B hv => ?_)
 obtain ⟨y8, rfl, y9, rfl⟩ := hv
 refine GL_nil ?_
 refine GQ_end rfl .nil ?_
 intro w1 hS
 have hS := (hS.perm (Pulls.perm (.cons .head (.cons .head .nil)))).headL
 have hq : T.fight o = _ := (show T.fight o = _ from if_f c1).trans (congrArg (fun q => Turn.tell q Turn.fightT) (if_f c2))
 refine ⟨_, ⟨?gq3, rfl, ?hl3, ?hB3⟩, hS⟩
 case hB3 => rw [hq]; (try rfl)
 case hl3 => rw [hq]; assumption
theorem rules_turn_seen_spec (b : Nat) (T : Turn) (g : Hd) (hF : T.Fit) : Ctr Tryd.prog 40 #[.pointer (some ⟨b, 0, none⟩)] [Res.box b 55 (TurnV.enc ⟨T.w, T.b, g⟩)] (fun v B => ∃ f : Hd, v = f.val ∧ f.len = (T.seen).length ∧ B = [Res.box b 55 (TurnV.enc ⟨T.w, T.b, g⟩), Res.own f 3 1 ((T.seen).flatMap encI)]) := by
 intro w hS0
 have hb := hF.b
 have hr := hF.room
 refine Ret_body _ _ Tryd.func40 rfl rfl rfl (hS0) ?_
 refine G_seq ?_
 refine G_region ?_
 refine GL_step rfl (PS_assign rfl) ?_
 refine GL_nil ?_
 refine GQ_sub (.cons (k := 0) rfl (.nil _)) ?_
 refine GQ_then ?_
 refine G_seq ?_
 refine G_planN (N := 12) [0, 0, 2, 6, 14, 1, 33, 97, 255, 511, 1023, 2047] mix (by kernel_rfl) rfl ?_
 refine Plan_float 0 rfl rfl (by kernel_rfl) (OK_s (EX_s (PS_move rfl))) ?_
 refine Plan_float 1 rfl rfl (by kernel_rfl) (OK_s (EX_s (PS_move rfl))) ?_
 refine Plan_float 2 rfl rfl (by kernel_rfl) (OK_s (EX_s (PS_nilCheck rfl))) ?_
 refine Plan_float 3 rfl rfl (by kernel_rfl) (OK_s (EX_s (PS_fieldAddr fa55_1 rfl))) ?_
 refine Plan_float 4 rfl rfl (by kernel_rfl) (OK_s (EX_s (PS_load rfl tys3 (.head _) TurnV.l1 rfl rfl))) ?_
 refine Plan_float 5 rfl rfl (by kernel_rfl) (OK_s (EX_s (PS_nilCheck rfl))) ?_
 refine Plan_float 6 rfl rfl (by kernel_rfl) (OK_s (EX_s (PS_fieldAddr fa55_0 rfl))) ?_
 refine Plan_float 7 rfl rfl (by kernel_rfl) (OK_s (EX_s (PS_fieldAddr fa34_2 rfl))) ?_
 refine Plan_float 8 rfl rfl (by kernel_rfl) (OK_s (EX_s (PS_indexAddr ia32 rfl rfl (by first | omega | exact hb.1 | exact hb.2 | (dsimp only; omega)) (by first | omega | exact hb.1 | exact hb.2 | (dsimp only; omega))))) ?_
 refine Plan_float 9 rfl rfl (by kernel_rfl) (OK_s (EX_s (PS_fieldAddr fa31_3 rfl))) ?_
 refine Plan_float 10 rfl rfl (by kernel_rfl) (OK_s (EX_s (PS_load rfl tys3 (.head _) (((TurnV.l0.comp Land.l2).comp (Lens.arr (n := 6) Being.fl (by first | omega | exact hb.1 | exact hb.2 | (dsimp only; omega)) (by first | omega | exact hb.1 | exact hb.2 | (dsimp only; omega)))).comp Being.l3) rfl rfl))) ?_
 refine Plan_float 11 rfl rfl (by kernel_rfl) (OK_s (EX_s (PS_assign rfl))) ?_
 refine Plan_end (by kernel_rfl) ?_
 refine GQ_sub (.cons (k := 0) rfl (.cons (k := 3) rfl (.nil _))) ?_
 refine GQ_then ?_
 refine G_seq ?_
 refine G_seq ?_
 refine G_region ?_
 refine GL_step rfl (PS_move rfl) ?_
 refine GL_step rfl (PS_nilCheck rfl) ?_
 refine GL_step rfl (PS_fieldAddr fa55_0 rfl) ?_
 refine GL_step rfl (PS_loadA rfl tya34 (.head _) TurnV.l0 rfl) ?_
 refine GL_step rfl (PS_move rfl) ?_
 refine GL_pure rfl cf34 (.cons rfl (.cons rfl .nil)) (fun w hS => sense_Bright_spec _ _ w) ?_
 refine GL_step rfl (PS_not rfl) ?_
 refine GL_nil ?_
 refine GQ_sub (.cons (k := 0) rfl (.cons (k := 3) rfl (.cons (k := 21) rfl (.nil _)))) ?_
 refine GQ_then ?_
 refine G_cond rfl (fun c1 => ?_) (fun c1 => ?_)
 ·
  have c1p := kz c1
  refine G_seq ?_
  refine G_region ?_
  refine GL_step rfl (PS_assign rfl) ?_
  refine GL_nil ?_
  refine GQ_sub (.cons (k := 2) rfl (.nil _)) ?_
  refine GQ_then ?_
  refine G_ret ?_
  refine GQ_then_ret ?_
  refine GQ_ret rfl (.tmp rfl .nil) ?_
  intro w1 hS
  have hS := hS.own_nil 3 1
  have hS := (hS.perm (Pulls.perm (.cons (.tail .head) (.cons .head .nil)))).headL
  have hq : T.seen = _ := if_t c1
  exact ⟨_, ⟨⟨none, 0, 0⟩, rfl, by rw [hq]; rfl, by rw [hq]; rfl⟩, hS⟩
 have c1p := kz c1
 refine G_skip ?_
 refine GQ_sub (.cons (k := 0) rfl (.cons (k := 3) rfl (.nil _))) ?_
 refine GQ_then ?_
 refine G_seq ?_
 refine G_region ?_
 refine GL_step rfl (PS_move rfl) ?_
 refine GL_step rfl (PS_nilCheck rfl) ?_
 refine GL_step rfl (PS_fieldAddr fa55_0 rfl) ?_
 refine GL_step rfl (PS_loadA rfl tya34 (.head _) TurnV.l0 rfl) ?_
 refine GL_step rfl (PS_move rfl) ?_
 refine GL_callL rfl cf16 (.cons rfl (.cons rfl (.cons rfl .nil))) .nil (land_Has_spec _ _ _) (fun v2 B hv => ?_)
 obtain ⟨y3, rfl, y4, rfl⟩ := hv
 refine GL_step rfl (PS_assign rfl) ?_
 refine GL_nil ?_
 refine GQ_sub (.cons (k := 2) rfl (.nil _)) ?_
 refine GQ_then ?_
 refine G_ret ?_
 refine GQ_ret rfl (.tmp rfl .nil) ?_
 intro w1 hS
 have hS := (hS.perm (Pulls.perm (.cons (.tail .head) (.cons .head .nil)))).headL
 have hq : T.seen = _ := (if_f c1)
 exact ⟨_, ⟨_, rfl, by rw [hq]; first | rfl | assumption, by rw [hq]; rfl⟩, hS⟩
theorem rules_turn_pick_spec (b : Nat) (T : Turn) (g : Hd) (f : Hd) (l : List Int) (z : Int) (u : Str) (a : Bool) (hF : T.Fit) (hf : f.len = l.length) (hl : l.length ≤ 100) (hi : ∀ i ∈ l, 0 ≤ i ∧ i < 9) : Ctr Tryd.prog 42 #[.pointer (some ⟨b, 0, none⟩), f.val, .int .i64 z, vstr u, .bool a] [Res.box b 55 (TurnV.enc ⟨T.w, T.b, g⟩), Res.own f 3 1 (l.flatMap encI)] (fun v B => ∃ h : Hd, v = h.val ∧ h.len = (Turn.pickL T.w l z u a).length ∧ B = [Res.box b 55 (TurnV.enc ⟨T.w, T.b, g⟩), Res.own f 3 1 (l.flatMap encI), Res.own h 3 1 ((Turn.pickL T.w l z u a).flatMap encI)]) := by
 intro w hS0
 have hb := hF.b
 have hr := hF.room
 refine Ret_body _ _ Tryd.func42 rfl rfl rfl (hS0) ?_
 refine G_seq ?_
 refine G_region ?_
 refine GL_step rfl (PS_assign rfl) ?_
 refine GL_nil ?_
 refine GQ_sub (.cons (k := 0) rfl (.cons (k := 1) rfl (.cons (k := 2) rfl (.cons (k := 3) rfl (.cons (k := 4) rfl (.nil _)))))) ?_
 refine GQ_then ?_
 refine G_seq ?_
 refine G_region ?_
 refine GL_step rfl (PS_assign rfl) ?_
 refine GL_nil ?_
 refine GQ_then ?_
 refine G_seq ?_
 refine G_seq ?_
 refine G_region ?_
 refine GL_step rfl (PS_move rfl) ?_
 refine GL_step rfl (PS_len_slice rfl Tryd.underlying58 rfl) ?_
 refine GL_step rfl (PS_move rfl) ?_
 refine GL_nil ?_
 refine GQ_sub (.cons (k := 0) rfl (.cons (k := 2) rfl (.cons (k := 3) rfl (.cons (k := 4) rfl (.cons (k := 11) rfl (.cons (k := 14) rfl (.cons (k := 15) rfl (.cons (k := 16) rfl (.nil _))))))))) ?_
 refine GQ_then ?_
 refine G_block ?_
 refine G_subF (.cons (k := 11) rfl (.cons (k := 16) rfl (.cons (k := 0) rfl (.cons (k := 2) rfl (.cons (k := 3) rfl (.cons (k := 4) rfl (.cons (k := 14) rfl (.cons (k := 15) rfl (.nil _))))))))) ?_
 refine G_nilF encI 3 1 ?_
 refine G_loop3_ (fun (k : Int) (xs : List Int) (h : Hd) => 0 ≤ k ∧ k ≤ (l.length : Int) ∧ xs = Turn.pickA T.w u (l.take k.toNat) ∧ h.len = xs.length ∧ xs.length ≤ k.toNat) (fun (k : Int) (xs : List Int) (h : Hd) => ((l.length : Int) - k).toNat) (fun (k : Int) (xs : List Int) (h : Hd) => [(11, h.val), (16, .int .i64 k)]) (fun (k : Int) (xs : List Int) (h : Hd) => [Res.own h 3 1 (xs.flatMap encI)]) (0) ([]) (_) ?_ rfl rfl (fun k xs h hI1 => ?_)
 · exact ⟨by omega, by omega, rfl, rfl, by simp⟩
 obtain ⟨hI11, hI12, hI13, hI14, hI15⟩ := hI1
 refine G_seq ?_
 refine G_region ?_
 refine GL_step rfl (PS_lss rfl rfl) ?_
 refine GL_nil ?_
 refine GQ_then ?_
 refine G_seq ?_
 refine G_cond rfl (fun c1 => ?_) (fun c1 => ?_)
 ·
  have c1p := kz c1
  have hx := hi _ (Line.getD_memI (xs := l) (i := k.toNat) (by omega))
  refine G_skip ?_
  refine GQ_sub (.cons (k := 0) rfl (.cons (k := 2) rfl (.cons (k := 3) rfl (.cons (k := 4) rfl (.cons (k := 11) rfl (.cons (k := 14) rfl (.cons (k := 15) rfl (.cons (k := 16) rfl (.nil _))))))))) ?_
  refine GQ_then ?_
  refine G_seq ?_
  refine G_block ?_
  refine G_seq ?_
  refine G_region ?_
  refine GL_step rfl (PS_idxS is58 (by decide) (Kn.own (.tail _ (.tail _ (.head _)))) rfl rfl (by omega) (by omega)) ?_
  refine GL_step rfl (PS_ldInt rfl tys3 (Kn.own (.tail _ (.tail _ (.head _)))) (by omega)) ?_
  refine GL_step rfl (PS_assign rfl) ?_
  refine GL_nil ?_
  refine GQ_sub (.cons (k := 0) rfl (.cons (k := 2) rfl (.cons (k := 3) rfl (.cons (k := 4) rfl (.cons (k := 11) rfl (.cons (k := 13) rfl (.cons (k := 14) rfl (.cons (k := 15) rfl (.cons (k := 16) rfl (.nil _)))))))))) ?_
  refine GQ_then ?_
  refine G_seq ?_
  refine G_region ?_
  refine GL_step rfl (PS_move rfl) ?_
  refine GL_step rfl (PS_eql_str rfl rfl) ?_
  refine GL_step rfl (PS_move rfl) ?_
  refine GL_gf (t := 22) rfl rfl rfl (fun q => PS_move rfl) ?_
  refine GL_gf (t := 22) rfl rfl rfl (fun q => PS_move rfl) ?_
  refine GL_gf (t := 22) rfl rfl rfl (fun q => PS_nilCheck (cvE rfl (by rw [q]; rfl))) ?_
  refine GL_gf (t := 22) rfl rfl rfl (fun q => PS_fieldAddr fa55_0 (cvE rfl (by rw [q]; rfl))) ?_
  refine GL_gf (t := 22) rfl rfl rfl (fun q => PS_fieldAddr fa34_1 (cvE rfl (by rw [q]; rfl))) ?_
  refine GL_gf (t := 22) rfl rfl rfl (fun q => by have q1 := q; (try simp at q1); exact PS_indexAddr ia29 (cvE rfl (by rw [q]; rfl)) (cvE rfl (by rw [q]; rfl)) (by first | omega | exact hb.1 | exact hb.2) (by first | omega | exact hb.1 | exact hb.2)) ?_
  refine GL_gf (t := 22) rfl rfl rfl (fun q => PS_fieldAddr fa28_0 (cvE rfl (by rw [q]; rfl))) ?_
  refine GL_gf (t := 22) rfl rfl rfl (fun q => by have q1 := q; (try simp at q1); exact PS_load (cvE rfl (by rw [q]; rfl)) tys9 (.tail _ (.head _)) (((TurnV.l0.comp Land.l1).comp (Lens.arr (n := 9) Thing.fl (by first | omega | exact hb.1 | exact hb.2) (by first | omega | exact hb.1 | exact hb.2))).comp Thing.l0) rfl rfl) ?_
  refine GL_gf (t := 22) rfl rfl rfl (fun q => PS_move rfl) ?_
  refine GL_gf (t := 22) rfl rfl rfl (fun q => PS_eql_str (cvE rfl (by rw [q]; rfl)) (cvE rfl (by rw [q]; rfl))) ?_
  refine GL_step rfl (PS_or rfl rfl (fun h => by rw [h]; rfl)) ?_
  refine GL_nil ?_
  refine GQ_sub (.cons (k := 0) rfl (.cons (k := 2) rfl (.cons (k := 3) rfl (.cons (k := 4) rfl (.cons (k := 11) rfl (.cons (k := 13) rfl (.cons (k := 14) rfl (.cons (k := 15) rfl (.cons (k := 16) rfl (.cons (k := 33) rfl (.nil _))))))))))) ?_
  refine GQ_then ?_
  refine G_cond rfl (fun c2 => ?_) (fun c2 => ?_)
  ·
   have c2p := kz c2
   refine G_region ?_
   refine GL_step rfl (PS_move rfl) ?_
   refine GL_step rfl (PS_move rfl) ?_
   refine GL_bs1F encI flI rfl Tryd.underlying58 sz3 zv3 rfl (by decide) (by decide) rfl rfl (fun b1 => ?_)
   refine GL_appendF flI rfl Tryd.underlying58 sz3 zv3 rfl by3 (by decide) (by decide) rfl rfl (fun w hS => Src.sliceT Tryd.underlying58 ((Kn.own (.head _)) w hS)) (by (try dsimp only); omega) (fun _ => (.tail .head)) (fun h1 h1l h1z => ?_)
   refine GL_step rfl (PS_assign rfl) ?_
   refine GL_nil ?_
   refine GQ_sub (.cons (k := 0) rfl (.cons (k := 2) rfl (.cons (k := 3) rfl (.cons (k := 4) rfl (.cons (k := 11) rfl (.cons (k := 14) rfl (.cons (k := 15) rfl (.cons (k := 16) rfl (.nil _))))))))) ?_
   refine GQ_block ?_
   refine GQ_then ?_
   refine G_region ?_
   refine GL_step rfl (PS_add rfl rfl (IntWalk.i64_in _ (by first | omega | exact hb.1 | exact hb.2))) ?_
   refine GL_step rfl (PS_move rfl) ?_
   refine GL_nil ?_
   refine GQ_sub (.cons (k := 0) rfl (.cons (k := 2) rfl (.cons (k := 3) rfl (.cons (k := 4) rfl (.cons (k := 11) rfl (.cons (k := 14) rfl (.cons (k := 15) rfl (.cons (k := 16) rfl (.nil _))))))))) ?_
   refine GQ_next3_ (k + 1) _ _ ?_ ?_ (.cons (k := 11) rfl (.cons (k := 16) rfl (.cons (k := 0) rfl (.cons (k := 2) rfl (.cons (k := 3) rfl (.cons (k := 4) rfl (.cons (k := 14) rfl (.cons (k := 15) rfl (.nil _))))))))) (.cons _ (.refl _))
   · exact ⟨by omega, by omega, by rw [Turn.pickA_t hI11 (by omega) c2, ← hI13], (by (try dsimp only at *) <;> (try simp only [List.length_append, List.length_cons, List.length_nil]) <;> omega), (by (try simp only [List.length_append, List.length_cons, List.length_nil]); omega)⟩
   · omega
  have c2p := kz c2
  refine G_skip ?_
  refine GQ_sub (.cons (k := 0) rfl (.cons (k := 2) rfl (.cons (k := 3) rfl (.cons (k := 4) rfl (.cons (k := 11) rfl (.cons (k := 14) rfl (.cons (k := 15) rfl (.cons (k := 16) rfl (.nil _))))))))) ?_
  refine GQ_block ?_
  refine GQ_then ?_
  refine G_region ?_
  refine GL_step rfl (PS_add rfl rfl (IntWalk.i64_in _ (by first | omega | exact hb.1 | exact hb.2))) ?_
  refine GL_step rfl (PS_move rfl) ?_
  refine GL_nil ?_
  refine GQ_sub (.cons (k := 0) rfl (.cons (k := 2) rfl (.cons (k := 3) rfl (.cons (k := 4) rfl (.cons (k := 11) rfl (.cons (k := 14) rfl (.cons (k := 15) rfl (.cons (k := 16) rfl (.nil _))))))))) ?_
  refine GQ_next3_ (k + 1) _ _ ?_ ?_ (.cons (k := 11) rfl (.cons (k := 16) rfl (.cons (k := 0) rfl (.cons (k := 2) rfl (.cons (k := 3) rfl (.cons (k := 4) rfl (.cons (k := 14) rfl (.cons (k := 15) rfl (.nil _))))))))) (.refl _)
  · exact ⟨by omega, by omega, by rw [Turn.pickA_f hI11 (by omega) c2, ← hI13], (by (try dsimp only at *) <;> (try simp only [List.length_append, List.length_cons, List.length_nil]) <;> omega), (by (try simp only [List.length_append, List.length_cons, List.length_nil]); omega)⟩
  · omega
 have c1p := kz c1
 obtain rfl : k = (l.length : Int) := by omega
 have hx3 := hI13
 rw [show (l.length : Int).toNat = l.length by omega, List.take_length] at hx3
 have hpa := Turn.pickA_len T.w u l
 rw [← hx3] at hpa
 refine G_exit ?_
 refine GQ_then_exit ?_
 refine GQ_then_exit ?_
 refine GQ_block_exit ?_
 refine GQ_sub (.cons (k := 2) rfl (.cons (k := 4) rfl (.cons (k := 11) rfl (.nil _)))) ?_
 refine GQ_then ?_
 refine G_seq ?_
 refine G_seq ?_
 refine G_region ?_
 refine GL_step rfl (PS_move rfl) ?_
 refine GL_nil ?_
 refine GQ_sub (.cons (k := 2) rfl (.cons (k := 11) rfl (.cons (k := 39) rfl (.nil _)))) ?_
 refine GQ_then ?_
 refine G_cond rfl (fun c3 => ?_) (fun c3 => ?_)
 ·
  have c3p := kz c3
  refine G_seq ?_
  refine G_region ?_
  refine GL_step rfl (PS_move rfl) ?_
  refine GL_step rfl (PS_assign rfl) ?_
  refine GL_nil ?_
  refine GQ_sub (.cons (k := 10) rfl (.nil _)) ?_
  refine GQ_then ?_
  refine G_ret ?_
  refine GQ_then_ret ?_
  refine GQ_ret rfl (.tmp rfl .nil) ?_
  intro w1 hS
  have hS := (hS.perm (Pulls.perm (.cons (.tail .head) (.cons (.tail .head) (.cons .head .nil))))).headL
  have hq : Turn.pickL T.w l z u a = _ := (if_t c3)
  refine ⟨_, ⟨_, rfl, ?hl1, ?hB1⟩, hS⟩
  case hB1 => rw [hq]; (try rw [← hx3]); (try rfl)
  case hl1 => rw [hq]; first | rfl | (rw [← hx3]; first | assumption | (simp only [Hd.cut, List.length_drop, List.length_take]; omega))
 have c3p := kz c3
 refine G_skip ?_
 refine GQ_sub (.cons (k := 2) rfl (.cons (k := 11) rfl (.nil _))) ?_
 refine GQ_then ?_
 refine G_seq ?_
 refine G_seq ?_
 refine G_region ?_
 refine GL_step rfl (PS_move rfl) ?_
 refine GL_step rfl (PS_lss rfl rfl) ?_
 refine GL_step rfl (PS_move rfl) ?_
 refine GL_gf (t := 43) rfl rfl rfl (fun q => PS_move rfl) ?_
 refine GL_gf (t := 43) rfl rfl rfl (fun q => PS_move rfl) ?_
 refine GL_gf (t := 43) rfl rfl rfl (fun q => PS_len_slice rfl Tryd.underlying58 (cvE rfl (by rw [q]; rfl))) ?_
 refine GL_gf (t := 43) rfl rfl rfl (fun q => PS_gtr (cvE rfl (by rw [q]; rfl)) (cvE rfl (by rw [q]; rfl))) ?_
 refine GL_step rfl (PS_or rfl rfl (fun h => by rw [h]; rfl)) ?_
 refine GL_nil ?_
 refine GQ_sub (.cons (k := 2) rfl (.cons (k := 11) rfl (.cons (k := 48) rfl (.nil _)))) ?_
 refine GQ_then ?_
 refine G_cond rfl (fun c4 => ?_) (fun c4 => ?_)
 ·
  have c4p := kz c4
  rw [hI14, hx3] at c4
  refine G_seq ?_
  refine G_region ?_
  refine GL_step rfl (PS_assign rfl) ?_
  refine GL_nil ?_
  refine GQ_sub (.cons (k := 10) rfl (.nil _)) ?_
  refine GQ_then ?_
  refine G_ret ?_
  refine GQ_then_ret ?_
  refine GQ_ret rfl (.tmp rfl .nil) ?_
  intro w1 hS
  have hS := hS.own_nil 3 1
  have hS := (hS.perm (Pulls.perm (.cons (.tail (.tail .head)) (.cons (.tail (.tail .head)) (.cons .head .nil))))).headL
  have hq : Turn.pickL T.w l z u a = _ := ((if_f c3).trans (if_t c4))
  refine ⟨_, ⟨⟨none, 0, 0⟩, rfl, ?hl2, ?hB2⟩, hS⟩
  case hB2 => rw [hq]; (try rw [← hx3]); (try rfl)
  case hl2 => rw [hq]; first | rfl | (rw [← hx3]; first | assumption | (simp only [Hd.cut, List.length_drop, List.length_take]; omega))
 have c4p := kz c4
 have c4q := c4p
 rw [hI14, hx3] at c4
 refine G_skip ?_
 refine GQ_sub (.cons (k := 2) rfl (.cons (k := 11) rfl (.nil _))) ?_
 refine GQ_then ?_
 refine G_seq ?_
 refine G_region ?_
 refine GL_step rfl (PS_move rfl) ?_
 refine GL_step rfl (PS_move rfl) ?_
 refine GL_step rfl (PS_sub rfl rfl (IntWalk.i64_in _ (by first | omega | exact hb.1 | exact hb.2))) ?_
 refine GL_step rfl (PS_move rfl) ?_
 refine GL_cutMidF flI rfl Tryd.underlying58 sz3 rfl rfl rfl (by first | omega | exact hb.1 | exact hb.2) (by first | omega | exact hb.1 | exact hb.2) (by first | omega | exact hb.1 | exact hb.2) (fun _ => .head) ?_
 refine GL_step rfl (PS_assign rfl) ?_
 refine GL_nil ?_
 refine GQ_sub (.cons (k := 10) rfl (.nil _)) ?_
 refine GQ_then ?_
 refine G_ret ?_
 refine GQ_ret rfl (.tmp rfl .nil) ?_
 intro w1 hS
 have hS := (hS.perm (Pulls.perm (.cons (.tail .head) (.cons (.tail .head) (.cons .head .nil))))).headL
 have hq : Turn.pickL T.w l z u a = _ := ((if_f c3).trans (if_f c4))
 refine ⟨_, ⟨_, rfl, ?hl3, ?hB3⟩, hS⟩
 case hB3 => rw [hq]; (try rw [← hx3]); (try rfl)
 case hl3 => rw [hq]; first | rfl | (rw [← hx3]; first | assumption | (simp only [Hd.cut, List.length_drop, List.length_take]; omega))
theorem rules_turn_one_spec (b : Nat) (T : Turn) (g : Hd) (u : Str) (hF : T.Fit) (hu : u.length ≤ 140737488351232) : CtrR Tryd.prog 56 #[.pointer (some ⟨b, 0, none⟩), vstr u] [Res.box b 55 (TurnV.enc ⟨T.w, T.b, g⟩)] (fun w => (GVE 3 w ∧ 3 ∉ feet [Res.box b 55 (TurnV.enc ⟨T.w, T.b, g⟩)]) ∧ (GVE 4 w ∧ 4 ∉ feet [Res.box b 55 (TurnV.enc ⟨T.w, T.b, g⟩)])) (fun v B => v = .tuple #[.int .i64 (T.one u).1, .bool (T.one u).2] ∧ B = [Res.box b 55 (TurnV.enc ⟨T.w, T.b, g⟩)]) := by
 intro w hS0 hH
 obtain ⟨⟨gl0, gm0⟩, ⟨gl1, gm1⟩⟩ := hH
 have hb := hF.b
 have hr := hF.room
 have ho9 := T.own_len
 have hs9 := T.seen_len
 refine Ret_body _ _ Tryd.func56 rfl rfl rfl (hS0) ?_
 refine G_seq ?_
 refine G_region ?_
 refine GL_step rfl (PS_assign rfl) ?_
 refine GL_step rfl (PS_assign rfl) ?_
 refine GL_nil ?_
 refine GQ_sub (.cons (k := 0) rfl (.cons (k := 1) rfl (.nil _))) ?_
 refine GQ_then ?_
 refine G_seq ?_
 refine G_region ?_
 refine GL_step rfl (PS_move rfl) ?_
 refine GL_pure rfl cf55 (.cons rfl .nil) (fun w hS => words_Noun_spec _ (by first | assumption | omega) w (gl0.stM gm0 hS) (gl1.stM gm1 hS)) ?_
 refine GL_step rfl (PS_move rfl) ?_
 refine GL_step rfl (PS_extract rfl rfl) ?_
 refine GL_step rfl (PS_extract rfl rfl) ?_
 refine GL_step rfl (PS_extract rfl rfl) ?_
 refine GL_step rfl (PS_extract rfl rfl) ?_
 refine GL_step rfl (PS_assign rfl) ?_
 refine GL_step rfl (PS_assign rfl) ?_
 refine GL_step rfl (PS_assign rfl) ?_
 refine GL_step rfl (PS_assign rfl) ?_
 refine GL_nil ?_
 refine GQ_sub (.cons (k := 0) rfl (.cons (k := 6) rfl (.cons (k := 7) rfl (.cons (k := 8) rfl (.cons (k := 9) rfl (.nil _)))))) ?_
 refine GQ_then ?_
 refine G_seq ?_
 refine G_seq ?_
 refine G_region ?_
 refine GL_step rfl (PS_move rfl) ?_
 refine GL_step rfl (PS_neq rfl rfl) ?_
 refine GL_step rfl (PS_move rfl) ?_
 refine GL_gf (t := 20) rfl rfl rfl (fun q => PS_move rfl) ?_
 refine GL_step rfl (PS_or rfl rfl (fun h => by rw [h]; rfl)) ?_
 refine GL_nil ?_
 refine GQ_sub (.cons (k := 0) rfl (.cons (k := 6) rfl (.cons (k := 7) rfl (.cons (k := 22) rfl (.nil _))))) ?_
 refine GQ_then ?_
 refine G_cond rfl (fun c1 => ?_) (fun c1 => ?_)
 ·
  have c1p := kz c1
  refine G_seq ?_
  refine G_region ?_
  refine GL_step rfl (PS_assign rfl) ?_
  refine GL_step rfl (PS_assign rfl) ?_
  refine GL_nil ?_
  refine GQ_sub (.cons (k := 4) rfl (.cons (k := 5) rfl (.nil _))) ?_
  refine GQ_then ?_
  refine G_ret ?_
  refine GQ_then_ret ?_
  refine GQ_ret rfl (.tmp rfl (.tmp rfl .nil)) ?_
  intro w1 hS
  have hS := (hS.perm (Pulls.perm (.cons .head .nil))).headL
  have hq : T.one u = _ := (if_t c1)
  exact ⟨_, ⟨by rw [hq]; rfl, rfl⟩, hS⟩
 have c1p := kz c1
 refine G_skip ?_
 refine GQ_sub (.cons (k := 0) rfl (.cons (k := 6) rfl (.cons (k := 7) rfl (.nil _)))) ?_
 refine GQ_then ?_
 refine G_seq ?_
 refine G_region ?_
 refine GL_step rfl (PS_move rfl) ?_
 refine GL_step rfl (PS_move rfl) ?_
 refine GL_callL rfl cf44 (.cons rfl .nil) (.cons .head .nil) (rules_turn_own_spec _ _ _ (by first | assumption | omega)) (fun v1 B hv => ?_)
 obtain ⟨y2, rfl, y3, rfl⟩ := hv
 refine GL_step rfl (PS_move rfl) ?_
 refine GL_callL rfl cf40 (.cons rfl .nil) (.cons .head .nil) (rules_turn_seen_spec _ _ _ (by first | assumption | omega)) (fun v5 B hv => ?_)
 obtain ⟨y6, rfl, y7, rfl⟩ := hv
 refine GL_appendF flI rfl Tryd.underlying58 sz3 zv3 rfl by3 (by decide) (by decide) rfl rfl (fun w hS => Src.sliceT Tryd.underlying58 ((Kn.own (.tail _ (.head _))) w hS)) (by (try dsimp only); omega) (fun _ => (.tail (.tail .head))) (fun h9 h9l h9z => ?_)
 refine GL_step rfl (PS_move rfl) ?_
 refine GL_step rfl (PS_move rfl) ?_
 refine GL_callL rfl cf42 (.cons rfl (.cons rfl (.cons rfl (.cons rfl (.cons rfl .nil))))) (.cons .head (.cons (.tail .head) .nil)) (rules_turn_pick_spec _ T _ _ (T.own ++ T.seen) _ _ _ hF (by rw [List.length_append]; omega) (by rw [List.length_append]; omega) (fun i hi => Turn.at_hand hi)) (fun v10 B hv => ?_)
 obtain ⟨y11, rfl, y12, rfl⟩ := hv
 refine GL_step rfl (PS_assign rfl) ?_
 refine GL_nil ?_
 refine GQ_sub (.cons (k := 10) rfl (.nil _)) ?_
 refine GQ_then ?_
 refine G_seq ?_
 refine G_seq ?_
 refine G_region ?_
 refine GL_step rfl (PS_move rfl) ?_
 refine GL_step rfl (PS_len_slice rfl Tryd.underlying58 rfl) ?_
 refine GL_step rfl (PS_eql rfl rfl) ?_
 refine GL_nil ?_
 refine GQ_sub (.cons (k := 10) rfl (.cons (k := 34) rfl (.nil _))) ?_
 refine GQ_then ?_
 refine G_cond rfl (fun c2 => ?_) (fun c2 => ?_)
 ·
  have c2p := kz c2
  have hpl := y12
  rw [hpl] at c2 c2p
  refine G_seq ?_
  refine G_region ?_
  refine GL_step rfl (PS_assign rfl) ?_
  refine GL_step rfl (PS_assign rfl) ?_
  refine GL_nil ?_
  refine GQ_sub (.cons (k := 4) rfl (.cons (k := 5) rfl (.nil _))) ?_
  refine GQ_then ?_
  refine G_ret ?_
  refine GQ_then_ret ?_
  refine GQ_ret rfl (.tmp rfl (.tmp rfl .nil)) ?_
  intro w1 hS
  have hS := (hS.perm (Pulls.perm (.cons .head .nil))).headL
  have hq : T.one u = _ := ((if_f c1).trans (if_t c2))
  exact ⟨_, ⟨by rw [hq]; rfl, rfl⟩, hS⟩
 have c2p := kz c2
 have hpl := y12
 rw [hpl] at c2 c2p
 refine G_skip ?_
 refine GQ_sub (.cons (k := 10) rfl (.nil _)) ?_
 refine GQ_then ?_
 refine G_seq ?_
 refine G_region ?_
 refine GL_step rfl (PS_move rfl) ?_
 refine GL_step rfl (PS_idxS is58 (by decide) (Kn.own (.tail _ (.tail _ (.head _)))) rfl rfl (by omega) (by omega)) ?_
 refine GL_step rfl (PS_ldInt rfl tys3 (Kn.own (.tail _ (.tail _ (.head _)))) (by omega)) ?_
 refine GL_step rfl (PS_assign rfl) ?_
 refine GL_step rfl (PS_assign rfl) ?_
 refine GL_nil ?_
 refine GQ_sub (.cons (k := 4) rfl (.cons (k := 5) rfl (.nil _))) ?_
 refine GQ_then ?_
 refine G_ret ?_
 refine GQ_ret rfl (.tmp rfl (.tmp rfl .nil)) ?_
 intro w1 hS
 have hS := (hS.perm (Pulls.perm (.cons .head .nil))).headL
 have hq : T.one u = _ := ((if_f c1).trans (if_f c2))
 exact ⟨_, ⟨by rw [hq]; rfl, rfl⟩, hS⟩
theorem rules_turn_box_spec (b : Nat) (T : Turn) (g : Hd) (u : Str) (hg : g.len = T.out.length) (hF : T.Fit) (hu : u.length ≤ 140737488351232) (hn : T.out.length ≤ 99000) : CtrR Tryd.prog 41 #[.pointer (some ⟨b, 0, none⟩), vstr u] [Res.box b 55 (TurnV.enc ⟨T.w, T.b, g⟩), Res.own g 48 16 (T.out.flatMap Ing.Event.enc)] (fun w => (GVE 3 w ∧ 3 ∉ feet [Res.box b 55 (TurnV.enc ⟨T.w, T.b, g⟩), Res.own g 48 16 (T.out.flatMap Ing.Event.enc)]) ∧ (GVE 4 w ∧ 4 ∉ feet [Res.box b 55 (TurnV.enc ⟨T.w, T.b, g⟩), Res.own g 48 16 (T.out.flatMap Ing.Event.enc)])) (fun v B => ∃ g' : Hd, v = .tuple #[.int .i64 (T.box u).2.1, .bool (T.box u).2.2] ∧ g'.len = ((T.box u).1).out.length ∧ B = [Res.box b 55 (TurnV.enc ⟨((T.box u).1).w, ((T.box u).1).b, g'⟩), Res.own g' 48 16 (((T.box u).1).out.flatMap Ing.Event.enc)]) := by
 intro w hS0 hH
 obtain ⟨⟨gl0, gm0⟩, ⟨gl1, gm1⟩⟩ := hH
 have hb := hF.b
 have hr := hF.room
 have ho := T.one_rng u
 refine Ret_body _ _ Tryd.func41 rfl rfl rfl (hS0) ?_
 refine G_seq ?_
 refine G_region ?_
 refine GL_step rfl (PS_assign rfl) ?_
 refine GL_step rfl (PS_assign rfl) ?_
 refine GL_nil ?_
 refine GQ_sub (.cons (k := 0) rfl (.cons (k := 1) rfl (.nil _))) ?_
 refine GQ_then ?_
 refine G_seq ?_
 refine G_region ?_
 refine GL_step rfl (PS_move rfl) ?_
 refine GL_step rfl (PS_move rfl) ?_
 refine GL_callR rfl cf56 (.cons rfl (.cons rfl .nil)) (.cons .head .nil) (rules_turn_one_spec _ T _ _ hF hu) (fun w hS => ⟨gl0.pull gm0 hS (.cons .head .nil), gl1.pull gm1 hS (.cons .head .nil)⟩) (fun v1 B hv => ?_)
 obtain ⟨rfl, rfl⟩ := hv
 refine GL_step rfl (PS_move rfl) ?_
 refine GL_step rfl (PS_extract rfl rfl) ?_
 refine GL_step rfl (PS_extract rfl rfl) ?_
 refine GL_step rfl (PS_assign rfl) ?_
 refine GL_step rfl (PS_assign rfl) ?_
 refine GL_nil ?_
 refine GQ_sub (.cons (k := 0) rfl (.cons (k := 6) rfl (.cons (k := 7) rfl (.nil _)))) ?_
 refine GQ_then ?_
 refine G_seq ?_
 refine G_seq ?_
 refine G_region ?_
 refine GL_step rfl (PS_move rfl) ?_
 refine GL_step rfl (PS_not rfl) ?_
 refine GL_step rfl (PS_move rfl) ?_
 refine GL_gf (t := 16) rfl rfl rfl (fun q => PS_move rfl) ?_
 refine GL_gf (t := 16) rfl rfl rfl (fun q => PS_move rfl) ?_
 refine GL_gf (t := 16) rfl rfl rfl (fun q => PS_nilCheck (cvE rfl (by rw [q]; rfl))) ?_
 refine GL_gf (t := 16) rfl rfl rfl (fun q => PS_fieldAddr fa55_0 (cvE rfl (by rw [q]; rfl))) ?_
 refine GL_gf (t := 16) rfl rfl rfl (fun q => PS_fieldAddr fa34_1 (cvE rfl (by rw [q]; rfl))) ?_
 refine GL_gf (t := 16) rfl rfl rfl (fun q => by have q1 := q; (try simp at q1); exact PS_indexAddr ia29 (cvE rfl (by rw [q]; rfl)) (cvE rfl (by rw [q]; rfl)) (by first | omega | exact hb.1 | exact hb.2 | (dsimp only; omega)) (by first | omega | exact hb.1 | exact hb.2 | (dsimp only; omega))) ?_
 refine GL_gf (t := 16) rfl rfl rfl (fun q => PS_fieldAddr fa28_1 (cvE rfl (by rw [q]; rfl))) ?_
 refine GL_gf (t := 16) rfl rfl rfl (fun q => by have q1 := q; (try simp at q1); exact PS_load (cvE rfl (by rw [q]; rfl)) tys3 (.head _) (((TurnV.l0.comp Land.l1).comp (Lens.arr (n := 9) Thing.fl (by first | omega | exact hb.1 | exact hb.2 | (dsimp only; omega)) (by first | omega | exact hb.1 | exact hb.2 | (dsimp only; omega)))).comp Thing.l1) rfl rfl) ?_
 refine GL_gf (t := 16) rfl rfl rfl (fun q => PS_neq (cvE rfl (by rw [q]; rfl)) rfl) ?_
 refine GL_step rfl (PS_or rfl rfl (fun h => by rw [h]; rfl)) ?_
 refine GL_nil ?_
 refine GQ_sub (.cons (k := 0) rfl (.cons (k := 6) rfl (.cons (k := 26) rfl (.nil _)))) ?_
 refine GQ_then ?_
 refine G_cond rfl (fun c1 => ?_) (fun c1 => ?_)
 ·
  have c1p := kz c1
  refine G_seq ?_
  refine G_region ?_
  refine GL_step rfl (PS_move rfl) ?_
  refine GL_callL rfl cf32 (.cons rfl (.cons rfl .nil)) (.cons .head (.cons .head .nil)) (rules_turn_tell_spec _ _ _ _ hg hb (by omega)) (fun v2 B hv => ?_)
  obtain ⟨y3, rfl, y4, rfl⟩ := hv
  refine GL_nil ?_
  refine GQ_sub (.nil _) ?_
  refine GQ_then ?_
  refine G_seq ?_
  refine G_region ?_
  refine GL_step rfl (PS_assign rfl) ?_
  refine GL_step rfl (PS_assign rfl) ?_
  refine GL_nil ?_
  refine GQ_then ?_
  refine G_ret ?_
  refine GQ_then_ret ?_
  refine GQ_ret rfl (.tmp rfl (.tmp rfl .nil)) ?_
  intro w1 hS
  have hS := (hS.perm (Pulls.perm (.cons .head (.cons .head .nil)))).headL
  have hq : T.box u = _ := (if_t c1)
  refine ⟨_, ⟨?gq1, ?hv1, ?hl1, ?hB1⟩, hS⟩
  case hB1 => rw [hq]; (try rfl)
  case hv1 => rw [hq]; (try rfl)
  case hl1 => rw [hq]; assumption
 have c1p := kz c1
 refine G_skip ?_
 refine GQ_sub (.cons (k := 0) rfl (.cons (k := 6) rfl (.nil _))) ?_
 refine GQ_then ?_
 refine G_seq ?_
 refine G_seq ?_
 refine G_region ?_
 refine GL_step rfl (PS_move rfl) ?_
 refine GL_step rfl (PS_move rfl) ?_
 refine GL_step rfl (PS_nilCheck rfl) ?_
 refine GL_step rfl (PS_fieldAddr fa55_0 rfl) ?_
 refine GL_step rfl (PS_fieldAddr fa34_1 rfl) ?_
 refine GL_step rfl (PS_indexAddr ia29 rfl rfl (by first | omega | exact hb.1 | exact hb.2 | (dsimp only; omega)) (by first | omega | exact hb.1 | exact hb.2 | (dsimp only; omega))) ?_
 refine GL_step rfl (PS_fieldAddr fa28_4 rfl) ?_
 refine GL_step rfl (PS_load rfl tys4 (.head _) (((TurnV.l0.comp Land.l1).comp (Lens.arr (n := 9) Thing.fl (by first | omega | exact hb.1 | exact hb.2 | (dsimp only; omega)) (by first | omega | exact hb.1 | exact hb.2 | (dsimp only; omega)))).comp Thing.l4) rfl rfl) ?_
 refine GL_step rfl (PS_not rfl) ?_
 refine GL_nil ?_
 refine GQ_sub (.cons (k := 0) rfl (.cons (k := 6) rfl (.cons (k := 37) rfl (.nil _)))) ?_
 refine GQ_then ?_
 refine G_cond rfl (fun c2 => ?_) (fun c2 => ?_)
 ·
  have c2p := kz c2
  refine G_seq ?_
  refine G_region ?_
  refine GL_step rfl (PS_move rfl) ?_
  refine GL_callL rfl cf32 (.cons rfl (.cons rfl .nil)) (.cons .head (.cons .head .nil)) (rules_turn_tell_spec _ _ _ _ hg hb (by omega)) (fun v5 B hv => ?_)
  obtain ⟨y6, rfl, y7, rfl⟩ := hv
  refine GL_nil ?_
  refine GQ_sub (.nil _) ?_
  refine GQ_then ?_
  refine G_seq ?_
  refine G_region ?_
  refine GL_step rfl (PS_assign rfl) ?_
  refine GL_step rfl (PS_assign rfl) ?_
  refine GL_nil ?_
  refine GQ_then ?_
  refine G_ret ?_
  refine GQ_then_ret ?_
  refine GQ_ret rfl (.tmp rfl (.tmp rfl .nil)) ?_
  intro w1 hS
  have hS := (hS.perm (Pulls.perm (.cons .head (.cons .head .nil)))).headL
  have hq : T.box u = _ := ((if_f c1).trans (if_t c2))
  refine ⟨_, ⟨?gq2, ?hv2, ?hl2, ?hB2⟩, hS⟩
  case hB2 => rw [hq]; (try rfl)
  case hv2 => rw [hq]; (try rfl)
  case hl2 => rw [hq]; assumption
 have c2p := kz c2
 refine G_skip ?_
 refine GQ_sub (.cons (k := 6) rfl (.nil _)) ?_
 refine GQ_then ?_
 refine G_seq ?_
 refine G_region ?_
 refine GL_step rfl (PS_move rfl) ?_
 refine GL_step rfl (PS_assign rfl) ?_
 refine GL_step rfl (PS_assign rfl) ?_
 refine GL_nil ?_
 refine GQ_sub (.cons (k := 4) rfl (.cons (k := 5) rfl (.nil _))) ?_
 refine GQ_then ?_
 refine G_ret ?_
 refine GQ_ret rfl (.tmp rfl (.tmp rfl .nil)) ?_
 intro w1 hS
 have hS := (hS.perm (Pulls.perm (.cons .head (.cons .head .nil)))).headL
 have hq : T.box u = _ := ((if_f c1).trans (if_f c2))
 refine ⟨_, ⟨?gq3, ?hv3, ?hl3, ?hB3⟩, hS⟩
 case hB3 => rw [hq]; (try rfl)
 case hv3 => rw [hq]; (try rfl)
 case hl3 => rw [hq]; assumption
theorem rules_turn_thing_spec (b : Nat) (T : Turn) (g : Hd) (k i : Int) (hg : g.len = T.out.length) (hb : 0 ≤ T.b ∧ T.b < 6) (hi : 0 ≤ i ∧ i < 9) (hn : T.out.length ≤ 100000) : Ctr Tryd.prog 43 #[.pointer (some ⟨b, 0, none⟩), .int .i64 k, .int .i64 i] [Res.box b 55 (TurnV.enc ⟨T.w, T.b, g⟩), Res.own g 48 16 (T.out.flatMap Ing.Event.enc)] (fun v B => ∃ g' : Hd, v = .tuple #[] ∧ g'.len = (T.thing k i).out.length ∧ B = [Res.box b 55 (TurnV.enc ⟨(T.thing k i).w, (T.thing k i).b, g'⟩), Res.own g' 48 16 ((T.thing k i).out.flatMap Ing.Event.enc)]) := by
 intro w hS0
 refine Ret_body _ _ Tryd.func43 rfl rfl rfl (hS0) ?_
 refine G_region ?_
 refine GL_step rfl (PS_move rfl) ?_
 refine GL_step rfl (PS_move rfl) ?_
 refine GL_step rfl (PS_move rfl) ?_
 refine GL_step rfl (PS_move rfl) ?_
 refine GL_step rfl (PS_nilCheck rfl) ?_
 refine GL_step rfl (PS_fieldAddr fa55_0 rfl) ?_
 refine GL_step rfl (PS_fieldAddr fa34_1 rfl) ?_
 refine GL_step rfl (PS_indexAddr ia29 rfl rfl (by (try dsimp only at *); omega) (by (try dsimp only at *); omega)) ?_
 refine GL_step rfl (PS_fieldAddr fa28_0 rfl) ?_
 refine GL_step rfl (PS_load rfl tys9 (.head _) (((TurnV.l0.comp Land.l1).comp (Lens.arr (n := 9) Thing.fl (by (try dsimp only at *); omega) (by (try dsimp only at *); omega))).comp Thing.l0) rfl rfl) ?_
 refine GL_step rfl (PS_build pl48 zv48 rfl (.cons Ing.Event.l0 rfl rfl rfl (.cons Ing.Event.l3 rfl rfl rfl (.cons Ing.Event.l8 rfl rfl rfl .nil)))) ?_
 refine GL_callL rfl cf17 (.cons rfl (.cons rfl .nil)) (.cons .head (.cons .head .nil)) (rules_turn_happens_spec _ _ _ { Turn.evk k with thing := (T.w.things.at i).name } hg hb (show (-1 : Int) < 6 by decide) hn) (fun v1 B hv => ?_)
 obtain ⟨y2, rfl, y3, rfl⟩ := hv
 refine GL_nil ?_
 refine GQ_end rfl .nil ?_
 intro w1 hS
 have hS := (hS.perm (Pulls.perm (.cons .head (.cons .head .nil)))).headL
 exact ⟨_, ⟨_, rfl, by assumption, rfl⟩, hS⟩
theorem rules_turn_get_spec (b : Nat) (T : Turn) (g : Hd) (o : Order) (hg : g.len = T.out.length) (hF : T.Fit) (hu : o.second.length ≤ 140737488351232) (hn : T.out.length ≤ 90000) : CtrR Tryd.prog 20 #[.pointer (some ⟨b, 0, none⟩), .agg o.enc.toArray] [Res.box b 55 (TurnV.enc ⟨T.w, T.b, g⟩), Res.own g 48 16 (T.out.flatMap Ing.Event.enc)] (fun w => (GVE 3 w ∧ 3 ∉ feet [Res.box b 55 (TurnV.enc ⟨T.w, T.b, g⟩), Res.own g 48 16 (T.out.flatMap Ing.Event.enc)]) ∧ (GVE 4 w ∧ 4 ∉ feet [Res.box b 55 (TurnV.enc ⟨T.w, T.b, g⟩), Res.own g 48 16 (T.out.flatMap Ing.Event.enc)])) (fun v B => ∃ g' : Hd, v = .tuple #[] ∧ g'.len = (T.get o).out.length ∧ B = [Res.box b 55 (TurnV.enc ⟨(T.get o).w, (T.get o).b, g'⟩), Res.own g' 48 16 ((T.get o).out.flatMap Ing.Event.enc)]) := by
 intro w hS0 hH
 obtain ⟨⟨gl0, gm0⟩, ⟨gl1, gm1⟩⟩ := hH
 have hb := hF.b
 have hr := hF.room
 refine Ret_body _ _ Tryd.func20 rfl rfl rfl (hS0) ?_
 refine G_seq ?_
 refine G_region ?_
 refine GL_box rfl rfl rfl (fun b1 => ?_)
 refine GL_nil ?_
 refine GQ_sub (.cons (k := 0) rfl (.cons (k := 3) rfl (.nil _))) ?_
 refine GQ_then ?_
 refine G_seq ?_
 refine G_region ?_
 refine GL_step rfl (PS_move rfl) ?_
 refine GL_callL rfl cf40 (.cons rfl .nil) (.cons (.tail .head) .nil) (rules_turn_seen_spec _ _ _ (by first | assumption | omega)) (fun v1 B hv => ?_)
 obtain ⟨y2, rfl, y3, rfl⟩ := hv
 refine GL_step rfl (PS_assign rfl) ?_
 refine GL_nil ?_
 refine GQ_sub (.cons (k := 0) rfl (.cons (k := 3) rfl (.cons (k := 4) rfl (.nil _)))) ?_
 refine GQ_then ?_
 refine G_seq ?_
 refine G_seq ?_
 refine G_region ?_
 refine GL_step rfl (PS_fieldAddr fa36_4 rfl) ?_
 refine GL_step rfl (PS_load rfl tys9 (.tail _ (.tail _ (.head _))) Order.l4 rfl rfl) ?_
 refine GL_step rfl (PS_neq_str rfl rfl) ?_
 refine GL_nil ?_
 refine GQ_sub (.cons (k := 0) rfl (.cons (k := 3) rfl (.cons (k := 4) rfl (.cons (k := 14) rfl (.nil _))))) ?_
 refine GQ_then ?_
 refine G_cond rfl (fun c1 => ?_) (fun c1 => ?_)
 ·
  have c1p := kz c1
  refine G_seq ?_
  refine G_region ?_
  refine GL_step rfl (PS_move rfl) ?_
  refine GL_step rfl (PS_fieldAddr fa36_4 rfl) ?_
  refine GL_step rfl (PS_load rfl tys9 (.tail _ (.tail _ (.head _))) Order.l4 rfl rfl) ?_
  refine GL_callR rfl cf41 (.cons rfl (.cons rfl .nil)) (.cons .head (.cons (.tail (.tail .head)) .nil)) (rules_turn_box_spec _ T _ _ hg hF hu (by omega)) (fun w hS => ⟨gl0.pull gm0 hS (.cons .head (.cons (.tail (.tail .head)) .nil)), gl1.pull gm1 hS (.cons .head (.cons (.tail (.tail .head)) .nil))⟩) (fun v5 B hv => ?_)
  obtain ⟨y6, rfl, y7, rfl⟩ := hv
  refine GL_step rfl (PS_move rfl) ?_
  refine GL_step rfl (PS_extract rfl rfl) ?_
  refine GL_step rfl (PS_extract rfl rfl) ?_
  refine GL_step rfl (PS_assign rfl) ?_
  refine GL_step rfl (PS_assign rfl) ?_
  refine GL_nil ?_
  refine GQ_sub (.cons (k := 0) rfl (.cons (k := 3) rfl (.cons (k := 5) rfl (.cons (k := 6) rfl (.nil _))))) ?_
  refine GQ_then ?_
  refine G_seq ?_
  refine G_seq ?_
  refine G_region ?_
  refine GL_step rfl (PS_move rfl) ?_
  refine GL_step rfl (PS_not rfl) ?_
  refine GL_nil ?_
  refine GQ_sub (.cons (k := 0) rfl (.cons (k := 3) rfl (.cons (k := 5) rfl (.cons (k := 23) rfl (.nil _))))) ?_
  refine GQ_then ?_
  refine G_cond rfl (fun c2 => ?_) (fun c2 => ?_)
  ·
   have c2p := kz c2
   refine G_ret ?_
   refine GQ_then_ret ?_
   refine GQ_then_ret ?_
   refine GQ_ret rfl .nil ?_
   intro w1 hS
   have hS := (hS.perm (Pulls.perm (.cons .head (.cons .head .nil)))).headL
   have hq : T.get o = _ := ((if_t c1).trans (if_t c2))
   refine ⟨_, ⟨?gq1, rfl, ?hl1, ?hB1⟩, hS⟩
   case hB1 => rw [hq]; (try rfl)
   case hl1 => rw [hq]; assumption
  have c2p := kz c2
  refine G_skip ?_
  refine GQ_sub (.cons (k := 0) rfl (.cons (k := 3) rfl (.cons (k := 5) rfl (.nil _)))) ?_
  refine GQ_then ?_
  refine G_region ?_
  refine GL_step rfl (PS_move rfl) ?_
  refine GL_step rfl (PS_nilCheck rfl) ?_
  refine GL_step rfl (PS_fieldAddr fa55_0 rfl) ?_
  refine GL_step rfl (PS_loadA rfl tya34 (.head _) TurnV.l0 rfl) ?_
  refine GL_step rfl (PS_move rfl) ?_
  refine GL_callL rfl cf16 (.cons rfl (.cons rfl (.cons rfl .nil))) .nil (land_Has_spec _ _ _) (fun v8 B hv => ?_)
  obtain ⟨y9, rfl, y10, rfl⟩ := hv
  refine GL_step rfl (PS_assign rfl) ?_
  refine GL_nil ?_
  refine GQ_sub (.cons (k := 0) rfl (.cons (k := 3) rfl (.cons (k := 4) rfl (.nil _)))) ?_
  refine GQ_then ?_
  refine G_seq ?_
  refine G_region ?_
  refine GL_step rfl (PS_move rfl) ?_
  refine GL_step rfl (PS_move rfl) ?_
  refine GL_step rfl (PS_fieldAddr fa36_1 rfl) ?_
  refine GL_step rfl (PS_load rfl tys3 (.tail _ (.tail _ (.tail _ (.tail _ (.head _))))) Order.l1 rfl rfl) ?_
  refine GL_step rfl (PS_fieldAddr fa36_3 rfl) ?_
  refine GL_step rfl (PS_load rfl tys9 (.tail _ (.tail _ (.tail _ (.tail _ (.head _))))) Order.l3 rfl rfl) ?_
  refine GL_step rfl (PS_fieldAddr fa36_2 rfl) ?_
  refine GL_step rfl (PS_load rfl tys4 (.tail _ (.tail _ (.tail _ (.tail _ (.head _))))) Order.l2 rfl rfl) ?_
  refine GL_callL rfl cf42 (.cons rfl (.cons rfl (.cons rfl (.cons rfl (.cons rfl .nil))))) (.cons (.tail .head) (.cons .head .nil)) (rules_turn_pick_spec _ (T.box o.second).1 _ _ ((T.box o.second).1.w.has 2 (T.box o.second).2.1) _ _ _ (hF.of_w (T.box_w _).1 (T.box_w _).2) (by assumption) (Nat.le_trans (Land.has_le _ _ _) (by decide)) (fun i hi => Land.has_mem hi)) (fun v12 B hv => ?_)
  obtain ⟨y13, rfl, y14, rfl⟩ := hv
  refine GL_step rfl (PS_assign rfl) ?_
  refine GL_nil ?_
  refine GQ_sub (.cons (k := 0) rfl (.cons (k := 4) rfl (.nil _))) ?_
  refine GQ_then ?_
  refine G_seq ?_
  refine G_seq ?_
  refine G_region ?_
  refine GL_step rfl (PS_move rfl) ?_
  refine GL_step rfl (PS_len_slice rfl Tryd.underlying58 rfl) ?_
  refine GL_step rfl (PS_eql rfl rfl) ?_
  refine GL_nil ?_
  refine GQ_sub (.cons (k := 0) rfl (.cons (k := 4) rfl (.cons (k := 41) rfl (.nil _)))) ?_
  refine GQ_then ?_
  refine G_cond rfl (fun c3 => ?_) (fun c3 => ?_)
  ·
   have c3p := kz c3
   rw [y14] at c3
   refine G_region ?_
   refine GL_step rfl (PS_move rfl) ?_
   refine GL_callL rfl cf32 (.cons rfl (.cons rfl .nil)) (.cons .head (.cons (.tail (.tail .head)) .nil)) (rules_turn_tell_spec _ (T.box o.second).1 _ _ (by assumption) (by rw [(T.box_w _).2]; exact hb) (by have := T.box_out o.second; omega)) (fun v16 B hv => ?_)
   obtain ⟨y17, rfl, y18, rfl⟩ := hv
   refine GL_nil ?_
   refine GQ_sub (.cons (k := 0) rfl (.cons (k := 4) rfl (.nil _))) ?_
   refine GQ_then ?_
   refine G_seq ?_
   refine G_region ?_
   refine GL_step rfl (PS_move rfl) ?_
   refine GL_step rfl (PS_len_slice rfl Tryd.underlying58 rfl) ?_
   refine GL_step rfl (PS_move rfl) ?_
   refine GL_nil ?_
   refine GQ_sub (.cons (k := 0) rfl (.cons (k := 44) rfl (.cons (k := 45) rfl (.cons (k := 46) rfl (.nil _))))) ?_
   refine GQ_then ?_
   refine G_block ?_
   refine G_subF (.cons (k := 46) rfl (.cons (k := 0) rfl (.cons (k := 44) rfl (.cons (k := 45) rfl (.nil _))))) ?_
   refine G_pull (.tail .head) ?_
   refine G_pull (.tail .head) ?_
   refine G_loop3_ (fun (k : Int) (X : Turn) (h : Hd) => 0 ≤ k ∧ k ≤ ((Turn.pickL (T.box o.second).1.w ((T.box o.second).1.w.has 2 (T.box o.second).2.1) o.nth o.name o.all_).length : Int) ∧ T.get o = X.takeAll ((Turn.pickL (T.box o.second).1.w ((T.box o.second).1.w.has 2 (T.box o.second).2.1) o.nth o.name o.all_).drop k.toNat) ∧ X.b = T.b ∧ (X.out.length : Int) ≤ T.out.length + 2 + k ∧ h.len = X.out.length ∧ ((Turn.pickL (T.box o.second).1.w ((T.box o.second).1.w.has 2 (T.box o.second).2.1) o.nth o.name o.all_).length : Int) ≤ 9) (fun (k : Int) (X : Turn) (h : Hd) => (((Turn.pickL (T.box o.second).1.w ((T.box o.second).1.w.has 2 (T.box o.second).2.1) o.nth o.name o.all_).length : Int) - k).toNat) (fun (k : Int) (X : Turn) (h : Hd) => [(46, .int .i64 k)]) (fun (k : Int) (X : Turn) (h : Hd) => [Res.box b 55 (TurnV.enc ⟨X.w, X.b, h⟩), Res.own h 48 16 (X.out.flatMap Ing.Event.enc)]) (0) (_) (_) ?_ rfl rfl (fun k X h hI1 => ?_)
   · exact ⟨by omega, by omega, ((if_t c1).trans (if_f c2)).trans (congrArg (fun q => Turn.takeAll q _) (if_t c3)), (T.box_w _).2, by have := T.box_out o.second; (try simp only [Turn.tell_len]); omega, by assumption, by have := (Turn.pickL_sub (T.box o.second).1.w ((T.box o.second).1.w.has 2 (T.box o.second).2.1) o.nth o.name o.all_).length_le; have := Land.has_le (T.box o.second).1.w 2 (T.box o.second).2.1; omega⟩
   obtain ⟨hI11, hI12, hI13, hI14, hI15, hI16, hI17⟩ := hI1
   refine G_seq ?_
   refine G_region ?_
   refine GL_step rfl (PS_lss rfl rfl) ?_
   refine GL_nil ?_
   refine GQ_then ?_
   refine G_seq ?_
   refine G_cond rfl (fun c4 => ?_) (fun c4 => ?_)
   ·
    have c4p := kz c4
    have hx : 0 ≤ (Turn.pickL (T.box o.second).1.w ((T.box o.second).1.w.has 2 (T.box o.second).2.1) o.nth o.name o.all_).getD k.toNat 0 ∧ (Turn.pickL (T.box o.second).1.w ((T.box o.second).1.w.has 2 (T.box o.second).2.1) o.nth o.name o.all_).getD k.toNat 0 < 9 := (fun i hi => Land.has_mem (Turn.pickL_mem hi)) _ (Line.getD_memI (xs := (Turn.pickL (T.box o.second).1.w ((T.box o.second).1.w.has 2 (T.box o.second).2.1) o.nth o.name o.all_)) (i := k.toNat) (by omega))
    refine G_skip ?_
    refine GQ_sub (.cons (k := 0) rfl (.cons (k := 44) rfl (.cons (k := 45) rfl (.cons (k := 46) rfl (.nil _))))) ?_
    refine GQ_then ?_
    refine G_seq ?_
    refine G_block ?_
    refine G_seq ?_
    refine G_region ?_
    refine GL_step rfl (PS_idxS is58 (by decide) (Kn.own (.tail _ (.tail _ (.tail _ (.head _))))) rfl rfl (by omega) (by omega)) ?_
    refine GL_step rfl (PS_ldInt rfl tys3 (Kn.own (.tail _ (.tail _ (.tail _ (.head _))))) (by omega)) ?_
    refine GL_step rfl (PS_assign rfl) ?_
    refine GL_nil ?_
    refine GQ_sub (.cons (k := 0) rfl (.cons (k := 8) rfl (.cons (k := 44) rfl (.cons (k := 45) rfl (.cons (k := 46) rfl (.nil _)))))) ?_
    refine GQ_then ?_
    refine G_seq ?_
    refine G_region ?_
    refine GL_step rfl (PS_move rfl) ?_
    refine GL_step rfl (PS_move rfl) ?_
    refine GL_step rfl (PS_nilCheck rfl) ?_
    refine GL_step rfl (PS_fieldAddr fa55_0 rfl) ?_
    refine GL_step rfl (PS_fieldAddr fa34_1 rfl) ?_
    refine GL_step rfl (PS_indexAddr ia29 rfl rfl (by first | omega | exact hb.1 | exact hb.2 | (dsimp only; omega)) (by first | omega | exact hb.1 | exact hb.2 | (dsimp only; omega))) ?_
    refine GL_step rfl (PS_assign rfl) ?_
    refine GL_nil ?_
    refine GQ_sub (.cons (k := 0) rfl (.cons (k := 8) rfl (.cons (k := 9) rfl (.cons (k := 44) rfl (.cons (k := 45) rfl (.cons (k := 46) rfl (.nil _))))))) ?_
    refine GQ_then ?_
    refine G_seq ?_
    refine G_region ?_
    refine GL_step rfl (PS_move rfl) ?_
    refine GL_step rfl (PS_move rfl) ?_
    refine GL_step rfl (PS_move rfl) ?_
    refine GL_step rfl (PS_nilCheck rfl) ?_
    refine GL_step rfl (PS_fieldAddr fa55_1 rfl) ?_
    refine GL_step rfl (PS_load rfl tys3 (.head _) TurnV.l1 rfl rfl) ?_
    refine GL_step rfl (PS_nilCheck rfl) ?_
    refine GL_step rfl (PS_fieldAddr fa28_2 rfl) ?_
    refine GL_unit (PU_store (((TurnV.l0.comp Land.l1).comp (Lens.arr (n := 9) Thing.fl (by first | omega | exact hb.1 | exact hb.2 | (dsimp only; omega)) (by first | omega | exact hb.1 | exact hb.2 | (dsimp only; omega)))).comp Thing.l2) rfl rfl rfl sz3 rfl .head) ?_
    refine GL_step rfl (PS_nilCheck rfl) ?_
    refine GL_step rfl (PS_fieldAddr fa28_3 rfl) ?_
    refine GL_unit (PU_store (((TurnV.l0.comp Land.l1).comp (Lens.arr (n := 9) Thing.fl (by first | omega | exact hb.1 | exact hb.2 | (dsimp only; omega)) (by first | omega | exact hb.1 | exact hb.2 | (dsimp only; omega)))).comp Thing.l3) rfl rfl rfl sz3 rfl .head) ?_
    refine GL_nil ?_
    refine GQ_sub (.cons (k := 0) rfl (.cons (k := 8) rfl (.cons (k := 44) rfl (.cons (k := 45) rfl (.cons (k := 46) rfl (.nil _)))))) ?_
    refine GQ_then ?_
    refine G_swap (fun _ => .head) (congrArg (fun q => TurnV.enc ⟨q, _, _⟩) (Turn.place_eq X hx.1 hx.2 1 X.b)) ?_
    refine G_region ?_
    refine GL_step rfl (PS_move rfl) ?_
    refine GL_step rfl (PS_move rfl) ?_
    refine GL_callL rfl cf43 (.cons rfl (.cons rfl (.cons rfl .nil))) (.cons .head (.cons .head .nil)) (rules_turn_thing_spec _ (X.place ((Turn.pickL (T.box o.second).1.w ((T.box o.second).1.w.has 2 (T.box o.second).2.1) o.nth o.name o.all_).getD k.toNat 0) 1 X.b) _ 3 ((Turn.pickL (T.box o.second).1.w ((T.box o.second).1.w.has 2 (T.box o.second).2.1) o.nth o.name o.all_).getD k.toNat 0) (by assumption) (show 0 ≤ X.b ∧ X.b < 6 by rw [hI14]; exact hb) hx (show X.out.length ≤ 100000 by omega)) (fun v19 B hv => ?_)
    obtain ⟨y20, rfl, y21, rfl⟩ := hv
    refine GL_nil ?_
    refine GQ_sub (.cons (k := 0) rfl (.cons (k := 44) rfl (.cons (k := 45) rfl (.cons (k := 46) rfl (.nil _))))) ?_
    refine GQ_block ?_
    refine GQ_then ?_
    refine G_region ?_
    refine GL_step rfl (PS_add rfl rfl (IntWalk.i64_in _ (by first | omega | exact hb.1 | exact hb.2 | (dsimp only; omega)))) ?_
    refine GL_step rfl (PS_move rfl) ?_
    refine GL_nil ?_
    refine GQ_sub (.cons (k := 0) rfl (.cons (k := 44) rfl (.cons (k := 45) rfl (.cons (k := 46) rfl (.nil _))))) ?_
    refine GQ_next3_ (k + 1) _ _ ?_ ?_ (.cons (k := 46) rfl (.cons (k := 0) rfl (.cons (k := 44) rfl (.cons (k := 45) rfl (.nil _))))) (.refl _)
    · exact ⟨by omega, by omega, by rw [hI13, Turn.takeAll_step hI11 (by omega)], hI14, (by rw [Turn.thing_len]; show ((X.out.length + 1 : Nat) : Int) ≤ _; omega), by assumption, hI17⟩
    · omega
   have c4p := kz c4
   obtain rfl : k = ((Turn.pickL (T.box o.second).1.w ((T.box o.second).1.w.has 2 (T.box o.second).2.1) o.nth o.name o.all_).length : Int) := by omega
   rw [Turn.drop_end] at hI13
   refine G_exit ?_
   refine GQ_then_exit ?_
   refine GQ_then_exit ?_
   refine GQ_block_exit ?_
   refine GQ_end rfl .nil ?_
   intro w1 hS
   have hS := (hS.perm (Pulls.perm (.cons .head (.cons .head .nil)))).headL
   refine ⟨_, ⟨?gq2, rfl, ?hl2, ?hB2⟩, hS⟩
   case hB2 => rw [hI13]; rfl
   case hl2 => rw [hI13]; exact hI16
  have c3p := kz c3
  rw [y14] at c3
  refine G_skip ?_
  refine GQ_sub (.cons (k := 0) rfl (.cons (k := 4) rfl (.nil _))) ?_
  refine GQ_then ?_
  refine G_seq ?_
  refine G_region ?_
  refine GL_step rfl (PS_move rfl) ?_
  refine GL_step rfl (PS_len_slice rfl Tryd.underlying58 rfl) ?_
  refine GL_step rfl (PS_move rfl) ?_
  refine GL_nil ?_
  refine GQ_sub (.cons (k := 0) rfl (.cons (k := 44) rfl (.cons (k := 45) rfl (.cons (k := 46) rfl (.nil _))))) ?_
  refine GQ_then ?_
  refine G_block ?_
  refine G_subF (.cons (k := 46) rfl (.cons (k := 0) rfl (.cons (k := 44) rfl (.cons (k := 45) rfl (.nil _))))) ?_
  refine G_pull (.tail (.tail (.tail .head))) ?_
  refine G_pull (.tail .head) ?_
  refine G_loop3_ (fun (k : Int) (X : Turn) (h : Hd) => 0 ≤ k ∧ k ≤ ((Turn.pickL (T.box o.second).1.w ((T.box o.second).1.w.has 2 (T.box o.second).2.1) o.nth o.name o.all_).length : Int) ∧ T.get o = X.takeAll ((Turn.pickL (T.box o.second).1.w ((T.box o.second).1.w.has 2 (T.box o.second).2.1) o.nth o.name o.all_).drop k.toNat) ∧ X.b = T.b ∧ (X.out.length : Int) ≤ T.out.length + 2 + k ∧ h.len = X.out.length ∧ ((Turn.pickL (T.box o.second).1.w ((T.box o.second).1.w.has 2 (T.box o.second).2.1) o.nth o.name o.all_).length : Int) ≤ 9) (fun (k : Int) (X : Turn) (h : Hd) => (((Turn.pickL (T.box o.second).1.w ((T.box o.second).1.w.has 2 (T.box o.second).2.1) o.nth o.name o.all_).length : Int) - k).toNat) (fun (k : Int) (X : Turn) (h : Hd) => [(46, .int .i64 k)]) (fun (k : Int) (X : Turn) (h : Hd) => [Res.box b 55 (TurnV.enc ⟨X.w, X.b, h⟩), Res.own h 48 16 (X.out.flatMap Ing.Event.enc)]) (0) (_) (_) ?_ rfl rfl (fun k X h hI1 => ?_)
  · exact ⟨by omega, by omega, ((if_t c1).trans (if_f c2)).trans (congrArg (fun q => Turn.takeAll q _) (if_f c3)), (T.box_w _).2, by have := T.box_out o.second; (try simp only [Turn.tell_len]); omega, by assumption, by have := (Turn.pickL_sub (T.box o.second).1.w ((T.box o.second).1.w.has 2 (T.box o.second).2.1) o.nth o.name o.all_).length_le; have := Land.has_le (T.box o.second).1.w 2 (T.box o.second).2.1; omega⟩
  obtain ⟨hI11, hI12, hI13, hI14, hI15, hI16, hI17⟩ := hI1
  refine G_seq ?_
  refine G_region ?_
  refine GL_step rfl (PS_lss rfl rfl) ?_
  refine GL_nil ?_
  refine GQ_then ?_
  refine G_seq ?_
  refine G_cond rfl (fun c5 => ?_) (fun c5 => ?_)
  ·
   have c5p := kz c5
   have hx : 0 ≤ (Turn.pickL (T.box o.second).1.w ((T.box o.second).1.w.has 2 (T.box o.second).2.1) o.nth o.name o.all_).getD k.toNat 0 ∧ (Turn.pickL (T.box o.second).1.w ((T.box o.second).1.w.has 2 (T.box o.second).2.1) o.nth o.name o.all_).getD k.toNat 0 < 9 := (fun i hi => Land.has_mem (Turn.pickL_mem hi)) _ (Line.getD_memI (xs := (Turn.pickL (T.box o.second).1.w ((T.box o.second).1.w.has 2 (T.box o.second).2.1) o.nth o.name o.all_)) (i := k.toNat) (by omega))
   refine G_skip ?_
   refine GQ_sub (.cons (k := 0) rfl (.cons (k := 44) rfl (.cons (k := 45) rfl (.cons (k := 46) rfl (.nil _))))) ?_
   refine GQ_then ?_
   refine G_seq ?_
   refine G_block ?_
   refine G_seq ?_
   refine G_region ?_
   refine GL_step rfl (PS_idxS is58 (by decide) (Kn.own (.tail _ (.tail _ (.tail _ (.head _))))) rfl rfl (by omega) (by omega)) ?_
   refine GL_step rfl (PS_ldInt rfl tys3 (Kn.own (.tail _ (.tail _ (.tail _ (.head _))))) (by omega)) ?_
   refine GL_step rfl (PS_assign rfl) ?_
   refine GL_nil ?_
   refine GQ_sub (.cons (k := 0) rfl (.cons (k := 8) rfl (.cons (k := 44) rfl (.cons (k := 45) rfl (.cons (k := 46) rfl (.nil _)))))) ?_
   refine GQ_then ?_
   refine G_seq ?_
   refine G_region ?_
   refine GL_step rfl (PS_move rfl) ?_
   refine GL_step rfl (PS_move rfl) ?_
   refine GL_step rfl (PS_nilCheck rfl) ?_
   refine GL_step rfl (PS_fieldAddr fa55_0 rfl) ?_
   refine GL_step rfl (PS_fieldAddr fa34_1 rfl) ?_
   refine GL_step rfl (PS_indexAddr ia29 rfl rfl (by first | omega | exact hb.1 | exact hb.2 | (dsimp only; omega)) (by first | omega | exact hb.1 | exact hb.2 | (dsimp only; omega))) ?_
   refine GL_step rfl (PS_assign rfl) ?_
   refine GL_nil ?_
   refine GQ_sub (.cons (k := 0) rfl (.cons (k := 8) rfl (.cons (k := 9) rfl (.cons (k := 44) rfl (.cons (k := 45) rfl (.cons (k := 46) rfl (.nil _))))))) ?_
   refine GQ_then ?_
   refine G_seq ?_
   refine G_region ?_
   refine GL_step rfl (PS_move rfl) ?_
   refine GL_step rfl (PS_move rfl) ?_
   refine GL_step rfl (PS_move rfl) ?_
   refine GL_step rfl (PS_nilCheck rfl) ?_
   refine GL_step rfl (PS_fieldAddr fa55_1 rfl) ?_
   refine GL_step rfl (PS_load rfl tys3 (.head _) TurnV.l1 rfl rfl) ?_
   refine GL_step rfl (PS_nilCheck rfl) ?_
   refine GL_step rfl (PS_fieldAddr fa28_2 rfl) ?_
   refine GL_unit (PU_store (((TurnV.l0.comp Land.l1).comp (Lens.arr (n := 9) Thing.fl (by first | omega | exact hb.1 | exact hb.2 | (dsimp only; omega)) (by first | omega | exact hb.1 | exact hb.2 | (dsimp only; omega)))).comp Thing.l2) rfl rfl rfl sz3 rfl .head) ?_
   refine GL_step rfl (PS_nilCheck rfl) ?_
   refine GL_step rfl (PS_fieldAddr fa28_3 rfl) ?_
   refine GL_unit (PU_store (((TurnV.l0.comp Land.l1).comp (Lens.arr (n := 9) Thing.fl (by first | omega | exact hb.1 | exact hb.2 | (dsimp only; omega)) (by first | omega | exact hb.1 | exact hb.2 | (dsimp only; omega)))).comp Thing.l3) rfl rfl rfl sz3 rfl .head) ?_
   refine GL_nil ?_
   refine GQ_sub (.cons (k := 0) rfl (.cons (k := 8) rfl (.cons (k := 44) rfl (.cons (k := 45) rfl (.cons (k := 46) rfl (.nil _)))))) ?_
   refine GQ_then ?_
   refine G_swap (fun _ => .head) (congrArg (fun q => TurnV.enc ⟨q, _, _⟩) (Turn.place_eq X hx.1 hx.2 1 X.b)) ?_
   refine G_region ?_
   refine GL_step rfl (PS_move rfl) ?_
   refine GL_step rfl (PS_move rfl) ?_
   refine GL_callL rfl cf43 (.cons rfl (.cons rfl (.cons rfl .nil))) (.cons .head (.cons .head .nil)) (rules_turn_thing_spec _ (X.place ((Turn.pickL (T.box o.second).1.w ((T.box o.second).1.w.has 2 (T.box o.second).2.1) o.nth o.name o.all_).getD k.toNat 0) 1 X.b) _ 3 ((Turn.pickL (T.box o.second).1.w ((T.box o.second).1.w.has 2 (T.box o.second).2.1) o.nth o.name o.all_).getD k.toNat 0) (by assumption) (show 0 ≤ X.b ∧ X.b < 6 by rw [hI14]; exact hb) hx (show X.out.length ≤ 100000 by omega)) (fun v22 B hv => ?_)
   obtain ⟨y23, rfl, y24, rfl⟩ := hv
   refine GL_nil ?_
   refine GQ_sub (.cons (k := 0) rfl (.cons (k := 44) rfl (.cons (k := 45) rfl (.cons (k := 46) rfl (.nil _))))) ?_
   refine GQ_block ?_
   refine GQ_then ?_
   refine G_region ?_
   refine GL_step rfl (PS_add rfl rfl (IntWalk.i64_in _ (by first | omega | exact hb.1 | exact hb.2 | (dsimp only; omega)))) ?_
   refine GL_step rfl (PS_move rfl) ?_
   refine GL_nil ?_
   refine GQ_sub (.cons (k := 0) rfl (.cons (k := 44) rfl (.cons (k := 45) rfl (.cons (k := 46) rfl (.nil _))))) ?_
   refine GQ_next3_ (k + 1) _ _ ?_ ?_ (.cons (k := 46) rfl (.cons (k := 0) rfl (.cons (k := 44) rfl (.cons (k := 45) rfl (.nil _))))) (.refl _)
   · exact ⟨by omega, by omega, by rw [hI13, Turn.takeAll_step hI11 (by omega)], hI14, (by rw [Turn.thing_len]; show ((X.out.length + 1 : Nat) : Int) ≤ _; omega), by assumption, hI17⟩
   · omega
  have c5p := kz c5
  obtain rfl : k = ((Turn.pickL (T.box o.second).1.w ((T.box o.second).1.w.has 2 (T.box o.second).2.1) o.nth o.name o.all_).length : Int) := by omega
  rw [Turn.drop_end] at hI13
  refine G_exit ?_
  refine GQ_then_exit ?_
  refine GQ_then_exit ?_
  refine GQ_block_exit ?_
  refine GQ_end rfl .nil ?_
  intro w1 hS
  have hS := (hS.perm (Pulls.perm (.cons .head (.cons .head .nil)))).headL
  refine ⟨_, ⟨?gq3, rfl, ?hl3, ?hB3⟩, hS⟩
  case hB3 => rw [hI13]; rfl
  case hl3 => rw [hI13]; exact hI16
 have c1p := kz c1
 refine G_skip ?_
 refine GQ_sub (.cons (k := 0) rfl (.cons (k := 3) rfl (.cons (k := 4) rfl (.nil _)))) ?_
 refine GQ_then ?_
 refine G_seq ?_
 refine G_region ?_
 refine GL_step rfl (PS_move rfl) ?_
 refine GL_step rfl (PS_move rfl) ?_
 refine GL_step rfl (PS_fieldAddr fa36_1 rfl) ?_
 refine GL_step rfl (PS_load rfl tys3 (.tail _ (.tail _ (.head _))) Order.l1 rfl rfl) ?_
 refine GL_step rfl (PS_fieldAddr fa36_3 rfl) ?_
 refine GL_step rfl (PS_load rfl tys9 (.tail _ (.tail _ (.head _))) Order.l3 rfl rfl) ?_
 refine GL_step rfl (PS_fieldAddr fa36_2 rfl) ?_
 refine GL_step rfl (PS_load rfl tys4 (.tail _ (.tail _ (.head _))) Order.l2 rfl rfl) ?_
 refine GL_callL rfl cf42 (.cons rfl (.cons rfl (.cons rfl (.cons rfl (.cons rfl .nil))))) (.cons .head (.cons .head .nil)) (rules_turn_pick_spec _ T _ _ T.seen _ _ _ hF (by assumption) (Nat.le_trans T.seen_len (by decide)) (fun i hi => Turn.seen_rng hi)) (fun v25 B hv => ?_)
 obtain ⟨y26, rfl, y27, rfl⟩ := hv
 refine GL_step rfl (PS_assign rfl) ?_
 refine GL_nil ?_
 refine GQ_sub (.cons (k := 0) rfl (.cons (k := 4) rfl (.nil _))) ?_
 refine GQ_then ?_
 refine G_seq ?_
 refine G_seq ?_
 refine G_region ?_
 refine GL_step rfl (PS_move rfl) ?_
 refine GL_step rfl (PS_len_slice rfl Tryd.underlying58 rfl) ?_
 refine GL_step rfl (PS_eql rfl rfl) ?_
 refine GL_nil ?_
 refine GQ_sub (.cons (k := 0) rfl (.cons (k := 4) rfl (.cons (k := 41) rfl (.nil _)))) ?_
 refine GQ_then ?_
 refine G_cond rfl (fun c6 => ?_) (fun c6 => ?_)
 ·
  have c6p := kz c6
  rw [y27] at c6
  refine G_region ?_
  refine GL_step rfl (PS_move rfl) ?_
  refine GL_callL rfl cf32 (.cons rfl (.cons rfl .nil)) (.cons .head (.cons (.tail (.tail (.tail .head))) .nil)) (rules_turn_tell_spec _ T _ _ (by assumption) (by exact hb) (by have := T.box_out o.second; omega)) (fun v29 B hv => ?_)
  obtain ⟨y30, rfl, y31, rfl⟩ := hv
  refine GL_nil ?_
  refine GQ_sub (.cons (k := 0) rfl (.cons (k := 4) rfl (.nil _))) ?_
  refine GQ_then ?_
  refine G_seq ?_
  refine G_region ?_
  refine GL_step rfl (PS_move rfl) ?_
  refine GL_step rfl (PS_len_slice rfl Tryd.underlying58 rfl) ?_
  refine GL_step rfl (PS_move rfl) ?_
  refine GL_nil ?_
  refine GQ_sub (.cons (k := 0) rfl (.cons (k := 44) rfl (.cons (k := 45) rfl (.cons (k := 46) rfl (.nil _))))) ?_
  refine GQ_then ?_
  refine G_block ?_
  refine G_subF (.cons (k := 46) rfl (.cons (k := 0) rfl (.cons (k := 44) rfl (.cons (k := 45) rfl (.nil _))))) ?_
  refine G_pull (.tail .head) ?_
  refine G_pull (.tail .head) ?_
  refine G_loop3_ (fun (k : Int) (X : Turn) (h : Hd) => 0 ≤ k ∧ k ≤ ((Turn.pickL T.w T.seen o.nth o.name o.all_).length : Int) ∧ T.get o = X.takeAll ((Turn.pickL T.w T.seen o.nth o.name o.all_).drop k.toNat) ∧ X.b = T.b ∧ (X.out.length : Int) ≤ T.out.length + 2 + k ∧ h.len = X.out.length ∧ ((Turn.pickL T.w T.seen o.nth o.name o.all_).length : Int) ≤ 9) (fun (k : Int) (X : Turn) (h : Hd) => (((Turn.pickL T.w T.seen o.nth o.name o.all_).length : Int) - k).toNat) (fun (k : Int) (X : Turn) (h : Hd) => [(46, .int .i64 k)]) (fun (k : Int) (X : Turn) (h : Hd) => [Res.box b 55 (TurnV.enc ⟨X.w, X.b, h⟩), Res.own h 48 16 (X.out.flatMap Ing.Event.enc)]) (0) (_) (_) ?_ rfl rfl (fun k X h hI1 => ?_)
  · exact ⟨by omega, by omega, (if_f c1).trans (congrArg (fun q => Turn.takeAll q _) (if_t c6)), rfl, by have := T.box_out o.second; (try simp only [Turn.tell_len]); omega, by assumption, by have := (Turn.pickL_sub T.w T.seen o.nth o.name o.all_).length_le; have := T.seen_len; omega⟩
  obtain ⟨hI11, hI12, hI13, hI14, hI15, hI16, hI17⟩ := hI1
  refine G_seq ?_
  refine G_region ?_
  refine GL_step rfl (PS_lss rfl rfl) ?_
  refine GL_nil ?_
  refine GQ_then ?_
  refine G_seq ?_
  refine G_cond rfl (fun c7 => ?_) (fun c7 => ?_)
  ·
   have c7p := kz c7
   have hx : 0 ≤ (Turn.pickL T.w T.seen o.nth o.name o.all_).getD k.toNat 0 ∧ (Turn.pickL T.w T.seen o.nth o.name o.all_).getD k.toNat 0 < 9 := (fun i hi => Turn.seen_rng (Turn.pickL_mem hi)) _ (Line.getD_memI (xs := (Turn.pickL T.w T.seen o.nth o.name o.all_)) (i := k.toNat) (by omega))
   refine G_skip ?_
   refine GQ_sub (.cons (k := 0) rfl (.cons (k := 44) rfl (.cons (k := 45) rfl (.cons (k := 46) rfl (.nil _))))) ?_
   refine GQ_then ?_
   refine G_seq ?_
   refine G_block ?_
   refine G_seq ?_
   refine G_region ?_
   refine GL_step rfl (PS_idxS is58 (by decide) (Kn.own (.tail _ (.tail _ (.tail _ (.head _))))) rfl rfl (by omega) (by omega)) ?_
   refine GL_step rfl (PS_ldInt rfl tys3 (Kn.own (.tail _ (.tail _ (.tail _ (.head _))))) (by omega)) ?_
   refine GL_step rfl (PS_assign rfl) ?_
   refine GL_nil ?_
   refine GQ_sub (.cons (k := 0) rfl (.cons (k := 8) rfl (.cons (k := 44) rfl (.cons (k := 45) rfl (.cons (k := 46) rfl (.nil _)))))) ?_
   refine GQ_then ?_
   refine G_seq ?_
   refine G_region ?_
   refine GL_step rfl (PS_move rfl) ?_
   refine GL_step rfl (PS_move rfl) ?_
   refine GL_step rfl (PS_nilCheck rfl) ?_
   refine GL_step rfl (PS_fieldAddr fa55_0 rfl) ?_
   refine GL_step rfl (PS_fieldAddr fa34_1 rfl) ?_
   refine GL_step rfl (PS_indexAddr ia29 rfl rfl (by first | omega | exact hb.1 | exact hb.2 | (dsimp only; omega)) (by first | omega | exact hb.1 | exact hb.2 | (dsimp only; omega))) ?_
   refine GL_step rfl (PS_assign rfl) ?_
   refine GL_nil ?_
   refine GQ_sub (.cons (k := 0) rfl (.cons (k := 8) rfl (.cons (k := 9) rfl (.cons (k := 44) rfl (.cons (k := 45) rfl (.cons (k := 46) rfl (.nil _))))))) ?_
   refine GQ_then ?_
   refine G_seq ?_
   refine G_region ?_
   refine GL_step rfl (PS_move rfl) ?_
   refine GL_step rfl (PS_move rfl) ?_
   refine GL_step rfl (PS_move rfl) ?_
   refine GL_step rfl (PS_nilCheck rfl) ?_
   refine GL_step rfl (PS_fieldAddr fa55_1 rfl) ?_
   refine GL_step rfl (PS_load rfl tys3 (.head _) TurnV.l1 rfl rfl) ?_
   refine GL_step rfl (PS_nilCheck rfl) ?_
   refine GL_step rfl (PS_fieldAddr fa28_2 rfl) ?_
   refine GL_unit (PU_store (((TurnV.l0.comp Land.l1).comp (Lens.arr (n := 9) Thing.fl (by first | omega | exact hb.1 | exact hb.2 | (dsimp only; omega)) (by first | omega | exact hb.1 | exact hb.2 | (dsimp only; omega)))).comp Thing.l2) rfl rfl rfl sz3 rfl .head) ?_
   refine GL_step rfl (PS_nilCheck rfl) ?_
   refine GL_step rfl (PS_fieldAddr fa28_3 rfl) ?_
   refine GL_unit (PU_store (((TurnV.l0.comp Land.l1).comp (Lens.arr (n := 9) Thing.fl (by first | omega | exact hb.1 | exact hb.2 | (dsimp only; omega)) (by first | omega | exact hb.1 | exact hb.2 | (dsimp only; omega)))).comp Thing.l3) rfl rfl rfl sz3 rfl .head) ?_
   refine GL_nil ?_
   refine GQ_sub (.cons (k := 0) rfl (.cons (k := 8) rfl (.cons (k := 44) rfl (.cons (k := 45) rfl (.cons (k := 46) rfl (.nil _)))))) ?_
   refine GQ_then ?_
   refine G_swap (fun _ => .head) (congrArg (fun q => TurnV.enc ⟨q, _, _⟩) (Turn.place_eq X hx.1 hx.2 1 X.b)) ?_
   refine G_region ?_
   refine GL_step rfl (PS_move rfl) ?_
   refine GL_step rfl (PS_move rfl) ?_
   refine GL_callL rfl cf43 (.cons rfl (.cons rfl (.cons rfl .nil))) (.cons .head (.cons .head .nil)) (rules_turn_thing_spec _ (X.place ((Turn.pickL T.w T.seen o.nth o.name o.all_).getD k.toNat 0) 1 X.b) _ 3 ((Turn.pickL T.w T.seen o.nth o.name o.all_).getD k.toNat 0) (by assumption) (show 0 ≤ X.b ∧ X.b < 6 by rw [hI14]; exact hb) hx (show X.out.length ≤ 100000 by omega)) (fun v32 B hv => ?_)
   obtain ⟨y33, rfl, y34, rfl⟩ := hv
   refine GL_nil ?_
   refine GQ_sub (.cons (k := 0) rfl (.cons (k := 44) rfl (.cons (k := 45) rfl (.cons (k := 46) rfl (.nil _))))) ?_
   refine GQ_block ?_
   refine GQ_then ?_
   refine G_region ?_
   refine GL_step rfl (PS_add rfl rfl (IntWalk.i64_in _ (by first | omega | exact hb.1 | exact hb.2 | (dsimp only; omega)))) ?_
   refine GL_step rfl (PS_move rfl) ?_
   refine GL_nil ?_
   refine GQ_sub (.cons (k := 0) rfl (.cons (k := 44) rfl (.cons (k := 45) rfl (.cons (k := 46) rfl (.nil _))))) ?_
   refine GQ_next3_ (k + 1) _ _ ?_ ?_ (.cons (k := 46) rfl (.cons (k := 0) rfl (.cons (k := 44) rfl (.cons (k := 45) rfl (.nil _))))) (.refl _)
   · exact ⟨by omega, by omega, by rw [hI13, Turn.takeAll_step hI11 (by omega)], hI14, (by rw [Turn.thing_len]; show ((X.out.length + 1 : Nat) : Int) ≤ _; omega), by assumption, hI17⟩
   · omega
  have c7p := kz c7
  obtain rfl : k = ((Turn.pickL T.w T.seen o.nth o.name o.all_).length : Int) := by omega
  rw [Turn.drop_end] at hI13
  refine G_exit ?_
  refine GQ_then_exit ?_
  refine GQ_then_exit ?_
  refine GQ_block_exit ?_
  refine GQ_end rfl .nil ?_
  intro w1 hS
  have hS := (hS.perm (Pulls.perm (.cons .head (.cons .head .nil)))).headL
  refine ⟨_, ⟨?gq4, rfl, ?hl4, ?hB4⟩, hS⟩
  case hB4 => rw [hI13]; rfl
  case hl4 => rw [hI13]; exact hI16
 have c6p := kz c6
 rw [y27] at c6
 refine G_skip ?_
 refine GQ_sub (.cons (k := 0) rfl (.cons (k := 4) rfl (.nil _))) ?_
 refine GQ_then ?_
 refine G_seq ?_
 refine G_region ?_
 refine GL_step rfl (PS_move rfl) ?_
 refine GL_step rfl (PS_len_slice rfl Tryd.underlying58 rfl) ?_
 refine GL_step rfl (PS_move rfl) ?_
 refine GL_nil ?_
 refine GQ_sub (.cons (k := 0) rfl (.cons (k := 44) rfl (.cons (k := 45) rfl (.cons (k := 46) rfl (.nil _))))) ?_
 refine GQ_then ?_
 refine G_block ?_
 refine G_subF (.cons (k := 46) rfl (.cons (k := 0) rfl (.cons (k := 44) rfl (.cons (k := 45) rfl (.nil _))))) ?_
 refine G_pull (.tail (.tail (.tail (.tail .head)))) ?_
 refine G_pull (.tail .head) ?_
 refine G_loop3_ (fun (k : Int) (X : Turn) (h : Hd) => 0 ≤ k ∧ k ≤ ((Turn.pickL T.w T.seen o.nth o.name o.all_).length : Int) ∧ T.get o = X.takeAll ((Turn.pickL T.w T.seen o.nth o.name o.all_).drop k.toNat) ∧ X.b = T.b ∧ (X.out.length : Int) ≤ T.out.length + 2 + k ∧ h.len = X.out.length ∧ ((Turn.pickL T.w T.seen o.nth o.name o.all_).length : Int) ≤ 9) (fun (k : Int) (X : Turn) (h : Hd) => (((Turn.pickL T.w T.seen o.nth o.name o.all_).length : Int) - k).toNat) (fun (k : Int) (X : Turn) (h : Hd) => [(46, .int .i64 k)]) (fun (k : Int) (X : Turn) (h : Hd) => [Res.box b 55 (TurnV.enc ⟨X.w, X.b, h⟩), Res.own h 48 16 (X.out.flatMap Ing.Event.enc)]) (0) (_) (_) ?_ rfl rfl (fun k X h hI1 => ?_)
 · exact ⟨by omega, by omega, (if_f c1).trans (congrArg (fun q => Turn.takeAll q _) (if_f c6)), rfl, by have := T.box_out o.second; (try simp only [Turn.tell_len]); omega, by assumption, by have := (Turn.pickL_sub T.w T.seen o.nth o.name o.all_).length_le; have := T.seen_len; omega⟩
 obtain ⟨hI11, hI12, hI13, hI14, hI15, hI16, hI17⟩ := hI1
 refine G_seq ?_
 refine G_region ?_
 refine GL_step rfl (PS_lss rfl rfl) ?_
 refine GL_nil ?_
 refine GQ_then ?_
 refine G_seq ?_
 refine G_cond rfl (fun c8 => ?_) (fun c8 => ?_)
 ·
  have c8p := kz c8
  have hx : 0 ≤ (Turn.pickL T.w T.seen o.nth o.name o.all_).getD k.toNat 0 ∧ (Turn.pickL T.w T.seen o.nth o.name o.all_).getD k.toNat 0 < 9 := (fun i hi => Turn.seen_rng (Turn.pickL_mem hi)) _ (Line.getD_memI (xs := (Turn.pickL T.w T.seen o.nth o.name o.all_)) (i := k.toNat) (by omega))
  refine G_skip ?_
  refine GQ_sub (.cons (k := 0) rfl (.cons (k := 44) rfl (.cons (k := 45) rfl (.cons (k := 46) rfl (.nil _))))) ?_
  refine GQ_then ?_
  refine G_seq ?_
  refine G_block ?_
  refine G_seq ?_
  refine G_region ?_
  refine GL_step rfl (PS_idxS is58 (by decide) (Kn.own (.tail _ (.tail _ (.tail _ (.head _))))) rfl rfl (by omega) (by omega)) ?_
  refine GL_step rfl (PS_ldInt rfl tys3 (Kn.own (.tail _ (.tail _ (.tail _ (.head _))))) (by omega)) ?_
  refine GL_step rfl (PS_assign rfl) ?_
  refine GL_nil ?_
  refine GQ_sub (.cons (k := 0) rfl (.cons (k := 8) rfl (.cons (k := 44) rfl (.cons (k := 45) rfl (.cons (k := 46) rfl (.nil _)))))) ?_
  refine GQ_then ?_
  refine G_seq ?_
  refine G_region ?_
  refine GL_step rfl (PS_move rfl) ?_
  refine GL_step rfl (PS_move rfl) ?_
  refine GL_step rfl (PS_nilCheck rfl) ?_
  refine GL_step rfl (PS_fieldAddr fa55_0 rfl) ?_
  refine GL_step rfl (PS_fieldAddr fa34_1 rfl) ?_
  refine GL_step rfl (PS_indexAddr ia29 rfl rfl (by first | omega | exact hb.1 | exact hb.2 | (dsimp only; omega)) (by first | omega | exact hb.1 | exact hb.2 | (dsimp only; omega))) ?_
  refine GL_step rfl (PS_assign rfl) ?_
  refine GL_nil ?_
  refine GQ_sub (.cons (k := 0) rfl (.cons (k := 8) rfl (.cons (k := 9) rfl (.cons (k := 44) rfl (.cons (k := 45) rfl (.cons (k := 46) rfl (.nil _))))))) ?_
  refine GQ_then ?_
  refine G_seq ?_
  refine G_region ?_
  refine GL_step rfl (PS_move rfl) ?_
  refine GL_step rfl (PS_move rfl) ?_
  refine GL_step rfl (PS_move rfl) ?_
  refine GL_step rfl (PS_nilCheck rfl) ?_
  refine GL_step rfl (PS_fieldAddr fa55_1 rfl) ?_
  refine GL_step rfl (PS_load rfl tys3 (.head _) TurnV.l1 rfl rfl) ?_
  refine GL_step rfl (PS_nilCheck rfl) ?_
  refine GL_step rfl (PS_fieldAddr fa28_2 rfl) ?_
  refine GL_unit (PU_store (((TurnV.l0.comp Land.l1).comp (Lens.arr (n := 9) Thing.fl (by first | omega | exact hb.1 | exact hb.2 | (dsimp only; omega)) (by first | omega | exact hb.1 | exact hb.2 | (dsimp only; omega)))).comp Thing.l2) rfl rfl rfl sz3 rfl .head) ?_
  refine GL_step rfl (PS_nilCheck rfl) ?_
  refine GL_step rfl (PS_fieldAddr fa28_3 rfl) ?_
  refine GL_unit (PU_store (((TurnV.l0.comp Land.l1).comp (Lens.arr (n := 9) Thing.fl (by first | omega | exact hb.1 | exact hb.2 | (dsimp only; omega)) (by first | omega | exact hb.1 | exact hb.2 | (dsimp only; omega)))).comp Thing.l3) rfl rfl rfl sz3 rfl .head) ?_
  refine GL_nil ?_
  refine GQ_sub (.cons (k := 0) rfl (.cons (k := 8) rfl (.cons (k := 44) rfl (.cons (k := 45) rfl (.cons (k := 46) rfl (.nil _)))))) ?_
  refine GQ_then ?_
  refine G_swap (fun _ => .head) (congrArg (fun q => TurnV.enc ⟨q, _, _⟩) (Turn.place_eq X hx.1 hx.2 1 X.b)) ?_
  refine G_region ?_
  refine GL_step rfl (PS_move rfl) ?_
  refine GL_step rfl (PS_move rfl) ?_
  refine GL_callL rfl cf43 (.cons rfl (.cons rfl (.cons rfl .nil))) (.cons .head (.cons .head .nil)) (rules_turn_thing_spec _ (X.place ((Turn.pickL T.w T.seen o.nth o.name o.all_).getD k.toNat 0) 1 X.b) _ 3 ((Turn.pickL T.w T.seen o.nth o.name o.all_).getD k.toNat 0) (by assumption) (show 0 ≤ X.b ∧ X.b < 6 by rw [hI14]; exact hb) hx (show X.out.length ≤ 100000 by omega)) (fun v35 B hv => ?_)
  obtain ⟨y36, rfl, y37, rfl⟩ := hv
  refine GL_nil ?_
  refine GQ_sub (.cons (k := 0) rfl (.cons (k := 44) rfl (.cons (k := 45) rfl (.cons (k := 46) rfl (.nil _))))) ?_
  refine GQ_block ?_
  refine GQ_then ?_
  refine G_region ?_
  refine GL_step rfl (PS_add rfl rfl (IntWalk.i64_in _ (by first | omega | exact hb.1 | exact hb.2 | (dsimp only; omega)))) ?_
  refine GL_step rfl (PS_move rfl) ?_
  refine GL_nil ?_
  refine GQ_sub (.cons (k := 0) rfl (.cons (k := 44) rfl (.cons (k := 45) rfl (.cons (k := 46) rfl (.nil _))))) ?_
  refine GQ_next3_ (k + 1) _ _ ?_ ?_ (.cons (k := 46) rfl (.cons (k := 0) rfl (.cons (k := 44) rfl (.cons (k := 45) rfl (.nil _))))) (.refl _)
  · exact ⟨by omega, by omega, by rw [hI13, Turn.takeAll_step hI11 (by omega)], hI14, (by rw [Turn.thing_len]; show ((X.out.length + 1 : Nat) : Int) ≤ _; omega), by assumption, hI17⟩
  · omega
 have c8p := kz c8
 obtain rfl : k = ((Turn.pickL T.w T.seen o.nth o.name o.all_).length : Int) := by omega
 rw [Turn.drop_end] at hI13
 refine G_exit ?_
 refine GQ_then_exit ?_
 refine GQ_then_exit ?_
 refine GQ_block_exit ?_
 refine GQ_end rfl .nil ?_
 intro w1 hS
 have hS := (hS.perm (Pulls.perm (.cons .head (.cons .head .nil)))).headL
 refine ⟨_, ⟨?gq5, rfl, ?hl5, ?hB5⟩, hS⟩
 case hB5 => rw [hI13]; rfl
 case hl5 => rw [hI13]; exact hI16
theorem land_Inside_spec (X : Land) (i box : Int) (w : World) : Ret Tryd.prog 45 #[.agg X.enc.toArray, .int .i64 i, .int .i64 box] w fun v w' => v = .bool (X.isIn i box) ∧ Keep w w' := by
 refine Ret_body [] [] Tryd.func45 rfl rfl rfl (St.start w []) ?_
 refine G_seq ?_
 refine G_region ?_
 refine GL_box rfl rfl rfl (fun b1 => ?_)
 refine GL_step rfl (PS_assign rfl) ?_
 refine GL_nil ?_
 refine GQ_sub (.cons (k := 1) rfl (.cons (k := 2) rfl (.cons (k := 3) rfl (.nil _)))) ?_
 refine GQ_then ?_
 refine G_seq ?_
 refine G_seq ?_
 refine G_region ?_
 refine GL_step rfl (PS_move rfl) ?_
 refine GL_nil ?_
 refine GQ_then ?_
 refine G_block ?_
 refine G_subF (.cons (k := 1) rfl (.cons (k := 7) rfl (.cons (k := 2) rfl (.cons (k := 3) rfl (.nil _))))) ?_
 refine G_loop2_ (fun (k : Int) (j : Int) => 0 ≤ k ∧ k ≤ 10 ∧ X.isIn i box = X.inside box (10 - k).toNat j) (fun (k : Int) (j : Int) => (10 - k).toNat) (fun (k : Int) (j : Int) => [(1, .int .i64 j), (7, .int .i64 k)]) (fun (k : Int) (j : Int) => []) (0) (i) ?_ rfl rfl (fun k j hI1 => ?_)
 · exact ⟨Int.le_refl _, by omega, rfl⟩
 obtain ⟨hI11, hI12, hI13⟩ := hI1
 refine G_seq ?_
 refine G_region ?_
 refine GL_step rfl (PS_lss rfl rfl) ?_
 refine GL_nil ?_
 refine GQ_then ?_
 refine G_seq ?_
 refine G_cond rfl (fun c1 => ?_) (fun c1 => ?_)
 ·
  have c1p := kz c1
  rw [show (10 - k).toNat = (10 - (k + 1)).toNat + 1 from by omega, Land.inside] at hI13
  refine G_skip ?_
  refine GQ_sub (.cons (k := 1) rfl (.cons (k := 2) rfl (.cons (k := 3) rfl (.cons (k := 7) rfl (.nil _))))) ?_
  refine GQ_then ?_
  refine G_seq ?_
  refine G_block ?_
  refine G_seq ?_
  refine G_seq ?_
  refine G_region ?_
  refine GL_step rfl (PS_move rfl) ?_
  refine GL_step rfl (PS_move rfl) ?_
  refine GL_step rfl (PS_eql rfl rfl) ?_
  refine GL_nil ?_
  refine GQ_sub (.cons (k := 1) rfl (.cons (k := 2) rfl (.cons (k := 3) rfl (.cons (k := 7) rfl (.cons (k := 11) rfl (.nil _)))))) ?_
  refine GQ_then ?_
  refine G_cond rfl (fun c2 => ?_) (fun c2 => ?_)
  ·
   have c2p := kz c2
   refine G_seq ?_
   refine G_region ?_
   refine GL_step rfl (PS_assign rfl) ?_
   refine GL_nil ?_
   refine GQ_sub (.cons (k := 6) rfl (.nil _)) ?_
   refine GQ_then ?_
   refine G_ret ?_
   refine GQ_then_ret ?_
   refine GQ_block_ret ?_
   refine GQ_then_ret ?_
   refine GQ_then_ret ?_
   refine GQ_block_ret ?_
   refine GQ_then_ret ?_
   refine GQ_ret rfl (.tmp rfl .nil) ?_
   intro w1 hS; refine ⟨congrArg Value.bool ?_, hS.toKeep⟩; rw [hI13]; simp only [c1, c2, ↓reduceIte, Bool.false_eq_true]
  have c2p := kz c2
  refine G_skip ?_
  refine GQ_sub (.cons (k := 1) rfl (.cons (k := 2) rfl (.cons (k := 3) rfl (.cons (k := 7) rfl (.nil _))))) ?_
  refine GQ_then ?_
  refine G_seq ?_
  refine G_seq ?_
  refine G_region ?_
  refine GL_step rfl (PS_move rfl) ?_
  refine GL_step rfl (PS_lss rfl rfl) ?_
  refine GL_step rfl (PS_move rfl) ?_
  refine GL_gf (t := 14) rfl rfl rfl (fun q => PS_move rfl) ?_
  refine GL_gf (t := 14) rfl rfl rfl (fun q => PS_geq (cvE rfl (by rw [q]; rfl)) rfl) ?_
  refine GL_step rfl (PS_or rfl rfl (fun h => by rw [h]; rfl)) ?_
  refine GL_step rfl (PS_move rfl) ?_
  refine GL_gf (t := 18) rfl rfl rfl (fun q => PS_move rfl) ?_
  refine GL_gf (t := 18) rfl rfl rfl (fun q => PS_fieldAddr fa34_1 rfl) ?_
  refine GL_gf (t := 18) rfl rfl rfl (fun q => by have q1 := q; (try simp at q1); exact PS_indexAddr ia29 (cvE rfl (by rw [q]; rfl)) (cvE rfl (by rw [q]; rfl)) (by omega) (by omega)) ?_
  refine GL_gf (t := 18) rfl rfl rfl (fun q => PS_fieldAddr fa28_2 (cvE rfl (by rw [q]; rfl))) ?_
  refine GL_gf (t := 18) rfl rfl rfl (fun q => by have q1 := q; (try simp at q1); exact PS_load (cvE rfl (by rw [q]; rfl)) tys3 (.head _) ((Land.l1.comp (Lens.arr (n := 9) Thing.fl (by omega) (by omega))).comp Thing.l2) rfl rfl) ?_
  refine GL_gf (t := 18) rfl rfl rfl (fun q => PS_neq (cvE rfl (by rw [q]; rfl)) rfl) ?_
  refine GL_step rfl (PS_or rfl rfl (fun h => by rw [h]; rfl)) ?_
  refine GL_nil ?_
  refine GQ_sub (.cons (k := 1) rfl (.cons (k := 2) rfl (.cons (k := 3) rfl (.cons (k := 7) rfl (.cons (k := 25) rfl (.nil _)))))) ?_
  refine GQ_then ?_
  refine G_cond rfl (fun c3 => ?_) (fun c3 => ?_)
  ·
   have c3p := kz c3
   refine G_seq ?_
   refine G_region ?_
   refine GL_step rfl (PS_assign rfl) ?_
   refine GL_nil ?_
   refine GQ_sub (.cons (k := 6) rfl (.nil _)) ?_
   refine GQ_then ?_
   refine G_ret ?_
   refine GQ_then_ret ?_
   refine GQ_block_ret ?_
   refine GQ_then_ret ?_
   refine GQ_then_ret ?_
   refine GQ_block_ret ?_
   refine GQ_then_ret ?_
   refine GQ_ret rfl (.tmp rfl .nil) ?_
   intro w1 hS; refine ⟨congrArg Value.bool ?_, hS.toKeep⟩; rw [hI13]; simp only [c1, c2, c3, ↓reduceIte, Bool.false_eq_true]
  have c3p := kz c3
  have h9 : 0 ≤ j ∧ j < 9 := by simp at c3; omega
  refine G_skip ?_
  refine GQ_sub (.cons (k := 1) rfl (.cons (k := 2) rfl (.cons (k := 3) rfl (.cons (k := 7) rfl (.nil _))))) ?_
  refine GQ_then ?_
  refine G_region ?_
  refine GL_step rfl (PS_move rfl) ?_
  refine GL_step rfl (PS_fieldAddr fa34_1 rfl) ?_
  refine GL_step rfl (PS_indexAddr ia29 rfl rfl (by omega) (by omega)) ?_
  refine GL_step rfl (PS_fieldAddr fa28_3 rfl) ?_
  refine GL_step rfl (PS_load rfl tys3 (.head _) ((Land.l1.comp (Lens.arr (n := 9) Thing.fl (by omega) (by omega))).comp Thing.l3) rfl rfl) ?_
  refine GL_step rfl (PS_assign rfl) ?_
  refine GL_nil ?_
  refine GQ_sub (.cons (k := 1) rfl (.cons (k := 2) rfl (.cons (k := 3) rfl (.cons (k := 7) rfl (.nil _))))) ?_
  refine GQ_block ?_
  refine GQ_then ?_
  refine G_region ?_
  refine GL_step rfl (PS_add rfl rfl (IntWalk.i64_in _ (by omega))) ?_
  refine GL_step rfl (PS_move rfl) ?_
  refine GL_nil ?_
  refine GQ_sub (.cons (k := 1) rfl (.cons (k := 2) rfl (.cons (k := 3) rfl (.cons (k := 7) rfl (.nil _))))) ?_
  refine GQ_next2_ (k + 1) ((X.things.at j).at_) ?_ ?_ (.cons (k := 1) rfl (.cons (k := 7) rfl (.cons (k := 2) rfl (.cons (k := 3) rfl (.nil _))))) (.refl _)
  · exact ⟨by omega, by omega, by rw [hI13]; simp only [c1, c2, c3, ↓reduceIte, Bool.false_eq_true]⟩
  · omega
 have c1p := kz c1
 obtain rfl : k = 10 := by omega
 refine G_exit ?_
 refine GQ_then_exit ?_
 refine GQ_then_exit ?_
 refine GQ_block_exit ?_
 refine GQ_sub (.nil _) ?_
 refine GQ_then ?_
 refine G_seq ?_
 refine G_region ?_
 refine GL_step rfl (PS_assign rfl) ?_
 refine GL_nil ?_
 refine GQ_then ?_
 refine G_ret ?_
 refine GQ_ret rfl (.tmp rfl .nil) ?_
 intro w1 hS; refine ⟨congrArg Value.bool ?_, hS.toKeep⟩; rw [hI13]; rfl
end Go.Proofs.YthaobbemigbcgaaDoor
