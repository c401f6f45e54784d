/- What the functions that the law RulesFights reaches compute: walks, part 3. No condition. -/
import Derived.Test.YthaobbemigbcgaaGreatDoorCards
import Derived.Test.YthaobbemigbcgaaGreatDoorTie
import Derived.Deep.DeepHandedRow
import Derived.Test.YthaobbemigbcgaaGreatDoorRows
import Derived.Test.YthaobbemigbcgaaGreatDoorRulesFightsEc3
import Derived.Test.YthaobbemigbcgaaGreatDoorRulesFightsRa1
import Derived.Test.YthaobbemigbcgaaGreatDoorRulesFightsRb1
import Derived.Test.YthaobbemigbcgaaGreatDoorRulesFightsWalks
import Derived.Test.YthaobbemigbcgaaGreatDoorRulesFightsWalks2
set_option linter.unusedSimpArgs false
set_option linter.unusedVariables false
set_option maxRecDepth 100000
set_option maxHeartbeats 1000000
namespace Go.Proofs.YthaobbemigbcgaaGreatDoor
open Go Go.Ing Go.RowKit Go.ChangeShapes Go.WideShapes Go.ChangeAt
theorem ref_turn_look_spec (b : Nat) (T : Turn) (g : Hd) (hg : g.len = T.out.length) (hF : T.Fit) (hn : T.out.length ≤ 90000) : CtrR Tryz.prog 21 #[.pointer (some ⟨b, 0, none⟩)] [Res.box b 57 (TurnV.enc ⟨T.w, T.b, g⟩), Res.own g 60 16 (T.out.flatMap Ing.Event.enc)] (fun w => (GV 0 Land.verbsV w ∧ 0 ∉ feet [Res.box b 57 (TurnV.enc ⟨T.w, T.b, g⟩), Res.own g 60 16 (T.out.flatMap Ing.Event.enc)])) (fun v B => ∃ g' : Hd, v = .tuple #[] ∧ g'.len = (T.look).out.length ∧ B = [Res.box b 57 (TurnV.enc ⟨(T.look).w, (T.look).b, g'⟩), Res.own g' 60 16 ((T.look).out.flatMap Ing.Event.enc)]) := by
 intro w hS0 hH
 obtain ⟨gl0, gm0⟩ := hH
 have hb := hF.b
 have hr := hF.room
 have hw := hF.br
 refine Ret_body _ _ Tryz.func21 rfl rfl rfl (hS0) ?_
 refine G_seq ?_
 refine G_seq ?_
 refine G_planN (N := 8) [0, 1, 3, 7, 0, 16, 63, 127] mix (by kernel_rfl) rfl ?_
 refine Plan_float 0 rfl rfl (by kernel_rfl) (OK_s (EX_s (PS_move rfl))) ?_
 refine Plan_float 1 rfl rfl (by kernel_rfl) (OK_s (EX_s (PS_nilCheck rfl))) ?_
 refine Plan_float 2 rfl rfl (by kernel_rfl) (OK_s (EX_s (PS_fieldAddr fa57_0 rfl))) ?_
 refine Plan_float 3 rfl rfl (by kernel_rfl) (OK_s (EX_s (PS_loadA rfl tya34 (.head _) TurnV.l0 rfl))) ?_
 refine Plan_float 4 rfl rfl (by kernel_rfl) (OK_s (EX_s (PS_move rfl))) ?_
 refine Plan_chain 5 rfl (by kernel_rfl) ?_
 refine GL_callL rfl cf51 (.cons rfl .nil) (.cons .head .nil) (ref_turn_here_spec _ T _ hF) (fun v1 B hv => ?_)
 obtain ⟨rfl, rfl⟩ := hv
 refine GL_hand rfl ⟨?_, ?_⟩
 · exact (Pend_skip (by kernel_rfl) (Pend_okv rfl (OK_s (EX_s (PS_loadA rfl tya34 (.head _) TurnV.l0 rfl))) rfl rfl (Pend_okv rfl (OK_s (EX_s (PS_fieldAddr fa57_0 rfl))) rfl rfl (Pend_okv rfl (OK_s (EX_s (PS_nilCheck rfl))) rfl rfl (Pend_okv rfl (OK_s (EX_s (PS_move rfl))) rfl rfl Pend_nil)))))
 refine Plan_float 6 rfl rfl (by kernel_rfl) (OK_s (EX_c (PC_of cf50 (.cons rfl (.cons rfl .nil)) (fun w hS => ref_IsBright_spec _ _ w)))) ?_
 refine Plan_float 7 rfl rfl (by kernel_rfl) (OK_s (EX_s (PS_not rfl))) ?_
 refine Plan_end (by kernel_rfl) ?_
 refine GQ_sub (.cons (k := 0) rfl (.cons (k := 14) rfl (.nil _))) ?_
 refine GQ_then ?_
 refine G_cond rfl (fun c1 => ?_) (fun c1 => ?_)
 ·
  have c1p := kz c1
  try dsimp only at c1p
  refine G_seq ?_
  refine G_region ?_
  refine GL_step rfl (PS_move rfl) ?_
  refine GL_callL rfl cf39 (.cons rfl (.cons rfl .nil)) (.cons .head (.cons .head .nil)) (ref_turn_tell_spec _ T _ _ hg hb (by omega)) (fun v2 B hv => ?_)
  obtain ⟨y3, rfl, y4, rfl⟩ := hv
  refine GL_nil ?_
  refine GQ_sub (.nil _) ?_
  refine GQ_then ?_
  refine G_ret ?_
  refine GQ_then_ret ?_
  refine GQ_ret rfl .nil ?_
  intro w1 hS
  have hS := (hS.perm (Pulls.perm (.cons .head (.cons .head .nil)))).headL
  refine ⟨_, ⟨?gq1, rfl, ?hl1, ?hB1⟩, hS⟩
  case hB1 => rw [show T.look = _ from if_t c1]; rfl
  case hl1 => rw [show T.look = _ from if_t c1]; assumption
 have c1p := kz c1
 try dsimp only at c1p
 have hsee := Turn.seen_bright (T := T) c1
 have hnr := hw.ro (T.w.beings.at T.b).room
 refine G_skip ?_
 refine GQ_sub (.cons (k := 0) rfl (.nil _)) ?_
 refine GQ_then ?_
 refine G_seq ?_
 refine G_planN (N := 10) [0, 0, 2, 1, 9, 25, 63, 127, 0, 511] mix (by kernel_rfl) rfl ?_
 refine Plan_float 0 rfl rfl (by kernel_rfl) (OK_s (EX_s (PS_move rfl))) ?_
 refine Plan_float 1 rfl rfl (by kernel_rfl) (OK_s (EX_s (PS_move rfl))) ?_
 refine Plan_float 3 rfl rfl (by kernel_rfl) (OK_s (EX_s (PS_nilCheck rfl))) ?_
 refine Plan_float 4 rfl rfl (by kernel_rfl) (OK_s (EX_s (PS_fieldAddr fa57_0 rfl))) ?_
 refine Plan_float 5 rfl rfl (by kernel_rfl) (OK_s (EX_s (PS_fieldAddr fa34_0 rfl))) ?_
 refine Plan_two 2 8 rfl rfl (by kernel_rfl) ?_ ?_
 ·
  refine GL_callL rfl cf51 (.cons rfl .nil) (.cons .head .nil) (ref_turn_here_spec _ T _ hF) (fun v5 B hv => ?_)
  obtain ⟨rfl, rfl⟩ := hv
  refine GL_hand rfl ⟨?_, ?_⟩
  · exact (Pend_okv rfl (OK_s (EX_s (PS_fieldAddr fa34_0 rfl))) rfl rfl (Pend_okv rfl (OK_s (EX_s (PS_fieldAddr fa57_0 rfl))) rfl rfl (Pend_okv rfl (OK_s (EX_s (PS_nilCheck rfl))) rfl rfl (Pend_skip (by kernel_rfl) (Pend_okv rfl (OK_s (EX_s (PS_move rfl))) rfl rfl Pend_nil)))))
  refine Plan_float 6 rfl rfl (by kernel_rfl) (OK_s (EX_s (PS_indexAddr ia26 rfl rfl (by first | omega | exact hb.1 | exact hb.2 | exact hr.1 | exact hr.2 | (dsimp only; omega) | (simp only [List.length_append, List.length_cons, List.length_nil]; omega) | ((try dsimp only at *); (try simp only [List.length_append, List.length_cons, List.length_nil]); omega)) (by first | omega | exact hb.1 | exact hb.2 | exact hr.1 | exact hr.2 | (dsimp only; omega) | (simp only [List.length_append, List.length_cons, List.length_nil]; omega) | ((try dsimp only at *); (try simp only [List.length_append, List.length_cons, List.length_nil]); omega))))) ?_
  refine Plan_float 7 rfl rfl (by kernel_rfl) (OK_s (EX_s (PS_loadA rfl tya25 (.head _) ((TurnV.l0.comp Land.l0).comp (Lens.arr (n := 6) Room.fl (by first | omega | exact hb.1 | exact hb.2 | exact hr.1 | exact hr.2 | (dsimp only; omega) | (simp only [List.length_append, List.length_cons, List.length_nil]; omega) | ((try dsimp only at *); (try simp only [List.length_append, List.length_cons, List.length_nil]); omega)) (by first | omega | exact hb.1 | exact hb.2 | exact hr.1 | exact hr.2 | (dsimp only; omega) | (simp only [List.length_append, List.length_cons, List.length_nil]; omega) | ((try dsimp only at *); (try simp only [List.length_append, List.length_cons, List.length_nil]); omega)))) rfl))) ?_
  refine Plan_chain 8 rfl (by kernel_rfl) ?_
  refine GL_alloc rfl zv25 rfl (fun b1 => ?_)
  refine GL_hand rfl ⟨?_, ?_⟩
  · exact (Pend_okv rfl (OK_s (EX_s (PS_loadA rfl tya25 (.tail _ (.head _)) ((TurnV.l0.comp Land.l0).comp (Lens.arr (n := 6) Room.fl (by first | omega | exact hb.1 | exact hb.2 | exact hr.1 | exact hr.2 | (dsimp only; omega) | (simp only [List.length_append, List.length_cons, List.length_nil]; omega) | ((try dsimp only at *); (try simp only [List.length_append, List.length_cons, List.length_nil]); omega)) (by first | omega | exact hb.1 | exact hb.2 | exact hr.1 | exact hr.2 | (dsimp only; omega) | (simp only [List.length_append, List.length_cons, List.length_nil]; omega) | ((try dsimp only at *); (try simp only [List.length_append, List.length_cons, List.length_nil]); omega)))) rfl))) rfl rfl (Pend_okv rfl (OK_s (EX_s (PS_indexAddr ia26 rfl rfl (by first | omega | exact hb.1 | exact hb.2 | exact hr.1 | exact hr.2 | (dsimp only; omega) | (simp only [List.length_append, List.length_cons, List.length_nil]; omega) | ((try dsimp only at *); (try simp only [List.length_append, List.length_cons, List.length_nil]); omega)) (by first | omega | exact hb.1 | exact hb.2 | exact hr.1 | exact hr.2 | (dsimp only; omega) | (simp only [List.length_append, List.length_cons, List.length_nil]; omega) | ((try dsimp only at *); (try simp only [List.length_append, List.length_cons, List.length_nil]); omega))))) rfl rfl (Pend_okv rfl (OK_s (EX_s (PS_fieldAddr fa34_0 rfl))) rfl rfl (Pend_okv rfl (OK_s (EX_s (PS_fieldAddr fa57_0 rfl))) rfl rfl (Pend_okv rfl (OK_s (EX_s (PS_nilCheck rfl))) rfl rfl (Pend_okv rfl (OK_s (EX_s (PS_move rfl))) rfl rfl (Pend_okv rfl (OK_s (EX_s (PS_move rfl))) rfl rfl Pend_nil)))))))
  refine Plan_chain 9 rfl (by kernel_rfl) ?_
  refine GL_unit (PU_store (Lens.id Room.fl.len Room.fl.one) rfl rfl rfl sz25 rfl .head) ?_
  refine GL_hand0 rfl ⟨?_, ?_⟩
  · exact (Pend_skip (by kernel_rfl) (Pend_skip (by kernel_rfl) (Pend_skip (by kernel_rfl) (Pend_skip (by kernel_rfl) (Pend_skip (by kernel_rfl) (Pend_skip (by kernel_rfl) (Pend_skip (by kernel_rfl) Pend_nil)))))))
  refine Plan_end (by kernel_rfl) ?_
  refine GQ_sub (.cons (k := 0) rfl (.cons (k := 2) rfl (.nil _))) ?_
  refine GQ_then ?_
  refine G_seq ?_
  refine G_region ?_
  refine GL_step rfl (PS_assign rfl) ?_
  refine GL_nil ?_
  refine GQ_then ?_
  refine G_seq ?_
  refine G_seq ?_
  refine G_region ?_
  refine GL_step rfl (PS_move rfl) ?_
  refine GL_nil ?_
  refine GQ_then ?_
  refine G_block ?_
  refine G_subF (.cons (k := 3) rfl (.cons (k := 25) rfl (.cons (k := 0) rfl (.cons (k := 2) rfl (.nil _))))) ?_
  refine G_loop2_ (fun (k : Int) (x : Str) => 0 ≤ k ∧ k ≤ 6 ∧ x = Turn.waysK (T.w.rooms.at T.me.room) k.toNat) (fun (k : Int) (x : Str) => (6 - k).toNat) (fun (k : Int) (x : Str) => [(3, vstr x), (25, .int .i64 k)]) (fun (k : Int) (x : Str) => []) (0) (_) ?_ rfl rfl (fun k x hI1 => ?_)
  · exact ⟨by omega, by omega, rfl⟩
  obtain ⟨hI11, hI12, hI13⟩ := hI1
  refine G_seq ?_
  refine G_region ?_
  refine GL_step rfl (PS_lss rfl rfl) ?_
  refine GL_nil ?_
  refine GQ_then ?_
  refine G_seq ?_
  refine G_cond rfl (fun c2 => ?_) (fun c2 => ?_)
  ·
   have c2p := kz c2
   try dsimp only at c2p
   have hxd := (hF.exit hI11 (show k < 6 by omega))
   have hst := Turn.waysK_step (r := T.w.rooms.at T.me.room) hI11
   have hwl := Turn.waysK_len (T.w.rooms.at T.me.room) k.toNat
   rw [← hI13] at hwl
   have hcl := Land.called_len k
   have hck := Land.calledT (d := k) (by rw [Bool.and_eq_true]; exact ⟨decide_eq_true hI11, decide_eq_true (by omega)⟩)
   rw [hck] at hcl hst
   refine G_skip ?_
   refine GQ_sub (.cons (k := 0) rfl (.cons (k := 2) rfl (.cons (k := 3) rfl (.cons (k := 25) rfl (.nil _))))) ?_
   refine GQ_then ?_
   refine G_seq ?_
   refine G_block ?_
   refine G_seq ?_
   refine G_region ?_
   refine GL_step rfl (PS_move rfl) ?_
   refine GL_step rfl (PS_assign rfl) ?_
   refine GL_nil ?_
   refine GQ_sub (.cons (k := 0) rfl (.cons (k := 2) rfl (.cons (k := 3) rfl (.cons (k := 4) rfl (.cons (k := 25) rfl (.nil _)))))) ?_
   refine GQ_then ?_
   refine G_seq ?_
   refine G_region ?_
   refine GL_step rfl (PS_move rfl) ?_
   refine GL_step rfl (PS_fieldAddr fa25_2 rfl) ?_
   refine GL_step rfl (PS_indexAddr ia22 rfl rfl (by first | omega | exact hb.1 | exact hb.2 | exact hr.1 | exact hr.2 | (dsimp only; omega) | (simp only [List.length_append, List.length_cons, List.length_nil]; omega) | ((try dsimp only at *); (try simp only [List.length_append, List.length_cons, List.length_nil]); omega)) (by first | omega | exact hb.1 | exact hb.2 | exact hr.1 | exact hr.2 | (dsimp only; omega) | (simp only [List.length_append, List.length_cons, List.length_nil]; omega) | ((try dsimp only at *); (try simp only [List.length_append, List.length_cons, List.length_nil]); omega))) ?_
   refine GL_step rfl (PS_load rfl tys3 (.head _) (Room.l2.comp (Lens.arr (n := 6) flI (by first | omega | exact hb.1 | exact hb.2 | exact hr.1 | exact hr.2 | (dsimp only; omega) | (simp only [List.length_append, List.length_cons, List.length_nil]; omega) | ((try dsimp only at *); (try simp only [List.length_append, List.length_cons, List.length_nil]); omega)) (by first | omega | exact hb.1 | exact hb.2 | exact hr.1 | exact hr.2 | (dsimp only; omega) | (simp only [List.length_append, List.length_cons, List.length_nil]; omega) | ((try dsimp only at *); (try simp only [List.length_append, List.length_cons, List.length_nil]); omega)))) rfl rfl) ?_
   refine GL_step rfl (PS_gtr rfl rfl) ?_
   refine GL_nil ?_
   refine GQ_sub (.cons (k := 0) rfl (.cons (k := 2) rfl (.cons (k := 3) rfl (.cons (k := 4) rfl (.cons (k := 25) rfl (.cons (k := 32) rfl (.nil _))))))) ?_
   refine GQ_then ?_
   refine G_cond rfl (fun c3 => ?_) (fun c3 => ?_)
   ·
    have c3p := kz c3
    try dsimp only at c3p
    have cp3 : decide ((T.w.rooms.at T.me.room).exits.at k = 0) = false := decide_eq_false (by have := c3p; first | exact this | (show ¬ (T.w.rooms.at (T.w.beings.at T.b).room).exits.at k = 0; omega))
    rw [if_f cp3] at hst
    refine G_seq ?_
    refine G_region ?_
    refine GL_step rfl (PS_move rfl) ?_
    refine GL_step rfl (PS_move rfl) ?_
    refine GL_step rfl (PS_indexAddr ia80 rfl rfl (by first | omega | exact hb.1 | exact hb.2 | exact hr.1 | exact hr.2 | (dsimp only; omega) | (simp only [List.length_append, List.length_cons, List.length_nil]; omega) | ((try dsimp only at *); (try simp only [List.length_append, List.length_cons, List.length_nil]); omega)) (by first | omega | exact hb.1 | exact hb.2 | exact hr.1 | exact hr.2 | (dsimp only; omega) | (simp only [List.length_append, List.length_cons, List.length_nil]; omega) | ((try dsimp only at *); (try simp only [List.length_append, List.length_cons, List.length_nil]); omega))) ?_
    refine GL_step rfl (PS_ldGVM gl0 gm0 rfl tys9 (Land.verbs_at hI11 (by omega))) ?_
    refine GL_step rfl (PS_add_str rfl rfl (by first | omega | exact hb.1 | exact hb.2 | exact hr.1 | exact hr.2 | (dsimp only; omega) | (simp only [List.length_append, List.length_cons, List.length_nil]; omega) | ((try dsimp only at *); (try simp only [List.length_append, List.length_cons, List.length_nil]); omega))) ?_
    refine GL_step rfl (PS_add_str rfl rfl (by first | omega | exact hb.1 | exact hb.2 | exact hr.1 | exact hr.2 | (dsimp only; omega) | (simp only [List.length_append, List.length_cons, List.length_nil]; omega) | ((try dsimp only at *); (try simp only [List.length_append, List.length_cons, List.length_nil]); omega))) ?_
    refine GL_step rfl (PS_assign rfl) ?_
    refine GL_nil ?_
    refine GQ_sub (.cons (k := 0) rfl (.cons (k := 2) rfl (.cons (k := 3) rfl (.cons (k := 4) rfl (.cons (k := 25) rfl (.nil _)))))) ?_
    refine GQ_then ?_
    refine G_seq ?_
    refine G_region ?_
    refine GL_step rfl (PS_move rfl) ?_
    refine GL_step rfl (PS_fieldAddr fa25_3 rfl) ?_
    refine GL_step rfl (PS_indexAddr ia23 rfl rfl (by first | omega | exact hb.1 | exact hb.2 | exact hr.1 | exact hr.2 | (dsimp only; omega) | (simp only [List.length_append, List.length_cons, List.length_nil]; omega) | ((try dsimp only at *); (try simp only [List.length_append, List.length_cons, List.length_nil]); omega)) (by first | omega | exact hb.1 | exact hb.2 | exact hr.1 | exact hr.2 | (dsimp only; omega) | (simp only [List.length_append, List.length_cons, List.length_nil]; omega) | ((try dsimp only at *); (try simp only [List.length_append, List.length_cons, List.length_nil]); omega))) ?_
    refine GL_step rfl (PS_load rfl tys4 (.head _) (Room.l3.comp (Lens.arr (n := 6) flB (by first | omega | exact hb.1 | exact hb.2 | exact hr.1 | exact hr.2 | (dsimp only; omega) | (simp only [List.length_append, List.length_cons, List.length_nil]; omega) | ((try dsimp only at *); (try simp only [List.length_append, List.length_cons, List.length_nil]); omega)) (by first | omega | exact hb.1 | exact hb.2 | exact hr.1 | exact hr.2 | (dsimp only; omega) | (simp only [List.length_append, List.length_cons, List.length_nil]; omega) | ((try dsimp only at *); (try simp only [List.length_append, List.length_cons, List.length_nil]); omega)))) rfl rfl) ?_
    refine GL_nil ?_
    refine GQ_sub (.cons (k := 0) rfl (.cons (k := 2) rfl (.cons (k := 3) rfl (.cons (k := 25) rfl (.cons (k := 42) rfl (.nil _)))))) ?_
    refine GQ_then ?_
    refine G_cond rfl (fun c4 => ?_) (fun c4 => ?_)
    ·
     have c4p := kz c4
     try dsimp only at c4p
     have cp4 : (T.w.rooms.at T.me.room).shut.at k = true := c4
     rw [if_t cp4] at hst
     refine G_region ?_
     refine GL_step rfl (PS_move rfl) ?_
     refine GL_step rfl (PS_add_str rfl rfl (by first | omega | exact hb.1 | exact hb.2 | exact hr.1 | exact hr.2 | (dsimp only; omega) | (simp only [List.length_append, List.length_cons, List.length_nil]; omega) | ((try dsimp only at *); (try simp only [List.length_append, List.length_cons, List.length_nil]); omega))) ?_
     refine GL_step rfl (PS_assign rfl) ?_
     refine GL_nil ?_
     refine GQ_sub (.cons (k := 0) rfl (.cons (k := 2) rfl (.cons (k := 3) rfl (.cons (k := 25) rfl (.nil _))))) ?_
     refine GQ_block ?_
     refine GQ_then ?_
     refine G_region ?_
     refine GL_step rfl (PS_add rfl rfl (IntWalk.i64_in _ (by first | omega | exact hb.1 | exact hb.2 | exact hr.1 | exact hr.2 | (dsimp only; omega) | (simp only [List.length_append, List.length_cons, List.length_nil]; omega) | ((try dsimp only at *); (try simp only [List.length_append, List.length_cons, List.length_nil]); omega)))) ?_
     refine GL_step rfl (PS_move rfl) ?_
     refine GL_nil ?_
     refine GQ_sub (.cons (k := 0) rfl (.cons (k := 2) rfl (.cons (k := 3) rfl (.cons (k := 25) rfl (.nil _))))) ?_
     refine GQ_next2_ (k + 1) _ ?_ ?_ (.cons (k := 3) rfl (.cons (k := 25) rfl (.cons (k := 0) rfl (.cons (k := 2) rfl (.nil _))))) (.refl _)
     · exact ⟨by omega, by omega, by rw [hst, ← hI13]⟩
     · omega
    have c4p := kz c4
    try dsimp only at c4p
    have cp4 : (T.w.rooms.at T.me.room).shut.at k = false := c4
    rw [if_f cp4] at hst
    refine G_skip ?_
    refine GQ_sub (.cons (k := 0) rfl (.cons (k := 2) rfl (.cons (k := 3) rfl (.cons (k := 25) rfl (.nil _))))) ?_
    refine GQ_block ?_
    refine GQ_then ?_
    refine G_region ?_
    refine GL_step rfl (PS_add rfl rfl (IntWalk.i64_in _ (by first | omega | exact hb.1 | exact hb.2 | exact hr.1 | exact hr.2 | (dsimp only; omega) | (simp only [List.length_append, List.length_cons, List.length_nil]; omega) | ((try dsimp only at *); (try simp only [List.length_append, List.length_cons, List.length_nil]); omega)))) ?_
    refine GL_step rfl (PS_move rfl) ?_
    refine GL_nil ?_
    refine GQ_sub (.cons (k := 0) rfl (.cons (k := 2) rfl (.cons (k := 3) rfl (.cons (k := 25) rfl (.nil _))))) ?_
    refine GQ_next2_ (k + 1) _ ?_ ?_ (.cons (k := 3) rfl (.cons (k := 25) rfl (.cons (k := 0) rfl (.cons (k := 2) rfl (.nil _))))) (.refl _)
    · exact ⟨by omega, by omega, by rw [hst, ← hI13]⟩
    · omega
   have c3p := kz c3
   try dsimp only at c3p
   have cp3 : decide ((T.w.rooms.at T.me.room).exits.at k = 0) = true := decide_eq_true (by have := c3p; first | exact this | (show  (T.w.rooms.at (T.w.beings.at T.b).room).exits.at k = 0; omega))
   rw [if_t cp3] at hst
   refine G_skip ?_
   refine GQ_sub (.cons (k := 0) rfl (.cons (k := 2) rfl (.cons (k := 3) rfl (.cons (k := 25) rfl (.nil _))))) ?_
   refine GQ_block ?_
   refine GQ_then ?_
   refine G_region ?_
   refine GL_step rfl (PS_add rfl rfl (IntWalk.i64_in _ (by first | omega | exact hb.1 | exact hb.2 | exact hr.1 | exact hr.2 | (dsimp only; omega) | (simp only [List.length_append, List.length_cons, List.length_nil]; omega) | ((try dsimp only at *); (try simp only [List.length_append, List.length_cons, List.length_nil]); omega)))) ?_
   refine GL_step rfl (PS_move rfl) ?_
   refine GL_nil ?_
   refine GQ_sub (.cons (k := 0) rfl (.cons (k := 2) rfl (.cons (k := 3) rfl (.cons (k := 25) rfl (.nil _))))) ?_
   refine GQ_next2_ (k + 1) _ ?_ ?_ (.cons (k := 3) rfl (.cons (k := 25) rfl (.cons (k := 0) rfl (.cons (k := 2) rfl (.nil _))))) (.refl _)
   · exact ⟨by omega, by omega, by rw [hst, ← hI13]⟩
   · omega
  have c2p := kz c2
  try dsimp only at c2p
  obtain rfl : k = 6 := by omega
  subst hI13
  have hwl := Turn.waysK_len (T.w.rooms.at T.me.room) 6
  refine G_exit ?_
  refine GQ_then_exit ?_
  refine GQ_then_exit ?_
  refine GQ_block_exit ?_
  refine GQ_sub (.cons (k := 0) rfl (.cons (k := 2) rfl (.cons (k := 3) rfl (.nil _)))) ?_
  refine GQ_then ?_
  refine G_seq ?_
  refine G_region ?_
  refine GL_step rfl (PS_move rfl) ?_
  refine GL_step rfl (PS_fieldAddr fa25_0 rfl) ?_
  refine GL_step rfl (PS_load rfl tys9 (.head _) Room.l0 rfl rfl) ?_
  refine GL_step rfl (PS_add_str rfl rfl (by first | omega | exact hb.1 | exact hb.2 | exact hr.1 | exact hr.2 | (dsimp only; omega) | (simp only [List.length_append, List.length_cons, List.length_nil]; omega) | ((try dsimp only at *); (try simp only [List.length_append, List.length_cons, List.length_nil]); omega))) ?_
  refine GL_step rfl (PS_add_str rfl rfl (by first | omega | exact hb.1 | exact hb.2 | exact hr.1 | exact hr.2 | (dsimp only; omega) | (simp only [List.length_append, List.length_cons, List.length_nil]; omega) | ((try dsimp only at *); (try simp only [List.length_append, List.length_cons, List.length_nil]); omega))) ?_
  refine GL_callL rfl cf39 (.cons rfl (.cons rfl .nil)) (.cons (.tail .head) (.cons (.tail .head) .nil)) (ref_turn_tell_spec _ T _ _ hg hb (by omega)) (fun v6 B hv => ?_)
  obtain ⟨y7, rfl, y8, rfl⟩ := hv
  refine GL_nil ?_
  refine GQ_sub (.cons (k := 0) rfl (.cons (k := 3) rfl (.nil _))) ?_
  refine GQ_then ?_
  refine G_seq ?_
  refine G_region ?_
  refine GL_step rfl (PS_move rfl) ?_
  refine GL_step rfl (PS_move rfl) ?_
  refine GL_callL rfl cf39 (.cons rfl (.cons rfl .nil)) (.cons .head (.cons .head .nil)) (ref_turn_tell_spec _ (T.tell ([84, 104, 101, 32] ++ (T.w.rooms.at T.me.room).name ++ [46])) _ (Turn.waysK (T.w.rooms.at T.me.room) 6) (by assumption) hb (by simp only [Turn.tell_len]; omega)) (fun v9 B hv => ?_)
  obtain ⟨y10, rfl, y11, rfl⟩ := hv
  refine GL_nil ?_
  refine GQ_sub (.cons (k := 0) rfl (.nil _)) ?_
  refine GQ_then ?_
  refine G_seq ?_
  refine G_seq ?_
  refine G_region ?_
  refine GL_step rfl (PS_move rfl) ?_
  refine GL_callL rfl cf52 (.cons rfl .nil) (.cons .head .nil) (ref_turn_inSight_spec _ T.lookA _ (hF.of_w rfl rfl)) (fun v12 B hv => ?_)
  obtain ⟨y13, rfl, y14, rfl⟩ := hv
  refine GL_step rfl (PS_assign rfl) ?_
  refine GL_nil ?_
  refine GQ_sub (.cons (k := 0) rfl (.cons (k := 5) rfl (.nil _))) ?_
  refine GQ_then ?_
  refine G_seq ?_
  refine G_region ?_
  refine GL_step rfl (PS_move rfl) ?_
  refine GL_step rfl (PS_len_slice rfl Tryz.underlying66 rfl) ?_
  refine GL_step rfl (PS_gtr rfl rfl) ?_
  refine GL_nil ?_
  refine GQ_sub (.cons (k := 0) rfl (.cons (k := 5) rfl (.cons (k := 59) rfl (.nil _)))) ?_
  refine GQ_then ?_
  refine G_cond rfl (fun c5 => ?_) (fun c5 => ?_)
  ·
   have c5p := kz c5
   try dsimp only at c5p
   have hnm : (Turn.namedR T.lookA.w T.seen).length ≤ 1266637395161115 := Turn.namedR_len hw T.seen_len
   refine G_region ?_
   refine GL_step rfl (PS_move rfl) ?_
   refine GL_step rfl (PS_move rfl) ?_
   refine GL_step rfl (PS_move rfl) ?_
   refine GL_callL rfl cf40 (.cons rfl (.cons rfl .nil)) (.cons .head (.cons .head .nil)) (ref_turn_named_spec _ T.lookA _ _ T.seen (hF.of_w rfl rfl) (by assumption) T.seen_len (fun i hi => Turn.seen_rng hi)) (fun v16 B hv => ?_)
   obtain ⟨rfl, rfl⟩ := hv
   refine GL_step rfl (PS_add_str rfl rfl (by first | omega | exact hb.1 | exact hb.2 | exact hr.1 | exact hr.2 | (dsimp only; omega) | (simp only [List.length_append, List.length_cons, List.length_nil]; omega) | ((try dsimp only at *); (try simp only [List.length_append, List.length_cons, List.length_nil]); omega))) ?_
   refine GL_callL rfl cf39 (.cons rfl (.cons rfl .nil)) (.cons .head (.cons (.tail .head) .nil)) (ref_turn_tell_spec _ T.lookA _ ([72, 101, 114, 101, 32, 105, 115] ++ Turn.namedR T.w T.seen) (by assumption) hb (by rw [(Turn.lookA_w T).2.2]; omega)) (fun v17 B hv => ?_)
   obtain ⟨y18, rfl, y19, rfl⟩ := hv
   refine GL_nil ?_
   refine GQ_sub (.cons (k := 0) rfl (.nil _)) ?_
   refine GQ_then ?_
   refine G_seq ?_
   refine G_region ?_
   refine GL_step rfl (PS_move rfl) ?_
   refine GL_nil ?_
   refine GQ_then ?_
   refine G_block ?_
   refine G_subF (.cons (k := 66) rfl (.cons (k := 0) rfl (.nil _))) ?_
   refine G_pull (.tail .head) ?_
   refine G_pull (.tail .head) ?_
   refine G_loop3_ (fun (k : Int) (X : Turn) (h : Hd) => 0 ≤ k ∧ k ≤ 6 ∧ X = T.lookB.hereK k.toNat ∧ h.len = X.out.length) (fun (k : Int) (X : Turn) (h : Hd) => (6 - k).toNat) (fun (k : Int) (X : Turn) (h : Hd) => [(66, .int .i64 k)]) (fun (k : Int) (X : Turn) (h : Hd) => [Res.box b 57 (TurnV.enc ⟨X.w, X.b, h⟩), Res.own h 60 16 (X.out.flatMap Ing.Event.enc)]) (0) (_) (_) ?_ rfl rfl (fun k X h hI2 => ?_)
   · have hyl : y13.len = T.seen.length := y14
     have hlb : T.lookB = T.lookA.list [72, 101, 114, 101, 32, 105, 115] (T.w.has 0 T.me.room) := if_pos (show decide (0 < ((T.w.has 0 T.me.room).length : Int)) = true by rw [← hsee, ← hyl]; exact c5)
     rw [← hsee, ← Turn.named_list] at hlb
     exact ⟨by omega, by omega, hlb.symm, by assumption⟩
   obtain ⟨hI21, hI22, hI23, hI24⟩ := hI2
   refine G_seq ?_
   refine G_region ?_
   refine GL_step rfl (PS_lss rfl rfl) ?_
   refine GL_nil ?_
   refine GQ_then ?_
   refine G_seq ?_
   refine G_cond rfl (fun c6 => ?_) (fun c6 => ?_)
   ·
    have c6p := kz c6
    try dsimp only at c6p
    have hnb := hw.be k
    have hXl := Turn.hereK_w T.lookB k.toNat
    have hBl := Turn.lookB_w T
    rw [← hI23] at hXl
    have hXw : X.w = T.w := hXl.1.trans hBl.1
    have hXb : X.b = T.b := hXl.2.1.trans hBl.2.1
    rw [← hXw] at hnb
    refine G_skip ?_
    refine GQ_sub (.cons (k := 0) rfl (.cons (k := 66) rfl (.nil _))) ?_
    refine GQ_then ?_
    refine G_seq ?_
    refine G_block ?_
    refine G_seq ?_
    refine G_region ?_
    refine GL_step rfl (PS_move rfl) ?_
    refine GL_step rfl (PS_assign rfl) ?_
    refine GL_nil ?_
    refine GQ_sub (.cons (k := 0) rfl (.cons (k := 6) rfl (.cons (k := 66) rfl (.nil _)))) ?_
    refine GQ_then ?_
    refine G_seq ?_
    refine G_planN (N := 18) [0, 0, 2, 6, 14, 31, 63, 127, 255, 511, 1023, 127, 2175, 6271, 14463, 127, 65535, 131071] mix (by kernel_rfl) rfl ?_
    refine Plan_float 0 rfl rfl (by kernel_rfl) (OK_s (EX_s (PS_move rfl))) ?_
    refine Plan_float 1 rfl rfl (by kernel_rfl) (OK_s (EX_s (PS_move rfl))) ?_
    refine Plan_float 2 rfl rfl (by kernel_rfl) (OK_s (EX_s (PS_nilCheck rfl))) ?_
    refine Plan_float 3 rfl rfl (by kernel_rfl) (OK_s (EX_s (PS_fieldAddr fa57_1 rfl))) ?_
    refine Plan_float 4 rfl rfl (by kernel_rfl) (OK_s (EX_s (PS_load rfl tys3 (.head _) TurnV.l1 rfl rfl))) ?_
    refine Plan_float 5 rfl rfl (by kernel_rfl) (OK_s (EX_s (PS_neq rfl rfl))) ?_
    refine Plan_float 6 rfl rfl (by kernel_rfl) (OK_s (EX_s (PS_move rfl))) ?_
    refine Plan_float 7 rfl rfl (by kernel_rfl) (OK_gt (t := 75) rfl rfl (fun q => EX_s (PS_move rfl))) ?_
    refine Plan_float 8 rfl rfl (by kernel_rfl) (OK_gt (t := 75) rfl rfl (fun q => EX_s (PS_nilCheck (cvE rfl q)))) ?_
    refine Plan_float 9 rfl rfl (by kernel_rfl) (OK_gt (t := 75) rfl rfl (fun q => EX_s (PS_fieldAddr fa57_0 (cvE rfl q)))) ?_
    refine Plan_float 10 rfl rfl (by kernel_rfl) (OK_gt (t := 75) rfl rfl (fun q => EX_s (PS_loadA (cvE rfl q) tya34 (.head _) TurnV.l0 rfl))) ?_
    refine Plan_float 11 rfl rfl (by kernel_rfl) (OK_gt (t := 75) rfl rfl (fun q => EX_s (PS_move rfl))) ?_
    refine Plan_float 12 rfl rfl (by kernel_rfl) (OK_gt (t := 75) rfl rfl (fun q => EX_s (PS_nilCheck (cvE rfl q)))) ?_
    refine Plan_float 13 rfl rfl (by kernel_rfl) (OK_gt (t := 75) rfl rfl (fun q => EX_s (PS_fieldAddr fa57_1 (cvE rfl q)))) ?_
    refine Plan_float 14 rfl rfl (by kernel_rfl) (OK_gt (t := 75) rfl rfl (fun q => EX_s (PS_load (cvE rfl q) tys3 (.head _) TurnV.l1 rfl rfl))) ?_
    refine Plan_float 15 rfl rfl (by kernel_rfl) (OK_gt (t := 75) rfl rfl (fun q => EX_s (PS_move rfl))) ?_
    refine Plan_float 16 rfl rfl (by kernel_rfl) (OK_gt (t := 75) rfl rfl (fun q => EX_c (PC_of cf53 (.cons (cvE rfl q) (.cons (cvE rfl q) (.cons (cvE rfl q) .nil))) (fun w hS => ref_IsSeen_spec _ _ _ w)))) ?_
    refine Plan_float 17 rfl rfl (by kernel_rfl) (OK_s (EX_s (PS_and rfl rfl (fun h => h)))) ?_
    refine Plan_end (by kernel_rfl) ?_
    refine GQ_sub (.cons (k := 0) rfl (.cons (k := 6) rfl (.cons (k := 66) rfl (.cons (k := 86) rfl (.nil _))))) ?_
    refine GQ_then ?_
    refine G_cond rfl (fun c7 => ?_) (fun c7 => ?_)
    ·
     have c7p := kz c7
     try dsimp only at c7p
     have cp7 : (!decide (k = T.lookB.b) && T.lookB.w.sees T.lookB.b k) = true := by rw [hBl.1, hBl.2.1, ← hXw, ← hXb]; exact c7
     refine G_region ?_
     refine GL_step rfl (PS_move rfl) ?_
     refine GL_step rfl (PS_move rfl) ?_
     refine GL_step rfl (PS_move rfl) ?_
     refine GL_step rfl (PS_nilCheck rfl) ?_
     refine GL_step rfl (PS_fieldAddr fa57_0 rfl) ?_
     refine GL_step rfl (PS_fieldAddr fa34_2 rfl) ?_
     refine GL_step rfl (PS_indexAddr ia32 rfl rfl (by first | omega | exact hb.1 | exact hb.2 | exact hr.1 | exact hr.2 | (dsimp only; omega) | (simp only [List.length_append, List.length_cons, List.length_nil]; omega) | ((try dsimp only at *); (try simp only [List.length_append, List.length_cons, List.length_nil]); omega)) (by first | omega | exact hb.1 | exact hb.2 | exact hr.1 | exact hr.2 | (dsimp only; omega) | (simp only [List.length_append, List.length_cons, List.length_nil]; omega) | ((try dsimp only at *); (try simp only [List.length_append, List.length_cons, List.length_nil]); omega))) ?_
     refine GL_step rfl (PS_fieldAddr fa31_0 rfl) ?_
     refine GL_step rfl (PS_load rfl tys9 (.head _) (((TurnV.l0.comp Land.l2).comp (Lens.arr (n := 6) Being.fl (by first | omega | exact hb.1 | exact hb.2 | exact hr.1 | exact hr.2 | (dsimp only; omega) | (simp only [List.length_append, List.length_cons, List.length_nil]; omega) | ((try dsimp only at *); (try simp only [List.length_append, List.length_cons, List.length_nil]); omega)) (by first | omega | exact hb.1 | exact hb.2 | exact hr.1 | exact hr.2 | (dsimp only; omega) | (simp only [List.length_append, List.length_cons, List.length_nil]; omega) | ((try dsimp only at *); (try simp only [List.length_append, List.length_cons, List.length_nil]); omega)))).comp Being.l0) rfl rfl) ?_
     refine GL_step rfl (PS_add_str rfl rfl (by first | omega | exact hb.1 | exact hb.2 | exact hr.1 | exact hr.2 | (dsimp only; omega) | (simp only [List.length_append, List.length_cons, List.length_nil]; omega) | ((try dsimp only at *); (try simp only [List.length_append, List.length_cons, List.length_nil]); omega))) ?_
     refine GL_callL rfl cf39 (.cons rfl (.cons rfl .nil)) (.cons .head (.cons .head .nil)) (ref_turn_tell_spec _ X _ _ (by assumption) (by rw [hXb]; exact hb) (by have := hXl.2.2; have := hBl.2.2; omega)) (fun v20 B hv => ?_)
     obtain ⟨y21, rfl, y22, rfl⟩ := hv
     refine GL_nil ?_
     refine GQ_sub (.cons (k := 0) rfl (.cons (k := 66) rfl (.nil _))) ?_
     refine GQ_block ?_
     refine GQ_then ?_
     refine G_region ?_
     refine GL_step rfl (PS_add rfl rfl (IntWalk.i64_in _ (by first | omega | exact hb.1 | exact hb.2 | exact hr.1 | exact hr.2 | (dsimp only; omega) | (simp only [List.length_append, List.length_cons, List.length_nil]; omega) | ((try dsimp only at *); (try simp only [List.length_append, List.length_cons, List.length_nil]); omega)))) ?_
     refine GL_step rfl (PS_move rfl) ?_
     refine GL_nil ?_
     refine GQ_sub (.cons (k := 0) rfl (.cons (k := 66) rfl (.nil _))) ?_
     refine GQ_next3_ (k + 1) _ _ ?_ ?_ (.cons (k := 66) rfl (.cons (k := 0) rfl (.nil _))) (.refl _)
     · exact ⟨by omega, by omega, by rw [Turn.hereK_step hI21, if_t cp7, ← hI23, hBl.1, ← hXw], by assumption⟩
     · omega
    have c7p := kz c7
    try dsimp only at c7p
    have cp7 : (!decide (k = T.lookB.b) && T.lookB.w.sees T.lookB.b k) = false := by rw [hBl.1, hBl.2.1, ← hXw, ← hXb]; exact c7
    refine G_skip ?_
    refine GQ_sub (.cons (k := 0) rfl (.cons (k := 66) rfl (.nil _))) ?_
    refine GQ_block ?_
    refine GQ_then ?_
    refine G_region ?_
    refine GL_step rfl (PS_add rfl rfl (IntWalk.i64_in _ (by first | omega | exact hb.1 | exact hb.2 | exact hr.1 | exact hr.2 | (dsimp only; omega) | (simp only [List.length_append, List.length_cons, List.length_nil]; omega) | ((try dsimp only at *); (try simp only [List.length_append, List.length_cons, List.length_nil]); omega)))) ?_
    refine GL_step rfl (PS_move rfl) ?_
    refine GL_nil ?_
    refine GQ_sub (.cons (k := 0) rfl (.cons (k := 66) rfl (.nil _))) ?_
    refine GQ_next3_ (k + 1) _ _ ?_ ?_ (.cons (k := 66) rfl (.cons (k := 0) rfl (.nil _))) (.refl _)
    · exact ⟨by omega, by omega, by rw [Turn.hereK_step hI21, if_f cp7, ← hI23], by assumption⟩
    · omega
   have c6p := kz c6
   try dsimp only at c6p
   obtain rfl : k = 6 := by omega
   refine G_exit ?_
   refine GQ_then_exit ?_
   refine GQ_then_exit ?_
   refine GQ_block_exit ?_
   refine GQ_end rfl .nil ?_
   intro w1 hS
   have hS := (hS.perm (Pulls.perm (.cons .head (.cons .head .nil)))).headL
   have hq : T.look = X := (show T.look = _ from if_f c1).trans hI23.symm
   refine ⟨_, ⟨?gqc6, rfl, ?hlc6, ?hBc6⟩, hS⟩
   case hBc6 => rw [hq]
   case hlc6 => rw [hq]; assumption
  have c5p := kz c5
  try dsimp only at c5p
  refine G_skip ?_
  refine GQ_sub (.cons (k := 0) rfl (.nil _)) ?_
  refine GQ_then ?_
  refine G_seq ?_
  refine G_region ?_
  refine GL_step rfl (PS_move rfl) ?_
  refine GL_nil ?_
  refine GQ_then ?_
  refine G_block ?_
  refine G_subF (.cons (k := 66) rfl (.cons (k := 0) rfl (.nil _))) ?_
  refine G_pull (.tail (.tail .head)) ?_
  refine G_pull (.tail .head) ?_
  refine G_loop3_ (fun (k : Int) (X : Turn) (h : Hd) => 0 ≤ k ∧ k ≤ 6 ∧ X = T.lookB.hereK k.toNat ∧ h.len = X.out.length) (fun (k : Int) (X : Turn) (h : Hd) => (6 - k).toNat) (fun (k : Int) (X : Turn) (h : Hd) => [(66, .int .i64 k)]) (fun (k : Int) (X : Turn) (h : Hd) => [Res.box b 57 (TurnV.enc ⟨X.w, X.b, h⟩), Res.own h 60 16 (X.out.flatMap Ing.Event.enc)]) (0) (_) (_) ?_ rfl rfl (fun k X h hI2 => ?_)
  · have hyl : y13.len = T.seen.length := y14
    have hlb : T.lookB = T.lookA := if_neg (show ¬ decide (0 < ((T.w.has 0 T.me.room).length : Int)) = true by rw [← hsee, ← hyl]; rw [c5]; decide)
    exact ⟨by omega, by omega, hlb.symm, by assumption⟩
  obtain ⟨hI21, hI22, hI23, hI24⟩ := hI2
  refine G_seq ?_
  refine G_region ?_
  refine GL_step rfl (PS_lss rfl rfl) ?_
  refine GL_nil ?_
  refine GQ_then ?_
  refine G_seq ?_
  refine G_cond rfl (fun c8 => ?_) (fun c8 => ?_)
  ·
   have c8p := kz c8
   try dsimp only at c8p
   have hnb := hw.be k
   have hXl := Turn.hereK_w T.lookB k.toNat
   have hBl := Turn.lookB_w T
   rw [← hI23] at hXl
   have hXw : X.w = T.w := hXl.1.trans hBl.1
   have hXb : X.b = T.b := hXl.2.1.trans hBl.2.1
   rw [← hXw] at hnb
   refine G_skip ?_
   refine GQ_sub (.cons (k := 0) rfl (.cons (k := 66) rfl (.nil _))) ?_
   refine GQ_then ?_
   refine G_seq ?_
   refine G_block ?_
   refine G_seq ?_
   refine G_region ?_
   refine GL_step rfl (PS_move rfl) ?_
   refine GL_step rfl (PS_assign rfl) ?_
   refine GL_nil ?_
   refine GQ_sub (.cons (k := 0) rfl (.cons (k := 6) rfl (.cons (k := 66) rfl (.nil _)))) ?_
   refine GQ_then ?_
   refine G_seq ?_
   refine G_planN (N := 18) [0, 0, 2, 6, 14, 31, 63, 127, 255, 511, 1023, 127, 2175, 6271, 14463, 127, 65535, 131071] mix (by kernel_rfl) rfl ?_
   refine Plan_float 0 rfl rfl (by kernel_rfl) (OK_s (EX_s (PS_move rfl))) ?_
   refine Plan_float 1 rfl rfl (by kernel_rfl) (OK_s (EX_s (PS_move rfl))) ?_
   refine Plan_float 2 rfl rfl (by kernel_rfl) (OK_s (EX_s (PS_nilCheck rfl))) ?_
   refine Plan_float 3 rfl rfl (by kernel_rfl) (OK_s (EX_s (PS_fieldAddr fa57_1 rfl))) ?_
   refine Plan_float 4 rfl rfl (by kernel_rfl) (OK_s (EX_s (PS_load rfl tys3 (.head _) TurnV.l1 rfl rfl))) ?_
   refine Plan_float 5 rfl rfl (by kernel_rfl) (OK_s (EX_s (PS_neq rfl rfl))) ?_
   refine Plan_float 6 rfl rfl (by kernel_rfl) (OK_s (EX_s (PS_move rfl))) ?_
   refine Plan_float 7 rfl rfl (by kernel_rfl) (OK_gt (t := 75) rfl rfl (fun q => EX_s (PS_move rfl))) ?_
   refine Plan_float 8 rfl rfl (by kernel_rfl) (OK_gt (t := 75) rfl rfl (fun q => EX_s (PS_nilCheck (cvE rfl q)))) ?_
   refine Plan_float 9 rfl rfl (by kernel_rfl) (OK_gt (t := 75) rfl rfl (fun q => EX_s (PS_fieldAddr fa57_0 (cvE rfl q)))) ?_
   refine Plan_float 10 rfl rfl (by kernel_rfl) (OK_gt (t := 75) rfl rfl (fun q => EX_s (PS_loadA (cvE rfl q) tya34 (.head _) TurnV.l0 rfl))) ?_
   refine Plan_float 11 rfl rfl (by kernel_rfl) (OK_gt (t := 75) rfl rfl (fun q => EX_s (PS_move rfl))) ?_
   refine Plan_float 12 rfl rfl (by kernel_rfl) (OK_gt (t := 75) rfl rfl (fun q => EX_s (PS_nilCheck (cvE rfl q)))) ?_
   refine Plan_float 13 rfl rfl (by kernel_rfl) (OK_gt (t := 75) rfl rfl (fun q => EX_s (PS_fieldAddr fa57_1 (cvE rfl q)))) ?_
   refine Plan_float 14 rfl rfl (by kernel_rfl) (OK_gt (t := 75) rfl rfl (fun q => EX_s (PS_load (cvE rfl q) tys3 (.head _) TurnV.l1 rfl rfl))) ?_
   refine Plan_float 15 rfl rfl (by kernel_rfl) (OK_gt (t := 75) rfl rfl (fun q => EX_s (PS_move rfl))) ?_
   refine Plan_float 16 rfl rfl (by kernel_rfl) (OK_gt (t := 75) rfl rfl (fun q => EX_c (PC_of cf53 (.cons (cvE rfl q) (.cons (cvE rfl q) (.cons (cvE rfl q) .nil))) (fun w hS => ref_IsSeen_spec _ _ _ w)))) ?_
   refine Plan_float 17 rfl rfl (by kernel_rfl) (OK_s (EX_s (PS_and rfl rfl (fun h => h)))) ?_
   refine Plan_end (by kernel_rfl) ?_
   refine GQ_sub (.cons (k := 0) rfl (.cons (k := 6) rfl (.cons (k := 66) rfl (.cons (k := 86) rfl (.nil _))))) ?_
   refine GQ_then ?_
   refine G_cond rfl (fun c9 => ?_) (fun c9 => ?_)
   ·
    have c9p := kz c9
    try dsimp only at c9p
    have cp7 : (!decide (k = T.lookB.b) && T.lookB.w.sees T.lookB.b k) = true := by rw [hBl.1, hBl.2.1, ← hXw, ← hXb]; exact c9
    refine G_region ?_
    refine GL_step rfl (PS_move rfl) ?_
    refine GL_step rfl (PS_move rfl) ?_
    refine GL_step rfl (PS_move rfl) ?_
    refine GL_step rfl (PS_nilCheck rfl) ?_
    refine GL_step rfl (PS_fieldAddr fa57_0 rfl) ?_
    refine GL_step rfl (PS_fieldAddr fa34_2 rfl) ?_
    refine GL_step rfl (PS_indexAddr ia32 rfl rfl (by first | omega | exact hb.1 | exact hb.2 | exact hr.1 | exact hr.2 | (dsimp only; omega) | (simp only [List.length_append, List.length_cons, List.length_nil]; omega) | ((try dsimp only at *); (try simp only [List.length_append, List.length_cons, List.length_nil]); omega)) (by first | omega | exact hb.1 | exact hb.2 | exact hr.1 | exact hr.2 | (dsimp only; omega) | (simp only [List.length_append, List.length_cons, List.length_nil]; omega) | ((try dsimp only at *); (try simp only [List.length_append, List.length_cons, List.length_nil]); omega))) ?_
    refine GL_step rfl (PS_fieldAddr fa31_0 rfl) ?_
    refine GL_step rfl (PS_load rfl tys9 (.head _) (((TurnV.l0.comp Land.l2).comp (Lens.arr (n := 6) Being.fl (by first | omega | exact hb.1 | exact hb.2 | exact hr.1 | exact hr.2 | (dsimp only; omega) | (simp only [List.length_append, List.length_cons, List.length_nil]; omega) | ((try dsimp only at *); (try simp only [List.length_append, List.length_cons, List.length_nil]); omega)) (by first | omega | exact hb.1 | exact hb.2 | exact hr.1 | exact hr.2 | (dsimp only; omega) | (simp only [List.length_append, List.length_cons, List.length_nil]; omega) | ((try dsimp only at *); (try simp only [List.length_append, List.length_cons, List.length_nil]); omega)))).comp Being.l0) rfl rfl) ?_
    refine GL_step rfl (PS_add_str rfl rfl (by first | omega | exact hb.1 | exact hb.2 | exact hr.1 | exact hr.2 | (dsimp only; omega) | (simp only [List.length_append, List.length_cons, List.length_nil]; omega) | ((try dsimp only at *); (try simp only [List.length_append, List.length_cons, List.length_nil]); omega))) ?_
    refine GL_callL rfl cf39 (.cons rfl (.cons rfl .nil)) (.cons .head (.cons .head .nil)) (ref_turn_tell_spec _ X _ _ (by assumption) (by rw [hXb]; exact hb) (by have := hXl.2.2; have := hBl.2.2; omega)) (fun v23 B hv => ?_)
    obtain ⟨y24, rfl, y25, rfl⟩ := hv
    refine GL_nil ?_
    refine GQ_sub (.cons (k := 0) rfl (.cons (k := 66) rfl (.nil _))) ?_
    refine GQ_block ?_
    refine GQ_then ?_
    refine G_region ?_
    refine GL_step rfl (PS_add rfl rfl (IntWalk.i64_in _ (by first | omega | exact hb.1 | exact hb.2 | exact hr.1 | exact hr.2 | (dsimp only; omega) | (simp only [List.length_append, List.length_cons, List.length_nil]; omega) | ((try dsimp only at *); (try simp only [List.length_append, List.length_cons, List.length_nil]); omega)))) ?_
    refine GL_step rfl (PS_move rfl) ?_
    refine GL_nil ?_
    refine GQ_sub (.cons (k := 0) rfl (.cons (k := 66) rfl (.nil _))) ?_
    refine GQ_next3_ (k + 1) _ _ ?_ ?_ (.cons (k := 66) rfl (.cons (k := 0) rfl (.nil _))) (.refl _)
    · exact ⟨by omega, by omega, by rw [Turn.hereK_step hI21, if_t cp7, ← hI23, hBl.1, ← hXw], by assumption⟩
    · omega
   have c9p := kz c9
   try dsimp only at c9p
   have cp7 : (!decide (k = T.lookB.b) && T.lookB.w.sees T.lookB.b k) = false := by rw [hBl.1, hBl.2.1, ← hXw, ← hXb]; exact c9
   refine G_skip ?_
   refine GQ_sub (.cons (k := 0) rfl (.cons (k := 66) rfl (.nil _))) ?_
   refine GQ_block ?_
   refine GQ_then ?_
   refine G_region ?_
   refine GL_step rfl (PS_add rfl rfl (IntWalk.i64_in _ (by first | omega | exact hb.1 | exact hb.2 | exact hr.1 | exact hr.2 | (dsimp only; omega) | (simp only [List.length_append, List.length_cons, List.length_nil]; omega) | ((try dsimp only at *); (try simp only [List.length_append, List.length_cons, List.length_nil]); omega)))) ?_
   refine GL_step rfl (PS_move rfl) ?_
   refine GL_nil ?_
   refine GQ_sub (.cons (k := 0) rfl (.cons (k := 66) rfl (.nil _))) ?_
   refine GQ_next3_ (k + 1) _ _ ?_ ?_ (.cons (k := 66) rfl (.cons (k := 0) rfl (.nil _))) (.refl _)
   · exact ⟨by omega, by omega, by rw [Turn.hereK_step hI21, if_f cp7, ← hI23], by assumption⟩
   · omega
  have c8p := kz c8
  try dsimp only at c8p
  obtain rfl : k = 6 := by omega
  refine G_exit ?_
  refine GQ_then_exit ?_
  refine GQ_then_exit ?_
  refine GQ_block_exit ?_
  refine GQ_end rfl .nil ?_
  intro w1 hS
  have hS := (hS.perm (Pulls.perm (.cons .head (.cons .head .nil)))).headL
  have hq : T.look = X := (show T.look = _ from if_f c1).trans hI23.symm
  refine ⟨_, ⟨?gqc8, rfl, ?hlc8, ?hBc8⟩, hS⟩
  case hBc8 => rw [hq]
  case hlc8 => rw [hq]; assumption
 ·
  refine GL_alloc rfl zv25 rfl (fun b2 => ?_)
  refine GL_hand rfl ⟨?_, ?_⟩
  · exact (Pend_okv rfl (OK_s (EX_s (PS_fieldAddr fa34_0 rfl))) rfl rfl (Pend_okv rfl (OK_s (EX_s (PS_fieldAddr fa57_0 rfl))) rfl rfl (Pend_okv rfl (OK_s (EX_s (PS_nilCheck rfl))) rfl rfl (Pend_okv rfl (OK_s (EX_s (PS_move rfl))) rfl rfl (Pend_okv rfl (OK_s (EX_s (PS_move rfl))) rfl rfl Pend_nil)))))
  refine Plan_chain 2 rfl (by kernel_rfl) ?_
  refine GL_callL rfl cf51 (.cons rfl .nil) (.cons (.tail .head) .nil) (ref_turn_here_spec _ T _ hF) (fun v26 B hv => ?_)
  obtain ⟨rfl, rfl⟩ := hv
  refine GL_hand rfl ⟨?_, ?_⟩
  · exact (Pend_okv rfl (OK_s (EX_s (PS_fieldAddr fa34_0 rfl))) rfl rfl (Pend_okv rfl (OK_s (EX_s (PS_fieldAddr fa57_0 rfl))) rfl rfl (Pend_okv rfl (OK_s (EX_s (PS_nilCheck rfl))) rfl rfl (Pend_skip (by kernel_rfl) (Pend_okv rfl (OK_s (EX_s (PS_move rfl))) rfl rfl Pend_nil)))))
  refine Plan_float 6 rfl rfl (by kernel_rfl) (OK_s (EX_s (PS_indexAddr ia26 rfl rfl (by first | omega | exact hb.1 | exact hb.2 | exact hr.1 | exact hr.2 | (dsimp only; omega) | (simp only [List.length_append, List.length_cons, List.length_nil]; omega) | ((try dsimp only at *); (try simp only [List.length_append, List.length_cons, List.length_nil]); omega)) (by first | omega | exact hb.1 | exact hb.2 | exact hr.1 | exact hr.2 | (dsimp only; omega) | (simp only [List.length_append, List.length_cons, List.length_nil]; omega) | ((try dsimp only at *); (try simp only [List.length_append, List.length_cons, List.length_nil]); omega))))) ?_
  refine Plan_float 7 rfl rfl (by kernel_rfl) (OK_s (EX_s (PS_loadA rfl tya25 (.head _) ((TurnV.l0.comp Land.l0).comp (Lens.arr (n := 6) Room.fl (by first | omega | exact hb.1 | exact hb.2 | exact hr.1 | exact hr.2 | (dsimp only; omega) | (simp only [List.length_append, List.length_cons, List.length_nil]; omega) | ((try dsimp only at *); (try simp only [List.length_append, List.length_cons, List.length_nil]); omega)) (by first | omega | exact hb.1 | exact hb.2 | exact hr.1 | exact hr.2 | (dsimp only; omega) | (simp only [List.length_append, List.length_cons, List.length_nil]; omega) | ((try dsimp only at *); (try simp only [List.length_append, List.length_cons, List.length_nil]); omega)))) rfl))) ?_
  refine Plan_chain 9 rfl (by kernel_rfl) ?_
  refine GL_unit (PU_store (Lens.id Room.fl.len Room.fl.one) rfl rfl rfl sz25 rfl (.tail .head)) ?_
  refine GL_hand0 rfl ⟨?_, ?_⟩
  · exact (Pend_skip (by kernel_rfl) (Pend_skip (by kernel_rfl) (Pend_skip (by kernel_rfl) (Pend_skip (by kernel_rfl) (Pend_skip (by kernel_rfl) (Pend_skip (by kernel_rfl) (Pend_skip (by kernel_rfl) Pend_nil)))))))
  refine Plan_end (by kernel_rfl) ?_
  refine GQ_sub (.cons (k := 0) rfl (.cons (k := 2) rfl (.nil _))) ?_
  refine GQ_then ?_
  refine G_seq ?_
  refine G_region ?_
  refine GL_step rfl (PS_assign rfl) ?_
  refine GL_nil ?_
  refine GQ_then ?_
  refine G_seq ?_
  refine G_seq ?_
  refine G_region ?_
  refine GL_step rfl (PS_move rfl) ?_
  refine GL_nil ?_
  refine GQ_then ?_
  refine G_block ?_
  refine G_subF (.cons (k := 3) rfl (.cons (k := 25) rfl (.cons (k := 0) rfl (.cons (k := 2) rfl (.nil _))))) ?_
  refine G_loop2_ (fun (k : Int) (x : Str) => 0 ≤ k ∧ k ≤ 6 ∧ x = Turn.waysK (T.w.rooms.at T.me.room) k.toNat) (fun (k : Int) (x : Str) => (6 - k).toNat) (fun (k : Int) (x : Str) => [(3, vstr x), (25, .int .i64 k)]) (fun (k : Int) (x : Str) => []) (0) (_) ?_ rfl rfl (fun k x hI1 => ?_)
  · exact ⟨by omega, by omega, rfl⟩
  obtain ⟨hI11, hI12, hI13⟩ := hI1
  refine G_seq ?_
  refine G_region ?_
  refine GL_step rfl (PS_lss rfl rfl) ?_
  refine GL_nil ?_
  refine GQ_then ?_
  refine G_seq ?_
  refine G_cond rfl (fun c10 => ?_) (fun c10 => ?_)
  ·
   have c10p := kz c10
   try dsimp only at c10p
   have hxd := (hF.exit hI11 (show k < 6 by omega))
   have hst := Turn.waysK_step (r := T.w.rooms.at T.me.room) hI11
   have hwl := Turn.waysK_len (T.w.rooms.at T.me.room) k.toNat
   rw [← hI13] at hwl
   have hcl := Land.called_len k
   have hck := Land.calledT (d := k) (by rw [Bool.and_eq_true]; exact ⟨decide_eq_true hI11, decide_eq_true (by omega)⟩)
   rw [hck] at hcl hst
   refine G_skip ?_
   refine GQ_sub (.cons (k := 0) rfl (.cons (k := 2) rfl (.cons (k := 3) rfl (.cons (k := 25) rfl (.nil _))))) ?_
   refine GQ_then ?_
   refine G_seq ?_
   refine G_block ?_
   refine G_seq ?_
   refine G_region ?_
   refine GL_step rfl (PS_move rfl) ?_
   refine GL_step rfl (PS_assign rfl) ?_
   refine GL_nil ?_
   refine GQ_sub (.cons (k := 0) rfl (.cons (k := 2) rfl (.cons (k := 3) rfl (.cons (k := 4) rfl (.cons (k := 25) rfl (.nil _)))))) ?_
   refine GQ_then ?_
   refine G_seq ?_
   refine G_region ?_
   refine GL_step rfl (PS_move rfl) ?_
   refine GL_step rfl (PS_fieldAddr fa25_2 rfl) ?_
   refine GL_step rfl (PS_indexAddr ia22 rfl rfl (by first | omega | exact hb.1 | exact hb.2 | exact hr.1 | exact hr.2 | (dsimp only; omega) | (simp only [List.length_append, List.length_cons, List.length_nil]; omega) | ((try dsimp only at *); (try simp only [List.length_append, List.length_cons, List.length_nil]); omega)) (by first | omega | exact hb.1 | exact hb.2 | exact hr.1 | exact hr.2 | (dsimp only; omega) | (simp only [List.length_append, List.length_cons, List.length_nil]; omega) | ((try dsimp only at *); (try simp only [List.length_append, List.length_cons, List.length_nil]); omega))) ?_
   refine GL_step rfl (PS_load rfl tys3 (.tail _ (.head _)) (Room.l2.comp (Lens.arr (n := 6) flI (by first | omega | exact hb.1 | exact hb.2 | exact hr.1 | exact hr.2 | (dsimp only; omega) | (simp only [List.length_append, List.length_cons, List.length_nil]; omega) | ((try dsimp only at *); (try simp only [List.length_append, List.length_cons, List.length_nil]); omega)) (by first | omega | exact hb.1 | exact hb.2 | exact hr.1 | exact hr.2 | (dsimp only; omega) | (simp only [List.length_append, List.length_cons, List.length_nil]; omega) | ((try dsimp only at *); (try simp only [List.length_append, List.length_cons, List.length_nil]); omega)))) rfl rfl) ?_
   refine GL_step rfl (PS_gtr rfl rfl) ?_
   refine GL_nil ?_
   refine GQ_sub (.cons (k := 0) rfl (.cons (k := 2) rfl (.cons (k := 3) rfl (.cons (k := 4) rfl (.cons (k := 25) rfl (.cons (k := 32) rfl (.nil _))))))) ?_
   refine GQ_then ?_
   refine G_cond rfl (fun c11 => ?_) (fun c11 => ?_)
   ·
    have c11p := kz c11
    try dsimp only at c11p
    have cp3 : decide ((T.w.rooms.at T.me.room).exits.at k = 0) = false := decide_eq_false (by have := c11p; first | exact this | (show ¬ (T.w.rooms.at (T.w.beings.at T.b).room).exits.at k = 0; omega))
    rw [if_f cp3] at hst
    refine G_seq ?_
    refine G_region ?_
    refine GL_step rfl (PS_move rfl) ?_
    refine GL_step rfl (PS_move rfl) ?_
    refine GL_step rfl (PS_indexAddr ia80 rfl rfl (by first | omega | exact hb.1 | exact hb.2 | exact hr.1 | exact hr.2 | (dsimp only; omega) | (simp only [List.length_append, List.length_cons, List.length_nil]; omega) | ((try dsimp only at *); (try simp only [List.length_append, List.length_cons, List.length_nil]); omega)) (by first | omega | exact hb.1 | exact hb.2 | exact hr.1 | exact hr.2 | (dsimp only; omega) | (simp only [List.length_append, List.length_cons, List.length_nil]; omega) | ((try dsimp only at *); (try simp only [List.length_append, List.length_cons, List.length_nil]); omega))) ?_
    refine GL_step rfl (PS_ldGVM gl0 gm0 rfl tys9 (Land.verbs_at hI11 (by omega))) ?_
    refine GL_step rfl (PS_add_str rfl rfl (by first | omega | exact hb.1 | exact hb.2 | exact hr.1 | exact hr.2 | (dsimp only; omega) | (simp only [List.length_append, List.length_cons, List.length_nil]; omega) | ((try dsimp only at *); (try simp only [List.length_append, List.length_cons, List.length_nil]); omega))) ?_
    refine GL_step rfl (PS_add_str rfl rfl (by first | omega | exact hb.1 | exact hb.2 | exact hr.1 | exact hr.2 | (dsimp only; omega) | (simp only [List.length_append, List.length_cons, List.length_nil]; omega) | ((try dsimp only at *); (try simp only [List.length_append, List.length_cons, List.length_nil]); omega))) ?_
    refine GL_step rfl (PS_assign rfl) ?_
    refine GL_nil ?_
    refine GQ_sub (.cons (k := 0) rfl (.cons (k := 2) rfl (.cons (k := 3) rfl (.cons (k := 4) rfl (.cons (k := 25) rfl (.nil _)))))) ?_
    refine GQ_then ?_
    refine G_seq ?_
    refine G_region ?_
    refine GL_step rfl (PS_move rfl) ?_
    refine GL_step rfl (PS_fieldAddr fa25_3 rfl) ?_
    refine GL_step rfl (PS_indexAddr ia23 rfl rfl (by first | omega | exact hb.1 | exact hb.2 | exact hr.1 | exact hr.2 | (dsimp only; omega) | (simp only [List.length_append, List.length_cons, List.length_nil]; omega) | ((try dsimp only at *); (try simp only [List.length_append, List.length_cons, List.length_nil]); omega)) (by first | omega | exact hb.1 | exact hb.2 | exact hr.1 | exact hr.2 | (dsimp only; omega) | (simp only [List.length_append, List.length_cons, List.length_nil]; omega) | ((try dsimp only at *); (try simp only [List.length_append, List.length_cons, List.length_nil]); omega))) ?_
    refine GL_step rfl (PS_load rfl tys4 (.tail _ (.head _)) (Room.l3.comp (Lens.arr (n := 6) flB (by first | omega | exact hb.1 | exact hb.2 | exact hr.1 | exact hr.2 | (dsimp only; omega) | (simp only [List.length_append, List.length_cons, List.length_nil]; omega) | ((try dsimp only at *); (try simp only [List.length_append, List.length_cons, List.length_nil]); omega)) (by first | omega | exact hb.1 | exact hb.2 | exact hr.1 | exact hr.2 | (dsimp only; omega) | (simp only [List.length_append, List.length_cons, List.length_nil]; omega) | ((try dsimp only at *); (try simp only [List.length_append, List.length_cons, List.length_nil]); omega)))) rfl rfl) ?_
    refine GL_nil ?_
    refine GQ_sub (.cons (k := 0) rfl (.cons (k := 2) rfl (.cons (k := 3) rfl (.cons (k := 25) rfl (.cons (k := 42) rfl (.nil _)))))) ?_
    refine GQ_then ?_
    refine G_cond rfl (fun c12 => ?_) (fun c12 => ?_)
    ·
     have c12p := kz c12
     try dsimp only at c12p
     have cp4 : (T.w.rooms.at T.me.room).shut.at k = true := c12
     rw [if_t cp4] at hst
     refine G_region ?_
     refine GL_step rfl (PS_move rfl) ?_
     refine GL_step rfl (PS_add_str rfl rfl (by first | omega | exact hb.1 | exact hb.2 | exact hr.1 | exact hr.2 | (dsimp only; omega) | (simp only [List.length_append, List.length_cons, List.length_nil]; omega) | ((try dsimp only at *); (try simp only [List.length_append, List.length_cons, List.length_nil]); omega))) ?_
     refine GL_step rfl (PS_assign rfl) ?_
     refine GL_nil ?_
     refine GQ_sub (.cons (k := 0) rfl (.cons (k := 2) rfl (.cons (k := 3) rfl (.cons (k := 25) rfl (.nil _))))) ?_
     refine GQ_block ?_
     refine GQ_then ?_
     refine G_region ?_
     refine GL_step rfl (PS_add rfl rfl (IntWalk.i64_in _ (by first | omega | exact hb.1 | exact hb.2 | exact hr.1 | exact hr.2 | (dsimp only; omega) | (simp only [List.length_append, List.length_cons, List.length_nil]; omega) | ((try dsimp only at *); (try simp only [List.length_append, List.length_cons, List.length_nil]); omega)))) ?_
     refine GL_step rfl (PS_move rfl) ?_
     refine GL_nil ?_
     refine GQ_sub (.cons (k := 0) rfl (.cons (k := 2) rfl (.cons (k := 3) rfl (.cons (k := 25) rfl (.nil _))))) ?_
     refine GQ_next2_ (k + 1) _ ?_ ?_ (.cons (k := 3) rfl (.cons (k := 25) rfl (.cons (k := 0) rfl (.cons (k := 2) rfl (.nil _))))) (.refl _)
     · exact ⟨by omega, by omega, by rw [hst, ← hI13]⟩
     · omega
    have c12p := kz c12
    try dsimp only at c12p
    have cp4 : (T.w.rooms.at T.me.room).shut.at k = false := c12
    rw [if_f cp4] at hst
    refine G_skip ?_
    refine GQ_sub (.cons (k := 0) rfl (.cons (k := 2) rfl (.cons (k := 3) rfl (.cons (k := 25) rfl (.nil _))))) ?_
    refine GQ_block ?_
    refine GQ_then ?_
    refine G_region ?_
    refine GL_step rfl (PS_add rfl rfl (IntWalk.i64_in _ (by first | omega | exact hb.1 | exact hb.2 | exact hr.1 | exact hr.2 | (dsimp only; omega) | (simp only [List.length_append, List.length_cons, List.length_nil]; omega) | ((try dsimp only at *); (try simp only [List.length_append, List.length_cons, List.length_nil]); omega)))) ?_
    refine GL_step rfl (PS_move rfl) ?_
    refine GL_nil ?_
    refine GQ_sub (.cons (k := 0) rfl (.cons (k := 2) rfl (.cons (k := 3) rfl (.cons (k := 25) rfl (.nil _))))) ?_
    refine GQ_next2_ (k + 1) _ ?_ ?_ (.cons (k := 3) rfl (.cons (k := 25) rfl (.cons (k := 0) rfl (.cons (k := 2) rfl (.nil _))))) (.refl _)
    · exact ⟨by omega, by omega, by rw [hst, ← hI13]⟩
    · omega
   have c11p := kz c11
   try dsimp only at c11p
   have cp3 : decide ((T.w.rooms.at T.me.room).exits.at k = 0) = true := decide_eq_true (by have := c11p; first | exact this | (show  (T.w.rooms.at (T.w.beings.at T.b).room).exits.at k = 0; omega))
   rw [if_t cp3] at hst
   refine G_skip ?_
   refine GQ_sub (.cons (k := 0) rfl (.cons (k := 2) rfl (.cons (k := 3) rfl (.cons (k := 25) rfl (.nil _))))) ?_
   refine GQ_block ?_
   refine GQ_then ?_
   refine G_region ?_
   refine GL_step rfl (PS_add rfl rfl (IntWalk.i64_in _ (by first | omega | exact hb.1 | exact hb.2 | exact hr.1 | exact hr.2 | (dsimp only; omega) | (simp only [List.length_append, List.length_cons, List.length_nil]; omega) | ((try dsimp only at *); (try simp only [List.length_append, List.length_cons, List.length_nil]); omega)))) ?_
   refine GL_step rfl (PS_move rfl) ?_
   refine GL_nil ?_
   refine GQ_sub (.cons (k := 0) rfl (.cons (k := 2) rfl (.cons (k := 3) rfl (.cons (k := 25) rfl (.nil _))))) ?_
   refine GQ_next2_ (k + 1) _ ?_ ?_ (.cons (k := 3) rfl (.cons (k := 25) rfl (.cons (k := 0) rfl (.cons (k := 2) rfl (.nil _))))) (.refl _)
   · exact ⟨by omega, by omega, by rw [hst, ← hI13]⟩
   · omega
  have c10p := kz c10
  try dsimp only at c10p
  obtain rfl : k = 6 := by omega
  subst hI13
  have hwl := Turn.waysK_len (T.w.rooms.at T.me.room) 6
  refine G_exit ?_
  refine GQ_then_exit ?_
  refine GQ_then_exit ?_
  refine GQ_block_exit ?_
  refine GQ_sub (.cons (k := 0) rfl (.cons (k := 2) rfl (.cons (k := 3) rfl (.nil _)))) ?_
  refine GQ_then ?_
  refine G_seq ?_
  refine G_region ?_
  refine GL_step rfl (PS_move rfl) ?_
  refine GL_step rfl (PS_fieldAddr fa25_0 rfl) ?_
  refine GL_step rfl (PS_load rfl tys9 (.tail _ (.head _)) Room.l0 rfl rfl) ?_
  refine GL_step rfl (PS_add_str rfl rfl (by first | omega | exact hb.1 | exact hb.2 | exact hr.1 | exact hr.2 | (dsimp only; omega) | (simp only [List.length_append, List.length_cons, List.length_nil]; omega) | ((try dsimp only at *); (try simp only [List.length_append, List.length_cons, List.length_nil]); omega))) ?_
  refine GL_step rfl (PS_add_str rfl rfl (by first | omega | exact hb.1 | exact hb.2 | exact hr.1 | exact hr.2 | (dsimp only; omega) | (simp only [List.length_append, List.length_cons, List.length_nil]; omega) | ((try dsimp only at *); (try simp only [List.length_append, List.length_cons, List.length_nil]); omega))) ?_
  refine GL_callL rfl cf39 (.cons rfl (.cons rfl .nil)) (.cons .head (.cons (.tail .head) .nil)) (ref_turn_tell_spec _ T _ _ hg hb (by omega)) (fun v27 B hv => ?_)
  obtain ⟨y28, rfl, y29, rfl⟩ := hv
  refine GL_nil ?_
  refine GQ_sub (.cons (k := 0) rfl (.cons (k := 3) rfl (.nil _))) ?_
  refine GQ_then ?_
  refine G_seq ?_
  refine G_region ?_
  refine GL_step rfl (PS_move rfl) ?_
  refine GL_step rfl (PS_move rfl) ?_
  refine GL_callL rfl cf39 (.cons rfl (.cons rfl .nil)) (.cons .head (.cons .head .nil)) (ref_turn_tell_spec _ (T.tell ([84, 104, 101, 32] ++ (T.w.rooms.at T.me.room).name ++ [46])) _ (Turn.waysK (T.w.rooms.at T.me.room) 6) (by assumption) hb (by simp only [Turn.tell_len]; omega)) (fun v30 B hv => ?_)
  obtain ⟨y31, rfl, y32, rfl⟩ := hv
  refine GL_nil ?_
  refine GQ_sub (.cons (k := 0) rfl (.nil _)) ?_
  refine GQ_then ?_
  refine G_seq ?_
  refine G_seq ?_
  refine G_region ?_
  refine GL_step rfl (PS_move rfl) ?_
  refine GL_callL rfl cf52 (.cons rfl .nil) (.cons .head .nil) (ref_turn_inSight_spec _ T.lookA _ (hF.of_w rfl rfl)) (fun v33 B hv => ?_)
  obtain ⟨y34, rfl, y35, rfl⟩ := hv
  refine GL_step rfl (PS_assign rfl) ?_
  refine GL_nil ?_
  refine GQ_sub (.cons (k := 0) rfl (.cons (k := 5) rfl (.nil _))) ?_
  refine GQ_then ?_
  refine G_seq ?_
  refine G_region ?_
  refine GL_step rfl (PS_move rfl) ?_
  refine GL_step rfl (PS_len_slice rfl Tryz.underlying66 rfl) ?_
  refine GL_step rfl (PS_gtr rfl rfl) ?_
  refine GL_nil ?_
  refine GQ_sub (.cons (k := 0) rfl (.cons (k := 5) rfl (.cons (k := 59) rfl (.nil _)))) ?_
  refine GQ_then ?_
  refine G_cond rfl (fun c13 => ?_) (fun c13 => ?_)
  ·
   have c13p := kz c13
   try dsimp only at c13p
   have hnm : (Turn.namedR T.lookA.w T.seen).length ≤ 1266637395161115 := Turn.namedR_len hw T.seen_len
   refine G_region ?_
   refine GL_step rfl (PS_move rfl) ?_
   refine GL_step rfl (PS_move rfl) ?_
   refine GL_step rfl (PS_move rfl) ?_
   refine GL_callL rfl cf40 (.cons rfl (.cons rfl .nil)) (.cons .head (.cons .head .nil)) (ref_turn_named_spec _ T.lookA _ _ T.seen (hF.of_w rfl rfl) (by assumption) T.seen_len (fun i hi => Turn.seen_rng hi)) (fun v37 B hv => ?_)
   obtain ⟨rfl, rfl⟩ := hv
   refine GL_step rfl (PS_add_str rfl rfl (by first | omega | exact hb.1 | exact hb.2 | exact hr.1 | exact hr.2 | (dsimp only; omega) | (simp only [List.length_append, List.length_cons, List.length_nil]; omega) | ((try dsimp only at *); (try simp only [List.length_append, List.length_cons, List.length_nil]); omega))) ?_
   refine GL_callL rfl cf39 (.cons rfl (.cons rfl .nil)) (.cons .head (.cons (.tail .head) .nil)) (ref_turn_tell_spec _ T.lookA _ ([72, 101, 114, 101, 32, 105, 115] ++ Turn.namedR T.w T.seen) (by assumption) hb (by rw [(Turn.lookA_w T).2.2]; omega)) (fun v38 B hv => ?_)
   obtain ⟨y39, rfl, y40, rfl⟩ := hv
   refine GL_nil ?_
   refine GQ_sub (.cons (k := 0) rfl (.nil _)) ?_
   refine GQ_then ?_
   refine G_seq ?_
   refine G_region ?_
   refine GL_step rfl (PS_move rfl) ?_
   refine GL_nil ?_
   refine GQ_then ?_
   refine G_block ?_
   refine G_subF (.cons (k := 66) rfl (.cons (k := 0) rfl (.nil _))) ?_
   refine G_pull (.tail .head) ?_
   refine G_pull (.tail .head) ?_
   refine G_loop3_ (fun (k : Int) (X : Turn) (h : Hd) => 0 ≤ k ∧ k ≤ 6 ∧ X = T.lookB.hereK k.toNat ∧ h.len = X.out.length) (fun (k : Int) (X : Turn) (h : Hd) => (6 - k).toNat) (fun (k : Int) (X : Turn) (h : Hd) => [(66, .int .i64 k)]) (fun (k : Int) (X : Turn) (h : Hd) => [Res.box b 57 (TurnV.enc ⟨X.w, X.b, h⟩), Res.own h 60 16 (X.out.flatMap Ing.Event.enc)]) (0) (_) (_) ?_ rfl rfl (fun k X h hI2 => ?_)
   · have hyl : y34.len = T.seen.length := y35
     have hlb : T.lookB = T.lookA.list [72, 101, 114, 101, 32, 105, 115] (T.w.has 0 T.me.room) := if_pos (show decide (0 < ((T.w.has 0 T.me.room).length : Int)) = true by rw [← hsee, ← hyl]; exact c13)
     rw [← hsee, ← Turn.named_list] at hlb
     exact ⟨by omega, by omega, hlb.symm, by assumption⟩
   obtain ⟨hI21, hI22, hI23, hI24⟩ := hI2
   refine G_seq ?_
   refine G_region ?_
   refine GL_step rfl (PS_lss rfl rfl) ?_
   refine GL_nil ?_
   refine GQ_then ?_
   refine G_seq ?_
   refine G_cond rfl (fun c14 => ?_) (fun c14 => ?_)
   ·
    have c14p := kz c14
    try dsimp only at c14p
    have hnb := hw.be k
    have hXl := Turn.hereK_w T.lookB k.toNat
    have hBl := Turn.lookB_w T
    rw [← hI23] at hXl
    have hXw : X.w = T.w := hXl.1.trans hBl.1
    have hXb : X.b = T.b := hXl.2.1.trans hBl.2.1
    rw [← hXw] at hnb
    refine G_skip ?_
    refine GQ_sub (.cons (k := 0) rfl (.cons (k := 66) rfl (.nil _))) ?_
    refine GQ_then ?_
    refine G_seq ?_
    refine G_block ?_
    refine G_seq ?_
    refine G_region ?_
    refine GL_step rfl (PS_move rfl) ?_
    refine GL_step rfl (PS_assign rfl) ?_
    refine GL_nil ?_
    refine GQ_sub (.cons (k := 0) rfl (.cons (k := 6) rfl (.cons (k := 66) rfl (.nil _)))) ?_
    refine GQ_then ?_
    refine G_seq ?_
    refine G_planN (N := 18) [0, 0, 2, 6, 14, 31, 63, 127, 255, 511, 1023, 127, 2175, 6271, 14463, 127, 65535, 131071] mix (by kernel_rfl) rfl ?_
    refine Plan_float 0 rfl rfl (by kernel_rfl) (OK_s (EX_s (PS_move rfl))) ?_
    refine Plan_float 1 rfl rfl (by kernel_rfl) (OK_s (EX_s (PS_move rfl))) ?_
    refine Plan_float 2 rfl rfl (by kernel_rfl) (OK_s (EX_s (PS_nilCheck rfl))) ?_
    refine Plan_float 3 rfl rfl (by kernel_rfl) (OK_s (EX_s (PS_fieldAddr fa57_1 rfl))) ?_
    refine Plan_float 4 rfl rfl (by kernel_rfl) (OK_s (EX_s (PS_load rfl tys3 (.head _) TurnV.l1 rfl rfl))) ?_
    refine Plan_float 5 rfl rfl (by kernel_rfl) (OK_s (EX_s (PS_neq rfl rfl))) ?_
    refine Plan_float 6 rfl rfl (by kernel_rfl) (OK_s (EX_s (PS_move rfl))) ?_
    refine Plan_float 7 rfl rfl (by kernel_rfl) (OK_gt (t := 75) rfl rfl (fun q => EX_s (PS_move rfl))) ?_
    refine Plan_float 8 rfl rfl (by kernel_rfl) (OK_gt (t := 75) rfl rfl (fun q => EX_s (PS_nilCheck (cvE rfl q)))) ?_
    refine Plan_float 9 rfl rfl (by kernel_rfl) (OK_gt (t := 75) rfl rfl (fun q => EX_s (PS_fieldAddr fa57_0 (cvE rfl q)))) ?_
    refine Plan_float 10 rfl rfl (by kernel_rfl) (OK_gt (t := 75) rfl rfl (fun q => EX_s (PS_loadA (cvE rfl q) tya34 (.head _) TurnV.l0 rfl))) ?_
    refine Plan_float 11 rfl rfl (by kernel_rfl) (OK_gt (t := 75) rfl rfl (fun q => EX_s (PS_move rfl))) ?_
    refine Plan_float 12 rfl rfl (by kernel_rfl) (OK_gt (t := 75) rfl rfl (fun q => EX_s (PS_nilCheck (cvE rfl q)))) ?_
    refine Plan_float 13 rfl rfl (by kernel_rfl) (OK_gt (t := 75) rfl rfl (fun q => EX_s (PS_fieldAddr fa57_1 (cvE rfl q)))) ?_
    refine Plan_float 14 rfl rfl (by kernel_rfl) (OK_gt (t := 75) rfl rfl (fun q => EX_s (PS_load (cvE rfl q) tys3 (.head _) TurnV.l1 rfl rfl))) ?_
    refine Plan_float 15 rfl rfl (by kernel_rfl) (OK_gt (t := 75) rfl rfl (fun q => EX_s (PS_move rfl))) ?_
    refine Plan_float 16 rfl rfl (by kernel_rfl) (OK_gt (t := 75) rfl rfl (fun q => EX_c (PC_of cf53 (.cons (cvE rfl q) (.cons (cvE rfl q) (.cons (cvE rfl q) .nil))) (fun w hS => ref_IsSeen_spec _ _ _ w)))) ?_
    refine Plan_float 17 rfl rfl (by kernel_rfl) (OK_s (EX_s (PS_and rfl rfl (fun h => h)))) ?_
    refine Plan_end (by kernel_rfl) ?_
    refine GQ_sub (.cons (k := 0) rfl (.cons (k := 6) rfl (.cons (k := 66) rfl (.cons (k := 86) rfl (.nil _))))) ?_
    refine GQ_then ?_
    refine G_cond rfl (fun c15 => ?_) (fun c15 => ?_)
    ·
     have c15p := kz c15
     try dsimp only at c15p
     have cp7 : (!decide (k = T.lookB.b) && T.lookB.w.sees T.lookB.b k) = true := by rw [hBl.1, hBl.2.1, ← hXw, ← hXb]; exact c15
     refine G_region ?_
     refine GL_step rfl (PS_move rfl) ?_
     refine GL_step rfl (PS_move rfl) ?_
     refine GL_step rfl (PS_move rfl) ?_
     refine GL_step rfl (PS_nilCheck rfl) ?_
     refine GL_step rfl (PS_fieldAddr fa57_0 rfl) ?_
     refine GL_step rfl (PS_fieldAddr fa34_2 rfl) ?_
     refine GL_step rfl (PS_indexAddr ia32 rfl rfl (by first | omega | exact hb.1 | exact hb.2 | exact hr.1 | exact hr.2 | (dsimp only; omega) | (simp only [List.length_append, List.length_cons, List.length_nil]; omega) | ((try dsimp only at *); (try simp only [List.length_append, List.length_cons, List.length_nil]); omega)) (by first | omega | exact hb.1 | exact hb.2 | exact hr.1 | exact hr.2 | (dsimp only; omega) | (simp only [List.length_append, List.length_cons, List.length_nil]; omega) | ((try dsimp only at *); (try simp only [List.length_append, List.length_cons, List.length_nil]); omega))) ?_
     refine GL_step rfl (PS_fieldAddr fa31_0 rfl) ?_
     refine GL_step rfl (PS_load rfl tys9 (.head _) (((TurnV.l0.comp Land.l2).comp (Lens.arr (n := 6) Being.fl (by first | omega | exact hb.1 | exact hb.2 | exact hr.1 | exact hr.2 | (dsimp only; omega) | (simp only [List.length_append, List.length_cons, List.length_nil]; omega) | ((try dsimp only at *); (try simp only [List.length_append, List.length_cons, List.length_nil]); omega)) (by first | omega | exact hb.1 | exact hb.2 | exact hr.1 | exact hr.2 | (dsimp only; omega) | (simp only [List.length_append, List.length_cons, List.length_nil]; omega) | ((try dsimp only at *); (try simp only [List.length_append, List.length_cons, List.length_nil]); omega)))).comp Being.l0) rfl rfl) ?_
     refine GL_step rfl (PS_add_str rfl rfl (by first | omega | exact hb.1 | exact hb.2 | exact hr.1 | exact hr.2 | (dsimp only; omega) | (simp only [List.length_append, List.length_cons, List.length_nil]; omega) | ((try dsimp only at *); (try simp only [List.length_append, List.length_cons, List.length_nil]); omega))) ?_
     refine GL_callL rfl cf39 (.cons rfl (.cons rfl .nil)) (.cons .head (.cons .head .nil)) (ref_turn_tell_spec _ X _ _ (by assumption) (by rw [hXb]; exact hb) (by have := hXl.2.2; have := hBl.2.2; omega)) (fun v41 B hv => ?_)
     obtain ⟨y42, rfl, y43, rfl⟩ := hv
     refine GL_nil ?_
     refine GQ_sub (.cons (k := 0) rfl (.cons (k := 66) rfl (.nil _))) ?_
     refine GQ_block ?_
     refine GQ_then ?_
     refine G_region ?_
     refine GL_step rfl (PS_add rfl rfl (IntWalk.i64_in _ (by first | omega | exact hb.1 | exact hb.2 | exact hr.1 | exact hr.2 | (dsimp only; omega) | (simp only [List.length_append, List.length_cons, List.length_nil]; omega) | ((try dsimp only at *); (try simp only [List.length_append, List.length_cons, List.length_nil]); omega)))) ?_
     refine GL_step rfl (PS_move rfl) ?_
     refine GL_nil ?_
     refine GQ_sub (.cons (k := 0) rfl (.cons (k := 66) rfl (.nil _))) ?_
     refine GQ_next3_ (k + 1) _ _ ?_ ?_ (.cons (k := 66) rfl (.cons (k := 0) rfl (.nil _))) (.refl _)
     · exact ⟨by omega, by omega, by rw [Turn.hereK_step hI21, if_t cp7, ← hI23, hBl.1, ← hXw], by assumption⟩
     · omega
    have c15p := kz c15
    try dsimp only at c15p
    have cp7 : (!decide (k = T.lookB.b) && T.lookB.w.sees T.lookB.b k) = false := by rw [hBl.1, hBl.2.1, ← hXw, ← hXb]; exact c15
    refine G_skip ?_
    refine GQ_sub (.cons (k := 0) rfl (.cons (k := 66) rfl (.nil _))) ?_
    refine GQ_block ?_
    refine GQ_then ?_
    refine G_region ?_
    refine GL_step rfl (PS_add rfl rfl (IntWalk.i64_in _ (by first | omega | exact hb.1 | exact hb.2 | exact hr.1 | exact hr.2 | (dsimp only; omega) | (simp only [List.length_append, List.length_cons, List.length_nil]; omega) | ((try dsimp only at *); (try simp only [List.length_append, List.length_cons, List.length_nil]); omega)))) ?_
    refine GL_step rfl (PS_move rfl) ?_
    refine GL_nil ?_
    refine GQ_sub (.cons (k := 0) rfl (.cons (k := 66) rfl (.nil _))) ?_
    refine GQ_next3_ (k + 1) _ _ ?_ ?_ (.cons (k := 66) rfl (.cons (k := 0) rfl (.nil _))) (.refl _)
    · exact ⟨by omega, by omega, by rw [Turn.hereK_step hI21, if_f cp7, ← hI23], by assumption⟩
    · omega
   have c14p := kz c14
   try dsimp only at c14p
   obtain rfl : k = 6 := by omega
   refine G_exit ?_
   refine GQ_then_exit ?_
   refine GQ_then_exit ?_
   refine GQ_block_exit ?_
   refine GQ_end rfl .nil ?_
   intro w1 hS
   have hS := (hS.perm (Pulls.perm (.cons .head (.cons .head .nil)))).headL
   have hq : T.look = X := (show T.look = _ from if_f c1).trans hI23.symm
   refine ⟨_, ⟨?gqc14, rfl, ?hlc14, ?hBc14⟩, hS⟩
   case hBc14 => rw [hq]
   case hlc14 => rw [hq]; assumption
  have c13p := kz c13
  try dsimp only at c13p
  refine G_skip ?_
  refine GQ_sub (.cons (k := 0) rfl (.nil _)) ?_
  refine GQ_then ?_
  refine G_seq ?_
  refine G_region ?_
  refine GL_step rfl (PS_move rfl) ?_
  refine GL_nil ?_
  refine GQ_then ?_
  refine G_block ?_
  refine G_subF (.cons (k := 66) rfl (.cons (k := 0) rfl (.nil _))) ?_
  refine G_pull (.tail (.tail .head)) ?_
  refine G_pull (.tail .head) ?_
  refine G_loop3_ (fun (k : Int) (X : Turn) (h : Hd) => 0 ≤ k ∧ k ≤ 6 ∧ X = T.lookB.hereK k.toNat ∧ h.len = X.out.length) (fun (k : Int) (X : Turn) (h : Hd) => (6 - k).toNat) (fun (k : Int) (X : Turn) (h : Hd) => [(66, .int .i64 k)]) (fun (k : Int) (X : Turn) (h : Hd) => [Res.box b 57 (TurnV.enc ⟨X.w, X.b, h⟩), Res.own h 60 16 (X.out.flatMap Ing.Event.enc)]) (0) (_) (_) ?_ rfl rfl (fun k X h hI2 => ?_)
  · have hyl : y34.len = T.seen.length := y35
    have hlb : T.lookB = T.lookA := if_neg (show ¬ decide (0 < ((T.w.has 0 T.me.room).length : Int)) = true by rw [← hsee, ← hyl]; rw [c13]; decide)
    exact ⟨by omega, by omega, hlb.symm, by assumption⟩
  obtain ⟨hI21, hI22, hI23, hI24⟩ := hI2
  refine G_seq ?_
  refine G_region ?_
  refine GL_step rfl (PS_lss rfl rfl) ?_
  refine GL_nil ?_
  refine GQ_then ?_
  refine G_seq ?_
  refine G_cond rfl (fun c16 => ?_) (fun c16 => ?_)
  ·
   have c16p := kz c16
   try dsimp only at c16p
   have hnb := hw.be k
   have hXl := Turn.hereK_w T.lookB k.toNat
   have hBl := Turn.lookB_w T
   rw [← hI23] at hXl
   have hXw : X.w = T.w := hXl.1.trans hBl.1
   have hXb : X.b = T.b := hXl.2.1.trans hBl.2.1
   rw [← hXw] at hnb
   refine G_skip ?_
   refine GQ_sub (.cons (k := 0) rfl (.cons (k := 66) rfl (.nil _))) ?_
   refine GQ_then ?_
   refine G_seq ?_
   refine G_block ?_
   refine G_seq ?_
   refine G_region ?_
   refine GL_step rfl (PS_move rfl) ?_
   refine GL_step rfl (PS_assign rfl) ?_
   refine GL_nil ?_
   refine GQ_sub (.cons (k := 0) rfl (.cons (k := 6) rfl (.cons (k := 66) rfl (.nil _)))) ?_
   refine GQ_then ?_
   refine G_seq ?_
   refine G_planN (N := 18) [0, 0, 2, 6, 14, 31, 63, 127, 255, 511, 1023, 127, 2175, 6271, 14463, 127, 65535, 131071] mix (by kernel_rfl) rfl ?_
   refine Plan_float 0 rfl rfl (by kernel_rfl) (OK_s (EX_s (PS_move rfl))) ?_
   refine Plan_float 1 rfl rfl (by kernel_rfl) (OK_s (EX_s (PS_move rfl))) ?_
   refine Plan_float 2 rfl rfl (by kernel_rfl) (OK_s (EX_s (PS_nilCheck rfl))) ?_
   refine Plan_float 3 rfl rfl (by kernel_rfl) (OK_s (EX_s (PS_fieldAddr fa57_1 rfl))) ?_
   refine Plan_float 4 rfl rfl (by kernel_rfl) (OK_s (EX_s (PS_load rfl tys3 (.head _) TurnV.l1 rfl rfl))) ?_
   refine Plan_float 5 rfl rfl (by kernel_rfl) (OK_s (EX_s (PS_neq rfl rfl))) ?_
   refine Plan_float 6 rfl rfl (by kernel_rfl) (OK_s (EX_s (PS_move rfl))) ?_
   refine Plan_float 7 rfl rfl (by kernel_rfl) (OK_gt (t := 75) rfl rfl (fun q => EX_s (PS_move rfl))) ?_
   refine Plan_float 8 rfl rfl (by kernel_rfl) (OK_gt (t := 75) rfl rfl (fun q => EX_s (PS_nilCheck (cvE rfl q)))) ?_
   refine Plan_float 9 rfl rfl (by kernel_rfl) (OK_gt (t := 75) rfl rfl (fun q => EX_s (PS_fieldAddr fa57_0 (cvE rfl q)))) ?_
   refine Plan_float 10 rfl rfl (by kernel_rfl) (OK_gt (t := 75) rfl rfl (fun q => EX_s (PS_loadA (cvE rfl q) tya34 (.head _) TurnV.l0 rfl))) ?_
   refine Plan_float 11 rfl rfl (by kernel_rfl) (OK_gt (t := 75) rfl rfl (fun q => EX_s (PS_move rfl))) ?_
   refine Plan_float 12 rfl rfl (by kernel_rfl) (OK_gt (t := 75) rfl rfl (fun q => EX_s (PS_nilCheck (cvE rfl q)))) ?_
   refine Plan_float 13 rfl rfl (by kernel_rfl) (OK_gt (t := 75) rfl rfl (fun q => EX_s (PS_fieldAddr fa57_1 (cvE rfl q)))) ?_
   refine Plan_float 14 rfl rfl (by kernel_rfl) (OK_gt (t := 75) rfl rfl (fun q => EX_s (PS_load (cvE rfl q) tys3 (.head _) TurnV.l1 rfl rfl))) ?_
   refine Plan_float 15 rfl rfl (by kernel_rfl) (OK_gt (t := 75) rfl rfl (fun q => EX_s (PS_move rfl))) ?_
   refine Plan_float 16 rfl rfl (by kernel_rfl) (OK_gt (t := 75) rfl rfl (fun q => EX_c (PC_of cf53 (.cons (cvE rfl q) (.cons (cvE rfl q) (.cons (cvE rfl q) .nil))) (fun w hS => ref_IsSeen_spec _ _ _ w)))) ?_
   refine Plan_float 17 rfl rfl (by kernel_rfl) (OK_s (EX_s (PS_and rfl rfl (fun h => h)))) ?_
   refine Plan_end (by kernel_rfl) ?_
   refine GQ_sub (.cons (k := 0) rfl (.cons (k := 6) rfl (.cons (k := 66) rfl (.cons (k := 86) rfl (.nil _))))) ?_
   refine GQ_then ?_
   refine G_cond rfl (fun c17 => ?_) (fun c17 => ?_)
   ·
    have c17p := kz c17
    try dsimp only at c17p
    have cp7 : (!decide (k = T.lookB.b) && T.lookB.w.sees T.lookB.b k) = true := by rw [hBl.1, hBl.2.1, ← hXw, ← hXb]; exact c17
    refine G_region ?_
    refine GL_step rfl (PS_move rfl) ?_
    refine GL_step rfl (PS_move rfl) ?_
    refine GL_step rfl (PS_move rfl) ?_
    refine GL_step rfl (PS_nilCheck rfl) ?_
    refine GL_step rfl (PS_fieldAddr fa57_0 rfl) ?_
    refine GL_step rfl (PS_fieldAddr fa34_2 rfl) ?_
    refine GL_step rfl (PS_indexAddr ia32 rfl rfl (by first | omega | exact hb.1 | exact hb.2 | exact hr.1 | exact hr.2 | (dsimp only; omega) | (simp only [List.length_append, List.length_cons, List.length_nil]; omega) | ((try dsimp only at *); (try simp only [List.length_append, List.length_cons, List.length_nil]); omega)) (by first | omega | exact hb.1 | exact hb.2 | exact hr.1 | exact hr.2 | (dsimp only; omega) | (simp only [List.length_append, List.length_cons, List.length_nil]; omega) | ((try dsimp only at *); (try simp only [List.length_append, List.length_cons, List.length_nil]); omega))) ?_
    refine GL_step rfl (PS_fieldAddr fa31_0 rfl) ?_
    refine GL_step rfl (PS_load rfl tys9 (.head _) (((TurnV.l0.comp Land.l2).comp (Lens.arr (n := 6) Being.fl (by first | omega | exact hb.1 | exact hb.2 | exact hr.1 | exact hr.2 | (dsimp only; omega) | (simp only [List.length_append, List.length_cons, List.length_nil]; omega) | ((try dsimp only at *); (try simp only [List.length_append, List.length_cons, List.length_nil]); omega)) (by first | omega | exact hb.1 | exact hb.2 | exact hr.1 | exact hr.2 | (dsimp only; omega) | (simp only [List.length_append, List.length_cons, List.length_nil]; omega) | ((try dsimp only at *); (try simp only [List.length_append, List.length_cons, List.length_nil]); omega)))).comp Being.l0) rfl rfl) ?_
    refine GL_step rfl (PS_add_str rfl rfl (by first | omega | exact hb.1 | exact hb.2 | exact hr.1 | exact hr.2 | (dsimp only; omega) | (simp only [List.length_append, List.length_cons, List.length_nil]; omega) | ((try dsimp only at *); (try simp only [List.length_append, List.length_cons, List.length_nil]); omega))) ?_
    refine GL_callL rfl cf39 (.cons rfl (.cons rfl .nil)) (.cons .head (.cons .head .nil)) (ref_turn_tell_spec _ X _ _ (by assumption) (by rw [hXb]; exact hb) (by have := hXl.2.2; have := hBl.2.2; omega)) (fun v44 B hv => ?_)
    obtain ⟨y45, rfl, y46, rfl⟩ := hv
    refine GL_nil ?_
    refine GQ_sub (.cons (k := 0) rfl (.cons (k := 66) rfl (.nil _))) ?_
    refine GQ_block ?_
    refine GQ_then ?_
    refine G_region ?_
    refine GL_step rfl (PS_add rfl rfl (IntWalk.i64_in _ (by first | omega | exact hb.1 | exact hb.2 | exact hr.1 | exact hr.2 | (dsimp only; omega) | (simp only [List.length_append, List.length_cons, List.length_nil]; omega) | ((try dsimp only at *); (try simp only [List.length_append, List.length_cons, List.length_nil]); omega)))) ?_
    refine GL_step rfl (PS_move rfl) ?_
    refine GL_nil ?_
    refine GQ_sub (.cons (k := 0) rfl (.cons (k := 66) rfl (.nil _))) ?_
    refine GQ_next3_ (k + 1) _ _ ?_ ?_ (.cons (k := 66) rfl (.cons (k := 0) rfl (.nil _))) (.refl _)
    · exact ⟨by omega, by omega, by rw [Turn.hereK_step hI21, if_t cp7, ← hI23, hBl.1, ← hXw], by assumption⟩
    · omega
   have c17p := kz c17
   try dsimp only at c17p
   have cp7 : (!decide (k = T.lookB.b) && T.lookB.w.sees T.lookB.b k) = false := by rw [hBl.1, hBl.2.1, ← hXw, ← hXb]; exact c17
   refine G_skip ?_
   refine GQ_sub (.cons (k := 0) rfl (.cons (k := 66) rfl (.nil _))) ?_
   refine GQ_block ?_
   refine GQ_then ?_
   refine G_region ?_
   refine GL_step rfl (PS_add rfl rfl (IntWalk.i64_in _ (by first | omega | exact hb.1 | exact hb.2 | exact hr.1 | exact hr.2 | (dsimp only; omega) | (simp only [List.length_append, List.length_cons, List.length_nil]; omega) | ((try dsimp only at *); (try simp only [List.length_append, List.length_cons, List.length_nil]); omega)))) ?_
   refine GL_step rfl (PS_move rfl) ?_
   refine GL_nil ?_
   refine GQ_sub (.cons (k := 0) rfl (.cons (k := 66) rfl (.nil _))) ?_
   refine GQ_next3_ (k + 1) _ _ ?_ ?_ (.cons (k := 66) rfl (.cons (k := 0) rfl (.nil _))) (.refl _)
   · exact ⟨by omega, by omega, by rw [Turn.hereK_step hI21, if_f cp7, ← hI23], by assumption⟩
   · omega
  have c16p := kz c16
  try dsimp only at c16p
  obtain rfl : k = 6 := by omega
  refine G_exit ?_
  refine GQ_then_exit ?_
  refine GQ_then_exit ?_
  refine GQ_block_exit ?_
  refine GQ_end rfl .nil ?_
  intro w1 hS
  have hS := (hS.perm (Pulls.perm (.cons .head (.cons .head .nil)))).headL
  have hq : T.look = X := (show T.look = _ from if_f c1).trans hI23.symm
  refine ⟨_, ⟨?gqc16, rfl, ?hlc16, ?hBc16⟩, hS⟩
  case hBc16 => rw [hq]
  case hlc16 => rw [hq]; assumption
theorem ref_RoundOf_spec (X : Land) (d : Int) (hw : X.Brief) : CtrR Tryz.prog 13 #[.agg X.enc.toArray, .int .i64 d] [] (fun w => (GV 0 Land.verbsV w ∧ 0 ∉ feet [])) (fun v B => ∃ h : Hd, v = .tuple #[.agg ((Turn.roundR X d).1.enc).toArray, h.val, .int .i64 (Turn.roundR X d).2.2] ∧ h.len = (Turn.roundR X d).2.1.length ∧ B = [Res.own h 60 16 ((Turn.roundR X d).2.1.flatMap Ing.Event.enc)]) := by
 intro w hS0 hH
 obtain ⟨gl0, gm0⟩ := hH
 have hm := tmod3 d
 refine Ret_body _ _ Tryz.func13 rfl rfl rfl (hS0) ?_
 refine G_seq ?_
 refine G_region ?_
 refine GL_box rfl rfl rfl (fun b1 => ?_)
 refine GL_alloc rfl zv34 rfl (fun b2 => ?_)
 refine GL_step rfl (PS_assign rfl) ?_
 refine GL_step rfl (PS_assign rfl) ?_
 refine GL_nil ?_
 refine GQ_sub (.cons (k := 1) rfl (.cons (k := 2) rfl (.cons (k := 4) rfl (.nil _)))) ?_
 refine GQ_then ?_
 refine G_seq ?_
 refine G_seq ?_
 refine G_region ?_
 refine GL_step rfl (PS_loadA rfl tya34 (.tail _ (.head _)) (Lens.id Land.fl.len Land.fl.one) rfl) ?_
 refine GL_pure rfl cf19 (.cons rfl .nil) (fun w hS => ref_GoodLand_spec _ w) ?_
 refine GL_step rfl (PS_not rfl) ?_
 refine GL_nil ?_
 refine GQ_sub (.cons (k := 1) rfl (.cons (k := 2) rfl (.cons (k := 4) rfl (.cons (k := 14) rfl (.nil _))))) ?_
 refine GQ_then ?_
 refine G_cond rfl (fun c1 => ?_) (fun c1 => ?_)
 ·
  have c1p := kz c1
  try dsimp only at c1p
  rw [Land.refGood_eq] at c1
  refine G_seq ?_
  refine G_region ?_
  refine GL_step rfl (PS_loadA rfl tya34 (.tail _ (.head _)) (Lens.id Land.fl.len Land.fl.one) rfl) ?_
  refine GL_unit (PU_store (Lens.id Land.fl.len Land.fl.one) rfl rfl rfl sz34 rfl .head) ?_
  refine GL_step rfl (PS_assign rfl) ?_
  refine GL_step rfl (PS_assign rfl) ?_
  refine GL_nil ?_
  refine GQ_sub (.cons (k := 4) rfl (.cons (k := 5) rfl (.cons (k := 6) rfl (.nil _)))) ?_
  refine GQ_then ?_
  refine G_ret ?_
  refine GQ_then_ret ?_
  refine GQ_ret rfl (.cell rfl (.head _) (.inl ⟨(by rw [Land.fl.len]; exact tya34), rfl⟩) (.tmp rfl (.tmp rfl .nil))) ?_
  intro w1 hS
  have hS := hS.own_nil 60 16
  have hS := (hS.perm (Pulls.perm (.cons .head .nil))).headL
  have hq : Turn.roundR X d = _ := if_t c1
  refine ⟨_, ⟨⟨none, 0, 0⟩, ?hv, ?hl, ?hB⟩, hS⟩
  case hv => rw [hq]; rfl
  case hl => rw [hq]; rfl
  case hB => rw [hq]; rfl
 have c1p := kz c1
 try dsimp only at c1p
 rw [Land.refGood_eq] at c1
 refine G_skip ?_
 refine GQ_sub (.cons (k := 1) rfl (.cons (k := 2) rfl (.cons (k := 4) rfl (.nil _)))) ?_
 refine GQ_then ?_
 refine G_seq ?_
 refine G_region ?_
 refine GL_step rfl (PS_loadA rfl tya34 (.tail _ (.head _)) (Lens.id Land.fl.len Land.fl.one) rfl) ?_
 refine GL_step rfl (PS_build pl57 zv57 rfl (.cons TurnV.l0 rfl rfl rfl .nil)) ?_
 refine GL_box rfl rfl rfl (fun b3 => ?_)
 refine GL_step rfl (PS_assign rfl) ?_
 refine GL_nil ?_
 refine GQ_sub (.cons (k := 1) rfl (.cons (k := 4) rfl (.cons (k := 7) rfl (.nil _)))) ?_
 refine GQ_then ?_
 refine G_seq ?_
 refine G_seq ?_
 refine G_nilF Ing.Event.enc 60 16 ?_
 refine G_region ?_
 refine GL_step rfl (PS_move rfl) ?_
 refine GL_nil ?_
 refine GQ_then ?_
 refine G_block ?_
 refine G_subF (.cons (k := 19) rfl (.cons (k := 1) rfl (.cons (k := 4) rfl (.cons (k := 7) rfl (.nil _))))) ?_
 refine G_pull (.tail .head) ?_
 refine G_pull (.tail .head) ?_
 refine G_loop5_ (fun (k : Int) (w : Land) (o : List Ing.Event) (q : Int) (h : Hd) => 0 ≤ k ∧ k ≤ 6 ∧ Turn.roundK X d k.toNat = (w, o) ∧ w.good = true ∧ w.Brief ∧ (o.length : Int) ≤ 13 * k ∧ h.len = o.length ∧ 0 ≤ q ∧ q < 6) (fun (k : Int) (w : Land) (o : List Ing.Event) (q : Int) (h : Hd) => (6 - k).toNat) (fun (k : Int) (w : Land) (o : List Ing.Event) (q : Int) (h : Hd) => [(19, .int .i64 k)]) (fun (k : Int) (w : Land) (o : List Ing.Event) (q : Int) (h : Hd) => [Res.own h 60 16 (o.flatMap Ing.Event.enc), Res.box b3 57 (TurnV.enc ⟨w, q, h⟩)]) (0) (X) ([]) (0) (_) ?_ rfl rfl (fun k w o q h hI1 => ?_)
 · exact ⟨by omega, by omega, rfl, by simpa using c1, hw, by simp, rfl, by omega, by omega⟩
 obtain ⟨hI11, hI12, hI13, hI14, hI15, hI16, hI17, hI18⟩ := hI1
 refine G_seq ?_
 refine G_region ?_
 refine GL_step rfl (PS_lss rfl rfl) ?_
 refine GL_nil ?_
 refine GQ_then ?_
 refine G_seq ?_
 refine G_cond rfl (fun c2 => ?_) (fun c2 => ?_)
 ·
  have c2p := kz c2
  try dsimp only at c2p
  have hbe := Turn.good_be hI14 hI11 (show k < 6 by omega)
  have hfo := hbe.foe
  refine G_skip ?_
  refine GQ_sub (.cons (k := 1) rfl (.cons (k := 4) rfl (.cons (k := 7) rfl (.cons (k := 19) rfl (.nil _))))) ?_
  refine GQ_then ?_
  refine G_seq ?_
  refine G_block ?_
  refine G_seq ?_
  refine G_region ?_
  refine GL_step rfl (PS_move rfl) ?_
  refine GL_step rfl (PS_assign rfl) ?_
  refine GL_nil ?_
  refine GQ_sub (.cons (k := 1) rfl (.cons (k := 4) rfl (.cons (k := 7) rfl (.cons (k := 8) rfl (.cons (k := 19) rfl (.nil _)))))) ?_
  refine GQ_then ?_
  refine G_seq ?_
  refine G_region ?_
  refine GL_step rfl (PS_move rfl) ?_
  refine GL_step rfl (PS_move rfl) ?_
  refine GL_step rfl (PS_nilCheck rfl) ?_
  refine GL_step rfl (PS_fieldAddr fa57_0 rfl) ?_
  refine GL_step rfl (PS_fieldAddr fa34_2 rfl) ?_
  refine GL_step rfl (PS_indexAddr ia32 rfl rfl (by first | omega | exact hf0.1 | exact hf0.2 | (dsimp only; omega) | (have q1 := tmod3 (d.tmod 3 + 3); omega) | (have q1 := tmod3 (d.tmod 3 + 3); have q2 := tmod3 ((d.tmod 3 + 3).tmod 3 + k); omega)) (by first | omega | exact hf0.1 | exact hf0.2 | (dsimp only; omega) | (have q1 := tmod3 (d.tmod 3 + 3); omega) | (have q1 := tmod3 (d.tmod 3 + 3); have q2 := tmod3 ((d.tmod 3 + 3).tmod 3 + k); omega))) ?_
  refine GL_step rfl (PS_loadA rfl tya31 (.tail _ (.head _)) ((TurnV.l0.comp Land.l2).comp (Lens.arr (n := 6) Being.fl (by first | omega | exact hf0.1 | exact hf0.2 | (dsimp only; omega) | (have q1 := tmod3 (d.tmod 3 + 3); omega) | (have q1 := tmod3 (d.tmod 3 + 3); have q2 := tmod3 ((d.tmod 3 + 3).tmod 3 + k); omega)) (by first | omega | exact hf0.1 | exact hf0.2 | (dsimp only; omega) | (have q1 := tmod3 (d.tmod 3 + 3); omega) | (have q1 := tmod3 (d.tmod 3 + 3); have q2 := tmod3 ((d.tmod 3 + 3).tmod 3 + k); omega)))) rfl) ?_
  refine GL_alloc rfl zv31 rfl (fun b4 => ?_)
  refine GL_unit (PU_store (Lens.id Being.fl.len Being.fl.one) rfl rfl rfl sz31 rfl .head) ?_
  refine GL_nil ?_
  refine GQ_sub (.cons (k := 1) rfl (.cons (k := 4) rfl (.cons (k := 7) rfl (.cons (k := 8) rfl (.cons (k := 9) rfl (.cons (k := 19) rfl (.nil _))))))) ?_
  refine GQ_then ?_
  refine G_seq ?_
  refine G_seq ?_
  refine G_region ?_
  refine GL_step rfl (PS_fieldAddr fa31_5 rfl) ?_
  refine GL_step rfl (PS_load rfl tys3 (.head _) Being.l5 rfl rfl) ?_
  refine GL_step rfl (PS_eql rfl rfl) ?_
  refine GL_nil ?_
  refine GQ_sub (.cons (k := 1) rfl (.cons (k := 4) rfl (.cons (k := 7) rfl (.cons (k := 8) rfl (.cons (k := 9) rfl (.cons (k := 19) rfl (.cons (k := 31) rfl (.nil _)))))))) ?_
  refine GQ_then ?_
  refine G_cond rfl (fun c3 => ?_) (fun c3 => ?_)
  ·
   have c3p := kz c3
   try dsimp only at c3p
   have hce : (!(w.beings.at k).here || decide ((w.beings.at k).foe = 0)) = true := by rw [show decide ((w.beings.at k).foe = 0) = true from c3]; simp
   refine G_exit ?_
   refine GQ_then_exit ?_
   refine GQ_block_exit ?_
   refine GQ_sub (.cons (k := 1) rfl (.cons (k := 4) rfl (.cons (k := 7) rfl (.cons (k := 19) rfl (.nil _))))) ?_
   refine GQ_then ?_
   refine G_region ?_
   refine GL_step rfl (PS_add rfl rfl (IntWalk.i64_in _ (by first | omega | exact hf0.1 | exact hf0.2 | (dsimp only; omega) | (have q1 := tmod3 (d.tmod 3 + 3); omega) | (have q1 := tmod3 (d.tmod 3 + 3); have q2 := tmod3 ((d.tmod 3 + 3).tmod 3 + k); omega)))) ?_
   refine GL_step rfl (PS_move rfl) ?_
   refine GL_nil ?_
   refine GQ_sub (.cons (k := 1) rfl (.cons (k := 4) rfl (.cons (k := 7) rfl (.cons (k := 19) rfl (.nil _))))) ?_
   refine GQ_next5_ (k + 1) _ _ _ _ ?_ ?_ (.cons (k := 19) rfl (.cons (k := 1) rfl (.cons (k := 4) rfl (.cons (k := 7) rfl (.nil _))))) (.cons _ (.refl _))
   · have hrg := Turn.roundS_good (s := (w, o)) (draw := d) hI14 hI15 hI11 (by omega)
     have hrs : Turn.roundS d k (w, o) = (w, o) := if_t hce
     rw [hrs] at hrg
     exact ⟨by omega, by omega, by rw [Turn.roundK_step hI11, hI13, hrs]; (try rfl), hrg.1, hrg.2.1, (by have hz : _ ≤ (w, o).2.length + 13 := hrg.2.2; have hz2 : (w, o).2.length = o.length := rfl; (try dsimp only at *); omega), by assumption, hI18⟩
   · omega
  have c3p := kz c3
  try dsimp only at c3p
  have hce : (!(w.beings.at k).here || decide ((w.beings.at k).foe = 0)) = false := by rw [Turn.here_of hbe c3p, show decide ((w.beings.at k).foe = 0) = false from c3]; rfl
  have hf0 : 0 ≤ ((w.beings.at k).foe - 1) ∧ ((w.beings.at k).foe - 1) < 6 := by omega
  have hbf := (Turn.good_be hI14 hf0.1 hf0.2).health
  refine G_skip ?_
  refine GQ_sub (.cons (k := 1) rfl (.cons (k := 4) rfl (.cons (k := 7) rfl (.cons (k := 8) rfl (.cons (k := 9) rfl (.cons (k := 19) rfl (.nil _))))))) ?_
  refine GQ_then ?_
  refine G_seq ?_
  refine G_region ?_
  refine GL_step rfl (PS_fieldAddr fa31_5 rfl) ?_
  refine GL_step rfl (PS_load rfl tys3 (.head _) Being.l5 rfl rfl) ?_
  refine GL_step rfl (PS_sub rfl rfl (IntWalk.i64_in _ (by first | omega | exact hf0.1 | exact hf0.2 | (dsimp only; omega) | (have q1 := tmod3 (d.tmod 3 + 3); omega) | (have q1 := tmod3 (d.tmod 3 + 3); have q2 := tmod3 ((d.tmod 3 + 3).tmod 3 + k); omega)))) ?_
  refine GL_step rfl (PS_assign rfl) ?_
  refine GL_nil ?_
  refine GQ_sub (.cons (k := 1) rfl (.cons (k := 4) rfl (.cons (k := 7) rfl (.cons (k := 8) rfl (.cons (k := 9) rfl (.cons (k := 10) rfl (.cons (k := 19) rfl (.nil _)))))))) ?_
  refine GQ_then ?_
  refine G_seq ?_
  refine G_seq ?_
  refine G_planN (N := 20) [0, 1, 3, 7, 0, 31, 63, 127, 255, 255, 511, 1535, 3583, 8191, 16383, 32767, 255, 65791, 262143, 524287] mix (by kernel_rfl) rfl ?_
  refine Plan_float 0 rfl rfl (by kernel_rfl) (OK_s (EX_s (PS_move rfl))) ?_
  refine Plan_float 1 rfl rfl (by kernel_rfl) (OK_s (EX_s (PS_nilCheck rfl))) ?_
  refine Plan_float 2 rfl rfl (by kernel_rfl) (OK_s (EX_s (PS_fieldAddr fa57_0 rfl))) ?_
  refine Plan_float 3 rfl rfl (by kernel_rfl) (OK_s (EX_s (PS_loadA rfl tya34 (.tail _ (.tail _ (.head _))) TurnV.l0 rfl))) ?_
  refine Plan_float 4 rfl rfl (by kernel_rfl) (OK_s (EX_s (PS_move rfl))) ?_
  refine Plan_float 5 rfl rfl (by kernel_rfl) (OK_s (EX_c (PC_of cf25 (.cons rfl (.cons rfl .nil)) (fun w hS => ref_about_spec _ _ w)))) ?_
  refine Plan_float 6 rfl rfl (by kernel_rfl) (OK_s (EX_s (PS_not rfl))) ?_
  refine Plan_float 7 rfl rfl (by kernel_rfl) (OK_s (EX_s (PS_move rfl))) ?_
  refine Plan_float 8 rfl rfl (by kernel_rfl) (OK_gf (t := 42) rfl rfl (fun q => EX_s (PS_move rfl))) ?_
  refine Plan_float 9 rfl rfl (by kernel_rfl) (OK_gf (t := 42) rfl rfl (fun q => EX_s (PS_move rfl))) ?_
  refine Plan_float 10 rfl rfl (by kernel_rfl) (OK_gf (t := 42) rfl rfl (fun q => EX_s (PS_nilCheck (cvE rfl (by rw [q]; rfl))))) ?_
  refine Plan_float 11 rfl rfl (by kernel_rfl) (OK_gf (t := 42) rfl rfl (fun q => EX_s (PS_fieldAddr fa57_0 (cvE rfl (by rw [q]; rfl))))) ?_
  refine Plan_float 12 rfl rfl (by kernel_rfl) (OK_gf (t := 42) rfl rfl (fun q => EX_s (PS_fieldAddr fa34_2 (cvE rfl (by rw [q]; rfl))))) ?_
  refine Plan_float 13 rfl rfl (by kernel_rfl) (OK_gf (t := 42) rfl rfl (fun q => by have q1 := q; (try simp at q1); exact EX_s (PS_indexAddr ia32 (cvE rfl (by rw [q]; rfl)) (cvE rfl (by rw [q]; rfl)) (by first | omega | exact hf0.1 | exact hf0.2 | (dsimp only; omega) | (have q1 := tmod3 (d.tmod 3 + 3); omega) | (have q1 := tmod3 (d.tmod 3 + 3); have q2 := tmod3 ((d.tmod 3 + 3).tmod 3 + k); omega)) (by first | omega | exact hf0.1 | exact hf0.2 | (dsimp only; omega) | (have q1 := tmod3 (d.tmod 3 + 3); omega) | (have q1 := tmod3 (d.tmod 3 + 3); have q2 := tmod3 ((d.tmod 3 + 3).tmod 3 + k); omega))))) ?_
  refine Plan_float 14 rfl rfl (by kernel_rfl) (OK_gf (t := 42) rfl rfl (fun q => EX_s (PS_fieldAddr fa31_3 (cvE rfl (by rw [q]; rfl))))) ?_
  refine Plan_float 15 rfl rfl (by kernel_rfl) (OK_gf (t := 42) rfl rfl (fun q => by have q1 := q; (try simp at q1); exact EX_s (PS_load (cvE rfl (by rw [q]; rfl)) tys3 (.tail _ (.tail _ (.head _))) (((TurnV.l0.comp Land.l2).comp (Lens.arr (n := 6) Being.fl (by first | omega | exact hf0.1 | exact hf0.2 | (dsimp only; omega) | (have q1 := tmod3 (d.tmod 3 + 3); omega) | (have q1 := tmod3 (d.tmod 3 + 3); have q2 := tmod3 ((d.tmod 3 + 3).tmod 3 + k); omega)) (by first | omega | exact hf0.1 | exact hf0.2 | (dsimp only; omega) | (have q1 := tmod3 (d.tmod 3 + 3); omega) | (have q1 := tmod3 (d.tmod 3 + 3); have q2 := tmod3 ((d.tmod 3 + 3).tmod 3 + k); omega)))).comp Being.l3) rfl rfl))) ?_
  refine Plan_float 16 rfl rfl (by kernel_rfl) (OK_gf (t := 42) rfl rfl (fun q => EX_s (PS_fieldAddr fa31_3 rfl))) ?_
  refine Plan_float 17 rfl rfl (by kernel_rfl) (OK_gf (t := 42) rfl rfl (fun q => EX_s (PS_load (cvE rfl (by rw [q]; rfl)) tys3 (.head _) Being.l3 rfl rfl))) ?_
  refine Plan_float 18 rfl rfl (by kernel_rfl) (OK_gf (t := 42) rfl rfl (fun q => EX_s (PS_neq (cvE rfl (by rw [q]; rfl)) (cvE rfl (by rw [q]; rfl))))) ?_
  refine Plan_float 19 rfl rfl (by kernel_rfl) (OK_s (EX_s (PS_or rfl rfl (fun h => by rw [h]; rfl)))) ?_
  refine Plan_end (by kernel_rfl) ?_
  refine GQ_sub (.cons (k := 1) rfl (.cons (k := 4) rfl (.cons (k := 7) rfl (.cons (k := 8) rfl (.cons (k := 10) rfl (.cons (k := 19) rfl (.cons (k := 54) rfl (.nil _)))))))) ?_
  refine GQ_then ?_
  refine G_cond rfl (fun c4 => ?_) (fun c4 => ?_)
  ·
   have c4p := kz c4
   try dsimp only at c4p
   have hc4 : (!(w.beings.at ((w.beings.at k).foe - 1)).here || !decide ((w.beings.at ((w.beings.at k).foe - 1)).room = (w.beings.at k).room)) = true := by rw [← Turn.being_rng' hf0.1 hf0.2]; exact c4
   refine G_seq ?_
   refine G_region ?_
   refine GL_step rfl (PS_move rfl) ?_
   refine GL_step rfl (PS_move rfl) ?_
   refine GL_step rfl (PS_nilCheck rfl) ?_
   refine GL_step rfl (PS_fieldAddr fa57_0 rfl) ?_
   refine GL_step rfl (PS_fieldAddr fa34_2 rfl) ?_
   refine GL_step rfl (PS_indexAddr ia32 rfl rfl (by first | omega | exact hf0.1 | exact hf0.2 | (dsimp only; omega) | (have q1 := tmod3 (d.tmod 3 + 3); omega) | (have q1 := tmod3 (d.tmod 3 + 3); have q2 := tmod3 ((d.tmod 3 + 3).tmod 3 + k); omega)) (by first | omega | exact hf0.1 | exact hf0.2 | (dsimp only; omega) | (have q1 := tmod3 (d.tmod 3 + 3); omega) | (have q1 := tmod3 (d.tmod 3 + 3); have q2 := tmod3 ((d.tmod 3 + 3).tmod 3 + k); omega))) ?_
   refine GL_step rfl (PS_fieldAddr fa31_5 rfl) ?_
   refine GL_unit (PU_store (((TurnV.l0.comp Land.l2).comp (Lens.arr (n := 6) Being.fl (by first | omega | exact hf0.1 | exact hf0.2 | (dsimp only; omega) | (have q1 := tmod3 (d.tmod 3 + 3); omega) | (have q1 := tmod3 (d.tmod 3 + 3); have q2 := tmod3 ((d.tmod 3 + 3).tmod 3 + k); omega)) (by first | omega | exact hf0.1 | exact hf0.2 | (dsimp only; omega) | (have q1 := tmod3 (d.tmod 3 + 3); omega) | (have q1 := tmod3 (d.tmod 3 + 3); have q2 := tmod3 ((d.tmod 3 + 3).tmod 3 + k); omega)))).comp Being.l5) rfl rfl rfl sz3 rfl (.tail (.tail .head))) ?_
   refine GL_nil ?_
   refine GQ_sub (.cons (k := 1) rfl (.cons (k := 4) rfl (.cons (k := 7) rfl (.cons (k := 19) rfl (.nil _))))) ?_
   refine GQ_then ?_
   refine G_exit ?_
   refine GQ_then_exit ?_
   refine GQ_block_exit ?_
   refine GQ_then ?_
   refine G_region ?_
   refine GL_step rfl (PS_add rfl rfl (IntWalk.i64_in _ (by first | omega | exact hf0.1 | exact hf0.2 | (dsimp only; omega) | (have q1 := tmod3 (d.tmod 3 + 3); omega) | (have q1 := tmod3 (d.tmod 3 + 3); have q2 := tmod3 ((d.tmod 3 + 3).tmod 3 + k); omega)))) ?_
   refine GL_step rfl (PS_move rfl) ?_
   refine GL_nil ?_
   refine GQ_sub (.cons (k := 1) rfl (.cons (k := 4) rfl (.cons (k := 7) rfl (.cons (k := 19) rfl (.nil _))))) ?_
   refine GQ_next5_ (k + 1) _ _ _ _ ?_ ?_ (.cons (k := 19) rfl (.cons (k := 1) rfl (.cons (k := 4) rfl (.cons (k := 7) rfl (.nil _))))) (.cons _ (.refl _))
   · have hrg := Turn.roundS_good (s := (w, o)) (draw := d) hI14 hI15 hI11 (by omega)
     have hrs : Turn.roundS d k (w, o) = _ := (if_f hce).trans (if_t hc4)
     rw [hrs] at hrg
     exact ⟨by omega, by omega, by rw [Turn.roundK_step hI11, hI13, hrs]; (try rfl), hrg.1, hrg.2.1, (by have hz : _ ≤ (w, o).2.length + 13 := hrg.2.2; have hz2 : (w, o).2.length = o.length := rfl; (try dsimp only at *); omega), by assumption, hI18⟩
   · omega
  have c4p := kz c4
  try dsimp only at c4p
  have hc4 : (!(w.beings.at ((w.beings.at k).foe - 1)).here || !decide ((w.beings.at ((w.beings.at k).foe - 1)).room = (w.beings.at k).room)) = false := by rw [← Turn.being_rng' hf0.1 hf0.2]; exact c4
  have hhe : (w.beings.at ((w.beings.at k).foe - 1)).here = true := by have := c4; rw [Turn.being_rng' hf0.1 hf0.2] at this; simp only [kOb, kNb] at this; exact this.1
  have hsf := Turn.struck_fit (b := k) (n := Turn.hit d k) hI14 hI15 (foe := ((w.beings.at k).foe - 1)) hf0.1 hf0.2 hhe
  have hht := Turn.hit_rng (draw := d) hI11
  refine G_skip ?_
  refine GQ_sub (.cons (k := 1) rfl (.cons (k := 4) rfl (.cons (k := 7) rfl (.cons (k := 8) rfl (.cons (k := 10) rfl (.cons (k := 19) rfl (.nil _))))))) ?_
  refine GQ_then ?_
  refine G_seq ?_
  have hhq := (Turn.hit_eq (d := d) hI11 (show k < 6 by omega)).2
  refine G_region ?_
  refine GL_bs (cs := encA (n := 3) encI (Vector.replicate 3 default)) (cs' := (([1, 2, 3] : List Int).flatMap encI)) rfl Tryz.underlying66 sz3 zv3 (by decide) (by decide) (by kernel_rfl) (.cons (Lens.arr (n := 3) (i := 0) flI (by decide) (by decide)) rfl rfl rfl (.cons (Lens.arr (n := 3) (i := 1) flI (by decide) (by decide)) rfl rfl rfl (.cons (Lens.arr (n := 3) (i := 2) flI (by decide) (by decide)) rfl rfl rfl .nil))) rfl (fun b5 => ?_)
  refine GL_step rfl (PS_move rfl) ?_
  refine GL_step rfl (PS_rem rfl rfl (by first | omega | exact hf0.1 | exact hf0.2 | (dsimp only; omega) | (have q1 := tmod3 (d.tmod 3 + 3); omega) | (have q1 := tmod3 (d.tmod 3 + 3); have q2 := tmod3 ((d.tmod 3 + 3).tmod 3 + k); omega))) ?_
  refine GL_step rfl (PS_add rfl rfl (IntWalk.i64_in _ (by first | omega | exact hf0.1 | exact hf0.2 | (dsimp only; omega) | (have q1 := tmod3 (d.tmod 3 + 3); omega) | (have q1 := tmod3 (d.tmod 3 + 3); have q2 := tmod3 ((d.tmod 3 + 3).tmod 3 + k); omega)))) ?_
  refine GL_step rfl (PS_rem rfl rfl (by first | omega | exact hf0.1 | exact hf0.2 | (dsimp only; omega) | (have q1 := tmod3 (d.tmod 3 + 3); omega) | (have q1 := tmod3 (d.tmod 3 + 3); have q2 := tmod3 ((d.tmod 3 + 3).tmod 3 + k); omega))) ?_
  refine GL_step rfl (PS_move rfl) ?_
  refine GL_step rfl (PS_add rfl rfl (IntWalk.i64_in _ (by first | omega | exact hf0.1 | exact hf0.2 | (dsimp only; omega) | (have q1 := tmod3 (d.tmod 3 + 3); omega) | (have q1 := tmod3 (d.tmod 3 + 3); have q2 := tmod3 ((d.tmod 3 + 3).tmod 3 + k); omega)))) ?_
  refine GL_step rfl (PS_rem rfl rfl (by first | omega | exact hf0.1 | exact hf0.2 | (dsimp only; omega) | (have q1 := tmod3 (d.tmod 3 + 3); omega) | (have q1 := tmod3 (d.tmod 3 + 3); have q2 := tmod3 ((d.tmod 3 + 3).tmod 3 + k); omega))) ?_
  refine GL_step rfl (PS_idxS is66 (by decide) (Kn.own (.head _)) rfl rfl (by omega) (by have hq := (Turn.hit_eq (d := d) hI11 (show k < 6 by omega)).2; (try simp only [List.length_cons, List.length_nil]); omega)) ?_
  refine GL_step rfl (PS_ldInt rfl tys3 (Kn.own (.head _)) (by have hq := (Turn.hit_eq (d := d) hI11 (show k < 6 by omega)).2; simp only [List.length_cons, List.length_nil]; omega)) ?_
  refine GL_step rfl (PS_assign rfl) ?_
  refine GL_nil ?_
  refine GQ_sub (.cons (k := 1) rfl (.cons (k := 4) rfl (.cons (k := 7) rfl (.cons (k := 8) rfl (.cons (k := 10) rfl (.cons (k := 11) rfl (.cons (k := 19) rfl (.nil _)))))))) ?_
  refine GQ_then ?_
  refine G_seq ?_
  rw [(Turn.hit_eq (d := d) hI11 (show k < 6 by omega)).1]
  refine G_region ?_
  refine GL_step rfl (PS_move rfl) ?_
  refine GL_step rfl (PS_move rfl) ?_
  refine GL_step rfl (PS_nilCheck rfl) ?_
  refine GL_step rfl (PS_fieldAddr fa57_1 rfl) ?_
  refine GL_unit (PU_store TurnV.l1 rfl rfl rfl sz3 rfl (.tail (.tail (.tail .head)))) ?_
  refine GL_nil ?_
  refine GQ_sub (.cons (k := 1) rfl (.cons (k := 4) rfl (.cons (k := 7) rfl (.cons (k := 10) rfl (.cons (k := 11) rfl (.cons (k := 19) rfl (.nil _))))))) ?_
  refine GQ_then ?_
  refine G_seq ?_
  refine G_region ?_
  refine GL_step rfl (PS_move rfl) ?_
  refine GL_step rfl (PS_move rfl) ?_
  refine GL_step rfl (PS_move rfl) ?_
  refine GL_callL rfl cf20 (.cons rfl (.cons rfl (.cons rfl (.cons rfl (.cons rfl (.cons rfl (.cons rfl .nil))))))) (.cons (.tail (.tail (.tail .head))) (.cons (.tail (.tail .head)) .nil)) (ref_turn_add_spec _ (⟨w, k, o⟩ : Turn) _ 14 ((w.beings.at k).foe - 1) 0 (Turn.hit d k) [] [] (by assumption) (show 0 ≤ k ∧ k < 6 by omega) (show ((w.beings.at k).foe - 1) < 6 by omega) (show o.length ≤ 100000 by omega)) (fun v2 B hv => ?_)
  obtain ⟨y3, rfl, y4, rfl⟩ := hv
  refine GL_nil ?_
  refine GQ_sub (.cons (k := 1) rfl (.cons (k := 4) rfl (.cons (k := 7) rfl (.cons (k := 10) rfl (.cons (k := 11) rfl (.cons (k := 19) rfl (.nil _))))))) ?_
  refine GQ_then ?_
  refine G_seq ?_
  refine G_seq ?_
  refine G_swap (c' := TurnV.enc ⟨w, k, y3⟩) (fun _ => .head) rfl ?_
  refine G_region ?_
  refine GL_step rfl (PS_move rfl) ?_
  refine GL_step rfl (PS_move rfl) ?_
  refine GL_step rfl (PS_nilCheck rfl) ?_
  refine GL_step rfl (PS_fieldAddr fa57_0 rfl) ?_
  refine GL_step rfl (PS_fieldAddr fa34_2 rfl) ?_
  refine GL_step rfl (PS_indexAddr ia32 rfl rfl (by first | omega | exact hf0.1 | exact hf0.2 | (dsimp only; omega) | (have q1 := tmod3 (d.tmod 3 + 3); omega) | (have q1 := tmod3 (d.tmod 3 + 3); have q2 := tmod3 ((d.tmod 3 + 3).tmod 3 + k); omega)) (by first | omega | exact hf0.1 | exact hf0.2 | (dsimp only; omega) | (have q1 := tmod3 (d.tmod 3 + 3); omega) | (have q1 := tmod3 (d.tmod 3 + 3); have q2 := tmod3 ((d.tmod 3 + 3).tmod 3 + k); omega))) ?_
  refine GL_step rfl (PS_fieldAddr fa31_4 rfl) ?_
  refine GL_step rfl (PS_load rfl tys3 (.head _) (((TurnV.l0.comp Land.l2).comp (Lens.arr (n := 6) Being.fl (by first | omega | exact hf0.1 | exact hf0.2 | (dsimp only; omega) | (have q1 := tmod3 (d.tmod 3 + 3); omega) | (have q1 := tmod3 (d.tmod 3 + 3); have q2 := tmod3 ((d.tmod 3 + 3).tmod 3 + k); omega)) (by first | omega | exact hf0.1 | exact hf0.2 | (dsimp only; omega) | (have q1 := tmod3 (d.tmod 3 + 3); omega) | (have q1 := tmod3 (d.tmod 3 + 3); have q2 := tmod3 ((d.tmod 3 + 3).tmod 3 + k); omega)))).comp Being.l4) rfl rfl) ?_
  refine GL_step rfl (PS_move rfl) ?_
  refine GL_step rfl (PS_gtr rfl rfl) ?_
  refine GL_nil ?_
  refine GQ_sub (.cons (k := 1) rfl (.cons (k := 4) rfl (.cons (k := 7) rfl (.cons (k := 10) rfl (.cons (k := 11) rfl (.cons (k := 19) rfl (.cons (k := 89) rfl (.nil _)))))))) ?_
  refine GQ_then ?_
  refine G_cond rfl (fun c5 => ?_) (fun c5 => ?_)
  ·
   have c5p := kz c5
   try dsimp only at c5p
   refine G_seq ?_
   refine G_planN (N := 16) [0, 0, 1, 5, 13, 31, 63, 127, 0, 511, 1, 1025, 3073, 8191, 16383, 32767] mix (by kernel_rfl) rfl ?_
   refine Plan_float 0 rfl rfl (by kernel_rfl) (OK_s (EX_s (PS_move rfl))) ?_
   refine Plan_float 1 rfl rfl (by kernel_rfl) (OK_s (EX_s (PS_move rfl))) ?_
   refine Plan_float 2 rfl rfl (by kernel_rfl) (OK_s (EX_s (PS_nilCheck rfl))) ?_
   refine Plan_float 3 rfl rfl (by kernel_rfl) (OK_s (EX_s (PS_fieldAddr fa57_0 rfl))) ?_
   refine Plan_float 4 rfl rfl (by kernel_rfl) (OK_s (EX_s (PS_fieldAddr fa34_2 rfl))) ?_
   refine Plan_float 5 rfl rfl (by kernel_rfl) (OK_s (EX_s (PS_indexAddr ia32 rfl rfl (by first | omega | exact hf0.1 | exact hf0.2 | (dsimp only; omega) | (have q1 := tmod3 (d.tmod 3 + 3); omega) | (have q1 := tmod3 (d.tmod 3 + 3); have q2 := tmod3 ((d.tmod 3 + 3).tmod 3 + k); omega)) (by first | omega | exact hf0.1 | exact hf0.2 | (dsimp only; omega) | (have q1 := tmod3 (d.tmod 3 + 3); omega) | (have q1 := tmod3 (d.tmod 3 + 3); have q2 := tmod3 ((d.tmod 3 + 3).tmod 3 + k); omega))))) ?_
   refine Plan_float 6 rfl rfl (by kernel_rfl) (OK_s (EX_s (PS_fieldAddr fa31_4 rfl))) ?_
   refine Plan_float 7 rfl rfl (by kernel_rfl) (OK_s (EX_s (PS_load rfl tys3 (.head _) (((TurnV.l0.comp Land.l2).comp (Lens.arr (n := 6) Being.fl (by first | omega | exact hf0.1 | exact hf0.2 | (dsimp only; omega) | (have q1 := tmod3 (d.tmod 3 + 3); omega) | (have q1 := tmod3 (d.tmod 3 + 3); have q2 := tmod3 ((d.tmod 3 + 3).tmod 3 + k); omega)) (by first | omega | exact hf0.1 | exact hf0.2 | (dsimp only; omega) | (have q1 := tmod3 (d.tmod 3 + 3); omega) | (have q1 := tmod3 (d.tmod 3 + 3); have q2 := tmod3 ((d.tmod 3 + 3).tmod 3 + k); omega)))).comp Being.l4) rfl rfl))) ?_
   refine Plan_float 8 rfl rfl (by kernel_rfl) (OK_s (EX_s (PS_move rfl))) ?_
   refine Plan_float 9 rfl rfl (by kernel_rfl) (OK_s (EX_s (PS_sub rfl rfl (IntWalk.i64_in _ (by first | omega | exact hf0.1 | exact hf0.2 | (dsimp only; omega) | (have q1 := tmod3 (d.tmod 3 + 3); omega) | (have q1 := tmod3 (d.tmod 3 + 3); have q2 := tmod3 ((d.tmod 3 + 3).tmod 3 + k); omega)))))) ?_
   refine Plan_float 10 rfl rfl (by kernel_rfl) (OK_s (EX_s (PS_nilCheck rfl))) ?_
   refine Plan_float 11 rfl rfl (by kernel_rfl) (OK_s (EX_s (PS_fieldAddr fa57_0 rfl))) ?_
   refine Plan_float 12 rfl rfl (by kernel_rfl) (OK_s (EX_s (PS_fieldAddr fa34_2 rfl))) ?_
   refine Plan_float 13 rfl rfl (by kernel_rfl) (OK_s (EX_s (PS_indexAddr ia32 rfl rfl (by first | omega | exact hf0.1 | exact hf0.2 | (dsimp only; omega) | (have q1 := tmod3 (d.tmod 3 + 3); omega) | (have q1 := tmod3 (d.tmod 3 + 3); have q2 := tmod3 ((d.tmod 3 + 3).tmod 3 + k); omega)) (by first | omega | exact hf0.1 | exact hf0.2 | (dsimp only; omega) | (have q1 := tmod3 (d.tmod 3 + 3); omega) | (have q1 := tmod3 (d.tmod 3 + 3); have q2 := tmod3 ((d.tmod 3 + 3).tmod 3 + k); omega))))) ?_
   refine Plan_float 14 rfl rfl (by kernel_rfl) (OK_s (EX_s (PS_fieldAddr fa31_4 rfl))) ?_
   refine Plan_chain 15 rfl (by kernel_rfl) ?_
   refine GL_unit (PU_store (((TurnV.l0.comp Land.l2).comp (Lens.arr (n := 6) Being.fl (by first | omega | exact hf0.1 | exact hf0.2 | (dsimp only; omega) | (have q1 := tmod3 (d.tmod 3 + 3); omega) | (have q1 := tmod3 (d.tmod 3 + 3); have q2 := tmod3 ((d.tmod 3 + 3).tmod 3 + k); omega)) (by first | omega | exact hf0.1 | exact hf0.2 | (dsimp only; omega) | (have q1 := tmod3 (d.tmod 3 + 3); omega) | (have q1 := tmod3 (d.tmod 3 + 3); have q2 := tmod3 ((d.tmod 3 + 3).tmod 3 + k); omega)))).comp Being.l4) rfl rfl rfl sz3 rfl .head) ?_
   refine GL_hand0 rfl ⟨?_, ?_⟩
   · exact (Pend_skip (by kernel_rfl) (Pend_skip (by kernel_rfl) (Pend_skip (by kernel_rfl) (Pend_skip (by kernel_rfl) (Pend_skip (by kernel_rfl) (Pend_skip (by kernel_rfl) (Pend_skip (by kernel_rfl) (Pend_skip (by kernel_rfl) (Pend_skip (by kernel_rfl) (Pend_skip (by kernel_rfl) (Pend_skip (by kernel_rfl) (Pend_skip (by kernel_rfl) (Pend_skip (by kernel_rfl) (Pend_skip (by kernel_rfl) (Pend_skip (by kernel_rfl) Pend_nil)))))))))))))))
   refine Plan_end (by kernel_rfl) ?_
   refine GQ_sub (.cons (k := 1) rfl (.cons (k := 4) rfl (.cons (k := 7) rfl (.cons (k := 19) rfl (.nil _))))) ?_
   refine GQ_then ?_
   refine G_exit ?_
   refine GQ_then_exit ?_
   refine GQ_block_exit ?_
   refine GQ_then ?_
   refine G_region ?_
   refine GL_step rfl (PS_add rfl rfl (IntWalk.i64_in _ (by first | omega | exact hf0.1 | exact hf0.2 | (dsimp only; omega) | (have q1 := tmod3 (d.tmod 3 + 3); omega) | (have q1 := tmod3 (d.tmod 3 + 3); have q2 := tmod3 ((d.tmod 3 + 3).tmod 3 + k); omega)))) ?_
   refine GL_step rfl (PS_move rfl) ?_
   refine GL_nil ?_
   refine GQ_sub (.cons (k := 1) rfl (.cons (k := 4) rfl (.cons (k := 7) rfl (.cons (k := 19) rfl (.nil _))))) ?_
   refine GQ_pulls (.cons (.tail .head) (.cons .head (.cons (.tail (.tail .head)) (.cons (.tail (.tail .head)) .nil)))) ?_
   refine GQ_dropr ?_
   refine GQ_next5_ (k + 1) _ _ _ _ ?_ ?_ (.cons (k := 19) rfl (.cons (k := 1) rfl (.cons (k := 4) rfl (.cons (k := 7) rfl (.nil _))))) (.refl _)
   · have hrg := Turn.roundS_good (s := (w, o)) (draw := d) hI14 hI15 hI11 (by omega)
     have hc5 : decide (((Turn.struck w k ((w.beings.at k).foe - 1) (Turn.hit d k)).w.beings.at ((w.beings.at k).foe - 1)).health = 0) = false := by rw [Turn.struck_hp hf0.1 hf0.2]; exact decide_eq_false (by omega)
     have hrs : Turn.roundS d k (w, o) = ((Turn.struck w k ((w.beings.at k).foe - 1) (Turn.hit d k)).w, o ++ (Turn.struck w k ((w.beings.at k).foe - 1) (Turn.hit d k)).out) := (if_f hce).trans ((if_f hc4).trans (if_f hc5))
     rw [Turn.struck_lt (by omega)] at hrs
     rw [hrs] at hrg
     exact ⟨by omega, by omega, by rw [Turn.roundK_step hI11, hI13, hrs]; (try rfl), hrg.1, hrg.2.1, (by have hz : ((o ++ (Turn.struck w k ((w.beings.at k).foe - 1) (Turn.hit d k)).out)).length ≤ (w, o).2.length + 13 := hrg.2.2; have hz2 : (w, o).2.length = o.length := rfl; show ((((o ++ (Turn.struck w k ((w.beings.at k).foe - 1) (Turn.hit d k)).out)).length : Nat) : Int) ≤ _; omega), by assumption, (show 0 ≤ k ∧ k < 6 by omega)⟩
   · omega
  have c5p := kz c5
  try dsimp only at c5p
  refine G_skip ?_
  refine GQ_sub (.cons (k := 1) rfl (.cons (k := 4) rfl (.cons (k := 7) rfl (.cons (k := 10) rfl (.cons (k := 19) rfl (.nil _)))))) ?_
  refine GQ_then ?_
  refine G_seq ?_
  refine G_region ?_
  refine GL_step rfl (PS_move rfl) ?_
  refine GL_step rfl (PS_move rfl) ?_
  refine GL_step rfl (PS_nilCheck rfl) ?_
  refine GL_step rfl (PS_fieldAddr fa57_1 rfl) ?_
  refine GL_unit (PU_store TurnV.l1 rfl rfl rfl sz3 rfl .head) ?_
  refine GL_nil ?_
  refine GQ_sub (.cons (k := 1) rfl (.cons (k := 4) rfl (.cons (k := 7) rfl (.cons (k := 10) rfl (.cons (k := 19) rfl (.nil _)))))) ?_
  refine GQ_then ?_
  refine G_seq ?_
  refine G_region ?_
  refine GL_step rfl (PS_move rfl) ?_
  refine GL_step rfl (PS_move rfl) ?_
  refine GL_step rfl (PS_nilCheck rfl) ?_
  refine GL_step rfl (PS_fieldAddr fa57_0 rfl) ?_
  refine GL_step rfl (PS_fieldAddr fa34_2 rfl) ?_
  refine GL_step rfl (PS_indexAddr ia32 rfl rfl (by first | omega | exact hf0.1 | exact hf0.2 | (dsimp only; omega) | (have q1 := tmod3 (d.tmod 3 + 3); omega) | (have q1 := tmod3 (d.tmod 3 + 3); have q2 := tmod3 ((d.tmod 3 + 3).tmod 3 + k); omega)) (by first | omega | exact hf0.1 | exact hf0.2 | (dsimp only; omega) | (have q1 := tmod3 (d.tmod 3 + 3); omega) | (have q1 := tmod3 (d.tmod 3 + 3); have q2 := tmod3 ((d.tmod 3 + 3).tmod 3 + k); omega))) ?_
  refine GL_step rfl (PS_fieldAddr fa31_4 rfl) ?_
  refine GL_unit (PU_store (((TurnV.l0.comp Land.l2).comp (Lens.arr (n := 6) Being.fl (by first | omega | exact hf0.1 | exact hf0.2 | (dsimp only; omega) | (have q1 := tmod3 (d.tmod 3 + 3); omega) | (have q1 := tmod3 (d.tmod 3 + 3); have q2 := tmod3 ((d.tmod 3 + 3).tmod 3 + k); omega)) (by first | omega | exact hf0.1 | exact hf0.2 | (dsimp only; omega) | (have q1 := tmod3 (d.tmod 3 + 3); omega) | (have q1 := tmod3 (d.tmod 3 + 3); have q2 := tmod3 ((d.tmod 3 + 3).tmod 3 + k); omega)))).comp Being.l4) rfl rfl rfl sz3 rfl .head) ?_
  refine GL_nil ?_
  refine GQ_sub (.cons (k := 1) rfl (.cons (k := 4) rfl (.cons (k := 7) rfl (.cons (k := 10) rfl (.cons (k := 19) rfl (.nil _)))))) ?_
  refine GQ_then ?_
  refine G_seq ?_
  refine G_region ?_
  refine GL_step rfl (PS_move rfl) ?_
  refine GL_callL rfl cf20 (.cons rfl (.cons rfl (.cons rfl (.cons rfl (.cons rfl (.cons rfl (.cons rfl .nil))))))) (.cons .head (.cons .head .nil)) (ref_turn_add_spec _ (⟨w.putB ((w.beings.at k).foe - 1) { w.beings.at ((w.beings.at k).foe - 1) with health := 1 }, ((w.beings.at k).foe - 1), (o ++ (Turn.struck w k ((w.beings.at k).foe - 1) (Turn.hit d k)).out)⟩ : Turn) _ 15 (-1) 0 0 [] [] y4 (show 0 ≤ ((w.beings.at k).foe - 1) ∧ ((w.beings.at k).foe - 1) < 6 from hf0) (show (-1 : Int) < 6 by decide) (show (o ++ (Turn.struck w k ((w.beings.at k).foe - 1) (Turn.hit d k)).out).length ≤ 100000 by rw [List.length_append]; exact (by omega : o.length + 1 ≤ 100000))) (fun v5 B hv => ?_)
  obtain ⟨y6, rfl, y7, rfl⟩ := hv
  refine GL_nil ?_
  refine GQ_sub (.cons (k := 1) rfl (.cons (k := 4) rfl (.cons (k := 7) rfl (.cons (k := 10) rfl (.cons (k := 19) rfl (.nil _)))))) ?_
  refine GQ_then ?_
  refine G_seq ?_
  refine G_region ?_
  refine GL_step rfl (PS_move rfl) ?_
  refine GL_callL rfl cf26 (.cons rfl .nil) (.cons .head .nil) (ref_turn_leaveAll_spec _ (Turn.kind (⟨w.putB ((w.beings.at k).foe - 1) { w.beings.at ((w.beings.at k).foe - 1) with health := 1 }, ((w.beings.at k).foe - 1), (o ++ (Turn.struck w k ((w.beings.at k).foe - 1) (Turn.hit d k)).out)⟩ : Turn) 15) _ ((hsf.of_w (T' := (⟨w.putB ((w.beings.at k).foe - 1) { w.beings.at ((w.beings.at k).foe - 1) with health := 1 }, ((w.beings.at k).foe - 1), (o ++ (Turn.struck w k ((w.beings.at k).foe - 1) (Turn.hit d k)).out)⟩ : Turn)) (by rw [Turn.die0_w hf0.1 hf0.2]) (by rw [Turn.die0_w hf0.1 hf0.2])).of_w rfl rfl)) (fun v8 B hv => ?_)
  obtain ⟨y9, y10, rfl, rfl⟩ := hv
  refine GL_nil ?_
  refine GQ_sub (.cons (k := 1) rfl (.cons (k := 4) rfl (.cons (k := 7) rfl (.cons (k := 10) rfl (.cons (k := 19) rfl (.nil _)))))) ?_
  refine GQ_then ?_
  refine G_seq ?_
  refine G_seq ?_
  refine G_region ?_
  refine GL_step rfl (PS_move rfl) ?_
  refine GL_step rfl (PS_lss rfl rfl) ?_
  refine GL_nil ?_
  refine GQ_sub (.cons (k := 1) rfl (.cons (k := 4) rfl (.cons (k := 7) rfl (.cons (k := 10) rfl (.cons (k := 19) rfl (.cons (k := 121) rfl (.nil _))))))) ?_
  refine GQ_then ?_
  refine G_cond rfl (fun c6 => ?_) (fun c6 => ?_)
  ·
   have c6p := kz c6
   try dsimp only at c6p
   refine G_seq ?_
   refine G_region ?_
   refine GL_step rfl (PS_move rfl) ?_
   refine GL_step rfl (PS_move rfl) ?_
   refine GL_step rfl (PS_build pl31 zv31 rfl .nil) ?_
   refine GL_step rfl (PS_nilCheck rfl) ?_
   refine GL_step rfl (PS_fieldAddr fa57_0 rfl) ?_
   refine GL_step rfl (PS_fieldAddr fa34_2 rfl) ?_
   refine GL_step rfl (PS_indexAddr ia32 rfl rfl (by first | omega | exact hf0.1 | exact hf0.2 | (dsimp only; omega) | (have q1 := tmod3 (d.tmod 3 + 3); omega) | (have q1 := tmod3 (d.tmod 3 + 3); have q2 := tmod3 ((d.tmod 3 + 3).tmod 3 + k); omega)) (by first | omega | exact hf0.1 | exact hf0.2 | (dsimp only; omega) | (have q1 := tmod3 (d.tmod 3 + 3); omega) | (have q1 := tmod3 (d.tmod 3 + 3); have q2 := tmod3 ((d.tmod 3 + 3).tmod 3 + k); omega))) ?_
   refine GL_unit (PU_store ((TurnV.l0.comp Land.l2).comp (Lens.arr (n := 6) Being.fl (by first | omega | exact hf0.1 | exact hf0.2 | (dsimp only; omega) | (have q1 := tmod3 (d.tmod 3 + 3); omega) | (have q1 := tmod3 (d.tmod 3 + 3); have q2 := tmod3 ((d.tmod 3 + 3).tmod 3 + k); omega)) (by first | omega | exact hf0.1 | exact hf0.2 | (dsimp only; omega) | (have q1 := tmod3 (d.tmod 3 + 3); omega) | (have q1 := tmod3 (d.tmod 3 + 3); have q2 := tmod3 ((d.tmod 3 + 3).tmod 3 + k); omega)))) rfl rfl rfl sz31 rfl .head) ?_
   refine GL_nil ?_
   refine GQ_sub (.cons (k := 1) rfl (.cons (k := 4) rfl (.cons (k := 7) rfl (.cons (k := 19) rfl (.nil _))))) ?_
   refine GQ_then ?_
   refine G_exit ?_
   refine GQ_then_exit ?_
   refine GQ_block_exit ?_
   refine GQ_then ?_
   refine G_region ?_
   refine GL_step rfl (PS_add rfl rfl (IntWalk.i64_in _ (by first | omega | exact hf0.1 | exact hf0.2 | (dsimp only; omega) | (have q1 := tmod3 (d.tmod 3 + 3); omega) | (have q1 := tmod3 (d.tmod 3 + 3); have q2 := tmod3 ((d.tmod 3 + 3).tmod 3 + k); omega)))) ?_
   refine GL_step rfl (PS_move rfl) ?_
   refine GL_nil ?_
   refine GQ_sub (.cons (k := 1) rfl (.cons (k := 4) rfl (.cons (k := 7) rfl (.cons (k := 19) rfl (.nil _))))) ?_
   refine GQ_pulls (.cons (.tail .head) (.cons .head (.cons (.tail (.tail .head)) (.cons (.tail (.tail .head)) .nil)))) ?_
   refine GQ_dropr ?_
   refine GQ_next5_ (k + 1) _ _ _ _ ?_ ?_ (.cons (k := 19) rfl (.cons (k := 1) rfl (.cons (k := 4) rfl (.cons (k := 7) rfl (.nil _))))) (.refl _)
   · have hrg := Turn.roundS_good (s := (w, o)) (draw := d) hI14 hI15 hI11 (by omega)
     have hc5 : decide (((Turn.struck w k ((w.beings.at k).foe - 1) (Turn.hit d k)).w.beings.at ((w.beings.at k).foe - 1)).health = 0) = true := by rw [Turn.struck_hp hf0.1 hf0.2]; exact decide_eq_true (by omega)
     have hrs : Turn.roundS d k (w, o) = ((Turn.dieT (Turn.struck w k ((w.beings.at k).foe - 1) (Turn.hit d k)).w ((w.beings.at k).foe - 1)).w, (o ++ (Turn.struck w k ((w.beings.at k).foe - 1) (Turn.hit d k)).out) ++ (Turn.dieT (Turn.struck w k ((w.beings.at k).foe - 1) (Turn.hit d k)).w ((w.beings.at k).foe - 1)).out) := (if_f hce).trans ((if_f hc4).trans (if_t hc5))
     rw [Turn.ref_round_t hf0.1 hf0.2 c6 y10] at hrs
     rw [hrs] at hrg
     exact ⟨by omega, by omega, by rw [Turn.roundK_step hI11, hI13, hrs]; (try rfl), hrg.1, hrg.2.1, (by have hz : ((Turn.kind (⟨w.putB ((w.beings.at k).foe - 1) { w.beings.at ((w.beings.at k).foe - 1) with health := 1 }, ((w.beings.at k).foe - 1), (o ++ (Turn.struck w k ((w.beings.at k).foe - 1) (Turn.hit d k)).out)⟩ : Turn) 15).out).length ≤ (w, o).2.length + 13 := hrg.2.2; have hz2 : (w, o).2.length = o.length := rfl; show ((((Turn.kind (⟨w.putB ((w.beings.at k).foe - 1) { w.beings.at ((w.beings.at k).foe - 1) with health := 1 }, ((w.beings.at k).foe - 1), (o ++ (Turn.struck w k ((w.beings.at k).foe - 1) (Turn.hit d k)).out)⟩ : Turn) 15).out).length : Nat) : Int) ≤ _; omega), by assumption, hf0⟩
   · omega
  have c6p := kz c6
  try dsimp only at c6p
  refine G_skip ?_
  refine GQ_sub (.cons (k := 1) rfl (.cons (k := 4) rfl (.cons (k := 7) rfl (.cons (k := 10) rfl (.cons (k := 19) rfl (.nil _)))))) ?_
  refine GQ_then ?_
  refine G_seq ?_
  refine G_planN (N := 16) [0, 0, 0, 0, 1, 17, 49, 115, 243, 499, 4, 1028, 3076, 8191, 16383, 32767] mix (by kernel_rfl) rfl ?_
  refine Plan_float 0 rfl rfl (by kernel_rfl) (OK_s (EX_s (PS_move rfl))) ?_
  refine Plan_float 1 rfl rfl (by kernel_rfl) (OK_s (EX_s (PS_move rfl))) ?_
  refine Plan_float 2 rfl rfl (by kernel_rfl) (OK_s (EX_s (PS_move rfl))) ?_
  refine Plan_float 3 rfl rfl (by kernel_rfl) (OK_s (EX_s (PS_move rfl))) ?_
  refine Plan_float 4 rfl rfl (by kernel_rfl) (OK_s (EX_s (PS_nilCheck rfl))) ?_
  refine Plan_float 5 rfl rfl (by kernel_rfl) (OK_s (EX_s (PS_fieldAddr fa57_0 rfl))) ?_
  refine Plan_float 6 rfl rfl (by kernel_rfl) (OK_s (EX_s (PS_fieldAddr fa34_2 rfl))) ?_
  refine Plan_float 7 rfl rfl (by kernel_rfl) (OK_s (EX_s (PS_indexAddr ia32 rfl rfl (by first | omega | exact hf0.1 | exact hf0.2 | (dsimp only; omega) | (have q1 := tmod3 (d.tmod 3 + 3); omega) | (have q1 := tmod3 (d.tmod 3 + 3); have q2 := tmod3 ((d.tmod 3 + 3).tmod 3 + k); omega)) (by first | omega | exact hf0.1 | exact hf0.2 | (dsimp only; omega) | (have q1 := tmod3 (d.tmod 3 + 3); omega) | (have q1 := tmod3 (d.tmod 3 + 3); have q2 := tmod3 ((d.tmod 3 + 3).tmod 3 + k); omega))))) ?_
  refine Plan_float 8 rfl rfl (by kernel_rfl) (OK_s (EX_s (PS_fieldAddr fa31_3 rfl))) ?_
  refine Plan_float 10 rfl rfl (by kernel_rfl) (OK_s (EX_s (PS_nilCheck rfl))) ?_
  refine Plan_float 11 rfl rfl (by kernel_rfl) (OK_s (EX_s (PS_fieldAddr fa57_0 rfl))) ?_
  refine Plan_float 12 rfl rfl (by kernel_rfl) (OK_s (EX_s (PS_fieldAddr fa34_2 rfl))) ?_
  refine Plan_chain 9 rfl (by kernel_rfl) ?_
  refine GL_unit (PU_store (((TurnV.l0.comp Land.l2).comp (Lens.arr (n := 6) Being.fl (by first | omega | exact hf0.1 | exact hf0.2 | (dsimp only; omega) | (have q1 := tmod3 (d.tmod 3 + 3); omega) | (have q1 := tmod3 (d.tmod 3 + 3); have q2 := tmod3 ((d.tmod 3 + 3).tmod 3 + k); omega)) (by first | omega | exact hf0.1 | exact hf0.2 | (dsimp only; omega) | (have q1 := tmod3 (d.tmod 3 + 3); omega) | (have q1 := tmod3 (d.tmod 3 + 3); have q2 := tmod3 ((d.tmod 3 + 3).tmod 3 + k); omega)))).comp Being.l3) rfl rfl rfl sz3 rfl .head) ?_
  refine GL_hand0 rfl ⟨?_, ?_⟩
  · exact (Pend_okv rfl (OK_s (EX_s (PS_fieldAddr fa34_2 rfl))) rfl rfl (Pend_okv rfl (OK_s (EX_s (PS_fieldAddr fa57_0 rfl))) rfl rfl (Pend_okv rfl (OK_s (EX_s (PS_nilCheck rfl))) rfl rfl (Pend_skip (by kernel_rfl) (Pend_skip (by kernel_rfl) (Pend_skip (by kernel_rfl) (Pend_skip (by kernel_rfl) (Pend_skip (by kernel_rfl) (Pend_okv rfl (OK_s (EX_s (PS_move rfl))) rfl rfl (Pend_okv rfl (OK_s (EX_s (PS_move rfl))) rfl rfl (Pend_skip (by kernel_rfl) (Pend_skip (by kernel_rfl) Pend_nil))))))))))))
  refine Plan_float 13 rfl rfl (by kernel_rfl) (OK_s (EX_s (PS_indexAddr ia32 rfl rfl (by first | omega | exact hf0.1 | exact hf0.2 | (dsimp only; omega) | (have q1 := tmod3 (d.tmod 3 + 3); omega) | (have q1 := tmod3 (d.tmod 3 + 3); have q2 := tmod3 ((d.tmod 3 + 3).tmod 3 + k); omega)) (by first | omega | exact hf0.1 | exact hf0.2 | (dsimp only; omega) | (have q1 := tmod3 (d.tmod 3 + 3); omega) | (have q1 := tmod3 (d.tmod 3 + 3); have q2 := tmod3 ((d.tmod 3 + 3).tmod 3 + k); omega))))) ?_
  refine Plan_float 14 rfl rfl (by kernel_rfl) (OK_s (EX_s (PS_fieldAddr fa31_4 rfl))) ?_
  refine Plan_chain 15 rfl (by kernel_rfl) ?_
  refine GL_unit (PU_store (((TurnV.l0.comp Land.l2).comp (Lens.arr (n := 6) Being.fl (by first | omega | exact hf0.1 | exact hf0.2 | (dsimp only; omega) | (have q1 := tmod3 (d.tmod 3 + 3); omega) | (have q1 := tmod3 (d.tmod 3 + 3); have q2 := tmod3 ((d.tmod 3 + 3).tmod 3 + k); omega)) (by first | omega | exact hf0.1 | exact hf0.2 | (dsimp only; omega) | (have q1 := tmod3 (d.tmod 3 + 3); omega) | (have q1 := tmod3 (d.tmod 3 + 3); have q2 := tmod3 ((d.tmod 3 + 3).tmod 3 + k); omega)))).comp Being.l4) rfl rfl rfl sz3 rfl .head) ?_
  refine GL_hand0 rfl ⟨?_, ?_⟩
  · exact (Pend_skip (by kernel_rfl) (Pend_skip (by kernel_rfl) (Pend_skip (by kernel_rfl) (Pend_skip (by kernel_rfl) (Pend_skip (by kernel_rfl) (Pend_skip (by kernel_rfl) (Pend_skip (by kernel_rfl) (Pend_skip (by kernel_rfl) (Pend_skip (by kernel_rfl) (Pend_skip (by kernel_rfl) (Pend_skip (by kernel_rfl) (Pend_skip (by kernel_rfl) (Pend_skip (by kernel_rfl) (Pend_skip (by kernel_rfl) Pend_nil))))))))))))))
  refine Plan_end (by kernel_rfl) ?_
  refine GQ_sub (.cons (k := 1) rfl (.cons (k := 4) rfl (.cons (k := 7) rfl (.cons (k := 19) rfl (.nil _))))) ?_
  refine GQ_then ?_
  refine G_seq ?_
  refine G_swap (fun _ => .head) (congrArg (fun q => TurnV.enc ⟨q, ((w.beings.at k).foe - 1), _⟩) (Turn.two_put y9 hf0)) ?_
  refine G_region ?_
  refine GL_step rfl (PS_move rfl) ?_
  refine GL_callL rfl cf20 (.cons rfl (.cons rfl (.cons rfl (.cons rfl (.cons rfl (.cons rfl (.cons rfl .nil))))))) (.cons .head (.cons .head .nil)) (ref_turn_add_spec _ (⟨y9.putB ((w.beings.at k).foe - 1) { y9.beings.at ((w.beings.at k).foe - 1) with room := 0, health := 10 }, ((w.beings.at k).foe - 1), (Turn.kind (⟨w.putB ((w.beings.at k).foe - 1) { w.beings.at ((w.beings.at k).foe - 1) with health := 1 }, ((w.beings.at k).foe - 1), (o ++ (Turn.struck w k ((w.beings.at k).foe - 1) (Turn.hit d k)).out)⟩ : Turn) 15).out⟩ : Turn) _ 17 (-1) 0 0 [] [] y7 (show 0 ≤ ((w.beings.at k).foe - 1) ∧ ((w.beings.at k).foe - 1) < 6 from hf0) (show (-1 : Int) < 6 by decide) (by rw [show (Turn.out (⟨y9.putB ((w.beings.at k).foe - 1) { y9.beings.at ((w.beings.at k).foe - 1) with room := 0, health := 10 }, ((w.beings.at k).foe - 1), (Turn.kind (⟨w.putB ((w.beings.at k).foe - 1) { w.beings.at ((w.beings.at k).foe - 1) with health := 1 }, ((w.beings.at k).foe - 1), (o ++ (Turn.struck w k ((w.beings.at k).foe - 1) (Turn.hit d k)).out)⟩ : Turn) 15).out⟩ : Turn)).length = ((o ++ (Turn.struck w k ((w.beings.at k).foe - 1) (Turn.hit d k)).out).length + 1) from Turn.kind_len _ _, List.length_append]; exact (by omega : o.length + 1 + 1 ≤ 100000))) (fun v11 B hv => ?_)
  obtain ⟨y12, rfl, y13, rfl⟩ := hv
  refine GL_nil ?_
  refine GQ_sub (.cons (k := 1) rfl (.cons (k := 4) rfl (.cons (k := 7) rfl (.cons (k := 19) rfl (.nil _))))) ?_
  refine GQ_then ?_
  refine G_region ?_
  refine GL_step rfl (PS_move rfl) ?_
  refine GL_callR rfl cf21 (.cons rfl .nil) (.cons .head (.cons .head .nil)) (ref_turn_look_spec _ (Turn.kind (⟨y9.putB ((w.beings.at k).foe - 1) { y9.beings.at ((w.beings.at k).foe - 1) with room := 0, health := 10 }, ((w.beings.at k).foe - 1), (Turn.kind (⟨w.putB ((w.beings.at k).foe - 1) { w.beings.at ((w.beings.at k).foe - 1) with health := 1 }, ((w.beings.at k).foe - 1), (o ++ (Turn.struck w k ((w.beings.at k).foe - 1) (Turn.hit d k)).out)⟩ : Turn) 15).out⟩ : Turn) 17) _ y13 ((Turn.ref_fit3 hf0.1 hf0.2 hsf y10 _).of_w rfl rfl) (by rw [Turn.kind_len, show (Turn.out (⟨y9.putB ((w.beings.at k).foe - 1) { y9.beings.at ((w.beings.at k).foe - 1) with room := 0, health := 10 }, ((w.beings.at k).foe - 1), (Turn.kind (⟨w.putB ((w.beings.at k).foe - 1) { w.beings.at ((w.beings.at k).foe - 1) with health := 1 }, ((w.beings.at k).foe - 1), (o ++ (Turn.struck w k ((w.beings.at k).foe - 1) (Turn.hit d k)).out)⟩ : Turn) 15).out⟩ : Turn)).length = ((o ++ (Turn.struck w k ((w.beings.at k).foe - 1) (Turn.hit d k)).out).length + 1) from Turn.kind_len _ _, List.length_append]; exact (by omega : o.length + 1 + 1 + 1 ≤ 90000))) (fun w hS => gl0.pull gm0 hS (.cons .head (.cons .head .nil))) (fun v14 B hv => ?_)
  obtain ⟨y15, rfl, y16, rfl⟩ := hv
  refine GL_nil ?_
  refine GQ_sub (.cons (k := 1) rfl (.cons (k := 4) rfl (.cons (k := 7) rfl (.cons (k := 19) rfl (.nil _))))) ?_
  refine GQ_block ?_
  refine GQ_then ?_
  refine G_region ?_
  refine GL_step rfl (PS_add rfl rfl (IntWalk.i64_in _ (by first | omega | exact hf0.1 | exact hf0.2 | (dsimp only; omega) | (have q1 := tmod3 (d.tmod 3 + 3); omega) | (have q1 := tmod3 (d.tmod 3 + 3); have q2 := tmod3 ((d.tmod 3 + 3).tmod 3 + k); omega)))) ?_
  refine GL_step rfl (PS_move rfl) ?_
  refine GL_nil ?_
  refine GQ_sub (.cons (k := 1) rfl (.cons (k := 4) rfl (.cons (k := 7) rfl (.cons (k := 19) rfl (.nil _))))) ?_
  refine GQ_pulls (.cons (.tail .head) (.cons .head (.cons (.tail (.tail .head)) (.cons (.tail (.tail .head)) .nil)))) ?_
  refine GQ_dropr ?_
  refine GQ_next5_ (k + 1) _ _ _ _ ?_ ?_ (.cons (k := 19) rfl (.cons (k := 1) rfl (.cons (k := 4) rfl (.cons (k := 7) rfl (.nil _))))) (.refl _)
  · have hrg := Turn.roundS_good (s := (w, o)) (draw := d) hI14 hI15 hI11 (by omega)
    have hc5 : decide (((Turn.struck w k ((w.beings.at k).foe - 1) (Turn.hit d k)).w.beings.at ((w.beings.at k).foe - 1)).health = 0) = true := by rw [Turn.struck_hp hf0.1 hf0.2]; exact decide_eq_true (by omega)
    have hrs : Turn.roundS d k (w, o) = ((Turn.dieT (Turn.struck w k ((w.beings.at k).foe - 1) (Turn.hit d k)).w ((w.beings.at k).foe - 1)).w, (o ++ (Turn.struck w k ((w.beings.at k).foe - 1) (Turn.hit d k)).out) ++ (Turn.dieT (Turn.struck w k ((w.beings.at k).foe - 1) (Turn.hit d k)).w ((w.beings.at k).foe - 1)).out) := (if_f hce).trans ((if_f hc4).trans (if_t hc5))
    rw [Turn.ref_round_f hf0.1 hf0.2 c6 y10] at hrs
    rw [hrs] at hrg
    exact ⟨by omega, by omega, by rw [Turn.roundK_step hI11, hI13, hrs]; (try rfl), hrg.1, hrg.2.1, (by have hz : _ ≤ (w, o).2.length + 13 := hrg.2.2; have hz2 : (w, o).2.length = o.length := rfl; (try dsimp only at *); omega), by assumption, (by rw [(Turn.look_w _).2.1]; exact hf0)⟩
  · omega
 have c2p := kz c2
 try dsimp only at c2p
 obtain rfl : k = 6 := by omega
 refine G_exit ?_
 refine GQ_then_exit ?_
 refine GQ_then_exit ?_
 refine GQ_block_exit ?_
 refine GQ_sub (.cons (k := 4) rfl (.cons (k := 7) rfl (.nil _))) ?_
 refine GQ_then ?_
 refine G_seq ?_
 refine G_planN (N := 11) [0, 1, 3, 7, 0, 16, 48, 112, 15, 511, 1023] mix (by kernel_rfl) rfl ?_
 refine Plan_float 0 rfl rfl (by kernel_rfl) (OK_s (EX_s (PS_move rfl))) ?_
 refine Plan_float 1 rfl rfl (by kernel_rfl) (OK_s (EX_s (PS_nilCheck rfl))) ?_
 refine Plan_float 2 rfl rfl (by kernel_rfl) (OK_s (EX_s (PS_fieldAddr fa57_0 rfl))) ?_
 refine Plan_float 3 rfl rfl (by kernel_rfl) (OK_s (EX_s (PS_loadA rfl tya34 (.tail _ (.head _)) TurnV.l0 rfl))) ?_
 refine Plan_float 4 rfl rfl (by kernel_rfl) (OK_s (EX_s (PS_move rfl))) ?_
 refine Plan_float 5 rfl rfl (by kernel_rfl) (OK_s (EX_s (PS_nilCheck rfl))) ?_
 refine Plan_float 6 rfl rfl (by kernel_rfl) (OK_s (EX_s (PS_fieldAddr fa57_2 rfl))) ?_
 refine Plan_float 7 rfl rfl (by kernel_rfl) (OK_s (EX_s (PS_load rfl tys35 (.tail _ (.head _)) TurnV.l2 rfl rfl))) ?_
 refine Plan_chain 8 rfl (by kernel_rfl) ?_
 refine GL_unit (PU_store (Lens.id Land.fl.len Land.fl.one) rfl rfl rfl sz34 rfl (.tail (.tail .head))) ?_
 refine GL_hand0 rfl ⟨?_, ?_⟩
 · exact (Pend_okv rfl (OK_s (EX_s (PS_load rfl tys35 (.tail _ (.head _)) TurnV.l2 rfl rfl))) rfl rfl (Pend_okv rfl (OK_s (EX_s (PS_fieldAddr fa57_2 rfl))) rfl rfl (Pend_okv rfl (OK_s (EX_s (PS_nilCheck rfl))) rfl rfl (Pend_okv rfl (OK_s (EX_s (PS_move rfl))) rfl rfl (Pend_skip (by kernel_rfl) (Pend_skip (by kernel_rfl) (Pend_skip (by kernel_rfl) (Pend_skip (by kernel_rfl) Pend_nil))))))))
 refine Plan_float 9 rfl rfl (by kernel_rfl) (OK_s (EX_s (PS_assign rfl))) ?_
 refine Plan_float 10 rfl rfl (by kernel_rfl) (OK_s (EX_s (PS_assign rfl))) ?_
 refine Plan_end (by kernel_rfl) ?_
 refine GQ_sub (.cons (k := 4) rfl (.cons (k := 5) rfl (.cons (k := 6) rfl (.nil _)))) ?_
 refine GQ_then ?_
 refine G_ret ?_
 refine GQ_ret rfl (.cell rfl (.tail _ (.tail _ (.head _))) (.inl ⟨(by rw [Land.fl.len]; exact tya34), rfl⟩) (.tmp rfl (.tmp rfl .nil))) ?_
 intro w1 hS
 have hS := (hS.perm (Pulls.perm (.cons .head .nil))).headL
 have hq : Turn.roundR X d = ((Turn.roundK X d 6).1, (Turn.roundK X d 6).2, 0) := if_f c1
 have hs6 : Turn.roundK X d 6 = (w, o) := hI13
 rw [hs6] at hq
 refine ⟨_, ⟨h, ?hv, ?hl, ?hB⟩, hS⟩
 case hv => rw [hq]; (try rfl)
 case hl => rw [hq]; exact hI17
 case hB => rw [hq]; (try rfl)
theorem ref_SameEvents_spec {t0 t1 : Nat} (f g : Hd) (xs ys : List Ing.Event) (hx : xs.length ≤ 9223372036854775807) (w : World) (r0 : Rd w f t0 16 (xs.flatMap Ing.Event.enc)) (r1 : Rd w g t1 16 (ys.flatMap Ing.Event.enc)) : Ret Tryz.prog 8 #[f.val, g.val] w fun v w' => v = .bool (decide (xs = ys)) ∧ Keep w w' := by
 have hf := r0.len1 Ing.Event.fl (by decide)
 have hg := r1.len1 Ing.Event.fl (by decide)
 refine Ret_body [] [] Tryz.func8 rfl rfl rfl (St.start w []) ?_
 refine G_seq ?_
 refine G_region ?_
 refine GL_step rfl (PS_assign rfl) ?_
 refine GL_nil ?_
 refine GQ_sub (.cons (k := 0) rfl (.cons (k := 1) rfl (.nil _))) ?_
 refine GQ_then ?_
 refine G_seq ?_
 refine G_seq ?_
 refine G_region ?_
 refine GL_step rfl (PS_move rfl) ?_
 refine GL_step rfl (PS_len_slice rfl Tryz.underlying35 rfl) ?_
 refine GL_step rfl (PS_move rfl) ?_
 refine GL_step rfl (PS_len_slice rfl Tryz.underlying35 rfl) ?_
 refine GL_step rfl (PS_neq rfl rfl) ?_
 refine GL_nil ?_
 refine GQ_sub (.cons (k := 0) rfl (.cons (k := 1) rfl (.cons (k := 10) rfl (.nil _)))) ?_
 refine GQ_then ?_
 refine G_cond rfl (fun c1 => ?_) (fun c1 => ?_)
 ·
  have c1p := kz c1
  try dsimp only at c1p
  refine G_seq ?_
  refine G_region ?_
  refine GL_step rfl (PS_assign rfl) ?_
  refine GL_nil ?_
  refine GQ_sub (.cons (k := 4) rfl (.nil _)) ?_
  refine GQ_then ?_
  refine G_ret ?_
  refine GQ_then_ret ?_
  refine GQ_ret rfl (.tmp rfl .nil) ?_
  intro w1 hS; refine ⟨congrArg Value.bool ?_, hS.toKeep⟩; have : xs ≠ ys := fun e => by subst e; simp at c1; omega
  simp [this]
 have c1p := kz c1
 try dsimp only at c1p
 refine G_skip ?_
 refine GQ_sub (.cons (k := 0) rfl (.cons (k := 1) rfl (.nil _))) ?_
 refine GQ_then ?_
 refine G_seq ?_
 refine G_seq ?_
 refine G_region ?_
 refine GL_step rfl (PS_move rfl) ?_
 refine GL_step rfl (PS_len_slice rfl Tryz.underlying35 rfl) ?_
 refine GL_step rfl (PS_move rfl) ?_
 refine GL_nil ?_
 refine GQ_sub (.cons (k := 0) rfl (.cons (k := 1) rfl (.cons (k := 12) rfl (.cons (k := 13) rfl (.nil _))))) ?_
 refine GQ_then ?_
 refine G_block ?_
 refine G_subF (.cons (k := 13) rfl (.cons (k := 0) rfl (.cons (k := 1) rfl (.cons (k := 12) rfl (.nil _))))) ?_
 refine G_loop1_ (fun (i : Int) => 0 ≤ i ∧ i ≤ xs.length ∧ xs.length = ys.length ∧ xs.take i.toNat = ys.take i.toNat) (fun (i : Int) => ((xs.length : Int) - i).toNat) (fun (i : Int) => [(13, .int .i64 i)]) (fun (i : Int) => []) (0) ?_ rfl rfl (fun i hI1 => ?_)
 · exact ⟨by omega, by omega, by simp at c1; omega, rfl⟩
 obtain ⟨hI11, hI12, hI13, hI14⟩ := hI1
 refine G_seq ?_
 refine G_region ?_
 refine GL_step rfl (PS_lss rfl rfl) ?_
 refine GL_nil ?_
 refine GQ_then ?_
 refine G_seq ?_
 refine G_cond rfl (fun c2 => ?_) (fun c2 => ?_)
 ·
  have c2p := kz c2
  try dsimp only at c2p
  refine G_skip ?_
  refine GQ_sub (.cons (k := 0) rfl (.cons (k := 1) rfl (.cons (k := 12) rfl (.cons (k := 13) rfl (.nil _))))) ?_
  refine GQ_then ?_
  refine G_seq ?_
  refine G_block ?_
  refine G_seq ?_
  refine G_region ?_
  refine GL_step rfl (PS_move rfl) ?_
  refine GL_step rfl (PS_assign rfl) ?_
  refine GL_nil ?_
  refine GQ_sub (.cons (k := 0) rfl (.cons (k := 1) rfl (.cons (k := 5) rfl (.cons (k := 12) rfl (.cons (k := 13) rfl (.nil _)))))) ?_
  refine GQ_then ?_
  refine G_seq ?_
  refine G_planN (N := 9) [0, 0, 3, 7, 0, 0, 48, 112, 255] mix (by kernel_rfl) rfl ?_
  refine Plan_float 0 rfl rfl (by kernel_rfl) (OK_s (EX_s (PS_move rfl))) ?_
  refine Plan_float 1 rfl rfl (by kernel_rfl) (OK_s (EX_s (PS_move rfl))) ?_
  refine Plan_float 2 rfl rfl (by kernel_rfl) (OK_s (EX_s (PS_idxS is35 (by decide) (Kn.old r0) rfl rfl (by omega) (by omega)))) ?_
  refine Plan_float 3 rfl rfl (by kernel_rfl) (OK_s (EX_s (PS_ldG rfl tya60 (by decide) Ing.Event.fl (Kn.old r0) (by omega)))) ?_
  refine Plan_float 4 rfl rfl (by kernel_rfl) (OK_s (EX_s (PS_move rfl))) ?_
  refine Plan_float 5 rfl rfl (by kernel_rfl) (OK_s (EX_s (PS_move rfl))) ?_
  refine Plan_float 6 rfl rfl (by kernel_rfl) (OK_s (EX_s (PS_idxS is35 (by decide) (Kn.old r1) rfl rfl (by omega) (by omega)))) ?_
  refine Plan_float 7 rfl rfl (by kernel_rfl) (OK_s (EX_s (PS_ldG rfl tya60 (by decide) Ing.Event.fl (Kn.old r1) (by omega)))) ?_
  refine Plan_float 8 rfl rfl (by kernel_rfl) (OK_s (EX_s (PS_neq_agg eq60 (by decide) (by kernel_rfl) rfl rfl))) ?_
  refine Plan_end (by kernel_rfl) ?_
  refine GQ_sub (.cons (k := 0) rfl (.cons (k := 1) rfl (.cons (k := 12) rfl (.cons (k := 13) rfl (.cons (k := 24) rfl (.nil _)))))) ?_
  refine GQ_then ?_
  refine G_cond rfl (fun c3 => ?_) (fun c3 => ?_)
  ·
   have c3p := kz c3
   try dsimp only at c3p
   refine G_seq ?_
   refine G_region ?_
   refine GL_step rfl (PS_assign rfl) ?_
   refine GL_nil ?_
   refine GQ_sub (.cons (k := 4) rfl (.nil _)) ?_
   refine GQ_then ?_
   refine G_ret ?_
   refine GQ_block_ret ?_
   refine GQ_then_ret ?_
   refine GQ_then_ret ?_
   refine GQ_block_ret ?_
   refine GQ_then_ret ?_
   refine GQ_ret rfl (.tmp rfl .nil) ?_
   intro w1 hS; refine ⟨congrArg Value.bool ?_, hS.toKeep⟩; have := Line.ne_of_getD (d := default) (xs := xs) (ys := ys) (i := i.toNat) (by simpa using c3)
   simp [this]
  have c3p := kz c3
  try dsimp only at c3p
  refine G_skip ?_
  refine GQ_sub (.cons (k := 0) rfl (.cons (k := 1) rfl (.cons (k := 12) rfl (.cons (k := 13) rfl (.nil _))))) ?_
  refine GQ_block ?_
  refine GQ_then ?_
  refine G_region ?_
  refine GL_step rfl (PS_add rfl rfl (IntWalk.i64_in _ (by omega))) ?_
  refine GL_step rfl (PS_move rfl) ?_
  refine GL_nil ?_
  refine GQ_sub (.cons (k := 0) rfl (.cons (k := 1) rfl (.cons (k := 12) rfl (.cons (k := 13) rfl (.nil _))))) ?_
  refine GQ_next1_ (i + 1) ?_ ?_ (.cons (k := 13) rfl (.cons (k := 0) rfl (.cons (k := 1) rfl (.cons (k := 12) rfl (.nil _))))) (.refl _)
  · exact ⟨by omega, by omega, hI13, Line.take_next (d := default) hI11 hI13 (by omega) hI14 (by simpa using c3)⟩
  · omega
 have c2p := kz c2
 try dsimp only at c2p
 refine G_exit ?_
 refine GQ_then_exit ?_
 refine GQ_then_exit ?_
 refine GQ_block_exit ?_
 refine GQ_sub (.nil _) ?_
 refine GQ_then ?_
 refine G_seq ?_
 refine G_region ?_
 refine GL_step rfl (PS_assign rfl) ?_
 refine GL_nil ?_
 refine GQ_then ?_
 refine G_ret ?_
 refine GQ_ret rfl (.tmp rfl .nil) ?_
 intro w1 hS; refine ⟨congrArg Value.bool ?_, hS.toKeep⟩; have := Line.pickE (xs := xs) (ys := ys) hI13 hI14 (by omega)
 simp [this]
theorem land_New_spec  (w : World) : Ret Tryz.prog 22 #[] w fun v w' => v = .agg Land.new.enc.toArray ∧ Keep w w' := by
 refine Ret_body [] [] Tryz.func22 rfl rfl rfl (St.start w []) ?_
 refine G_seq ?_
 refine G_region ?_
 refine GL_alloc rfl zv34 rfl (fun b1 => ?_)
 refine GL_nil ?_
 refine GQ_then ?_
 refine G_seq ?_
 refine G_region ?_
 refine GL_alloc rfl zv34 rfl (fun b2 => ?_)
 refine GL_nil ?_
 refine GQ_then ?_
 refine G_seq ?_
 refine G_seq ?_
 refine G_region ?_
 refine GL_step rfl (PS_buildA Tryz.underlying22 sz3 zv22 rfl (.cons (Lens.arr (n := 6) (i := 0) flI (by decide) (by decide)) rfl rfl rfl (.cons (Lens.arr (n := 6) (i := 1) flI (by decide) (by decide)) rfl rfl rfl (.cons (Lens.arr (n := 6) (i := 2) flI (by decide) (by decide)) rfl rfl rfl (.cons (Lens.arr (n := 6) (i := 3) flI (by decide) (by decide)) rfl rfl rfl (.cons (Lens.arr (n := 6) (i := 4) flI (by decide) (by decide)) rfl rfl rfl (.cons (Lens.arr (n := 6) (i := 5) flI (by decide) (by decide)) rfl rfl rfl .nil))))))) ?_
 refine GL_step rfl (PS_buildA Tryz.underlying23 sz4 zv23 rfl (.cons (Lens.arr (n := 6) (i := 5) flB (by decide) (by decide)) rfl rfl rfl .nil)) ?_
 refine GL_step rfl (PS_build pl25 zv25 rfl (.cons Room.l0 rfl rfl rfl (.cons Room.l2 rfl rfl rfl (.cons Room.l3 rfl rfl rfl .nil)))) ?_
 refine GL_step rfl (PS_buildA Tryz.underlying22 sz3 zv22 rfl (.cons (Lens.arr (n := 6) (i := 0) flI (by decide) (by decide)) rfl rfl rfl (.cons (Lens.arr (n := 6) (i := 1) flI (by decide) (by decide)) rfl rfl rfl (.cons (Lens.arr (n := 6) (i := 2) flI (by decide) (by decide)) rfl rfl rfl (.cons (Lens.arr (n := 6) (i := 3) flI (by decide) (by decide)) rfl rfl rfl (.cons (Lens.arr (n := 6) (i := 4) flI (by decide) (by decide)) rfl rfl rfl (.cons (Lens.arr (n := 6) (i := 5) flI (by decide) (by decide)) rfl rfl rfl .nil))))))) ?_
 refine GL_step rfl (PS_build pl25 zv25 rfl (.cons Room.l0 rfl rfl rfl (.cons Room.l2 rfl rfl rfl .nil))) ?_
 refine GL_step rfl (PS_buildA Tryz.underlying22 sz3 zv22 rfl (.cons (Lens.arr (n := 6) (i := 0) flI (by decide) (by decide)) rfl rfl rfl (.cons (Lens.arr (n := 6) (i := 1) flI (by decide) (by decide)) rfl rfl rfl (.cons (Lens.arr (n := 6) (i := 2) flI (by decide) (by decide)) rfl rfl rfl (.cons (Lens.arr (n := 6) (i := 3) flI (by decide) (by decide)) rfl rfl rfl (.cons (Lens.arr (n := 6) (i := 4) flI (by decide) (by decide)) rfl rfl rfl (.cons (Lens.arr (n := 6) (i := 5) flI (by decide) (by decide)) rfl rfl rfl .nil))))))) ?_
 refine GL_step rfl (PS_build pl25 zv25 rfl (.cons Room.l0 rfl rfl rfl (.cons Room.l2 rfl rfl rfl (.cons Room.l1 rfl rfl rfl .nil)))) ?_
 refine GL_step rfl (PS_buildA Tryz.underlying22 sz3 zv22 rfl (.cons (Lens.arr (n := 6) (i := 0) flI (by decide) (by decide)) rfl rfl rfl (.cons (Lens.arr (n := 6) (i := 1) flI (by decide) (by decide)) rfl rfl rfl (.cons (Lens.arr (n := 6) (i := 2) flI (by decide) (by decide)) rfl rfl rfl (.cons (Lens.arr (n := 6) (i := 3) flI (by decide) (by decide)) rfl rfl rfl (.cons (Lens.arr (n := 6) (i := 4) flI (by decide) (by decide)) rfl rfl rfl (.cons (Lens.arr (n := 6) (i := 5) flI (by decide) (by decide)) rfl rfl rfl .nil))))))) ?_
 refine GL_step rfl (PS_build pl25 zv25 rfl (.cons Room.l0 rfl rfl rfl (.cons Room.l2 rfl rfl rfl (.cons Room.l1 rfl rfl rfl .nil)))) ?_
 refine GL_step rfl (PS_buildA Tryz.underlying22 sz3 zv22 rfl (.cons (Lens.arr (n := 6) (i := 0) flI (by decide) (by decide)) rfl rfl rfl (.cons (Lens.arr (n := 6) (i := 1) flI (by decide) (by decide)) rfl rfl rfl (.cons (Lens.arr (n := 6) (i := 2) flI (by decide) (by decide)) rfl rfl rfl (.cons (Lens.arr (n := 6) (i := 3) flI (by decide) (by decide)) rfl rfl rfl (.cons (Lens.arr (n := 6) (i := 4) flI (by decide) (by decide)) rfl rfl rfl (.cons (Lens.arr (n := 6) (i := 5) flI (by decide) (by decide)) rfl rfl rfl .nil))))))) ?_
 refine GL_step rfl (PS_buildA Tryz.underlying23 sz4 zv23 rfl (.cons (Lens.arr (n := 6) (i := 2) flB (by decide) (by decide)) rfl rfl rfl .nil)) ?_
 refine GL_step rfl (PS_build pl25 zv25 rfl (.cons Room.l0 rfl rfl rfl (.cons Room.l2 rfl rfl rfl (.cons Room.l3 rfl rfl rfl (.cons Room.l1 rfl rfl rfl .nil))))) ?_
 refine GL_step rfl (PS_buildA Tryz.underlying22 sz3 zv22 rfl (.cons (Lens.arr (n := 6) (i := 0) flI (by decide) (by decide)) rfl rfl rfl (.cons (Lens.arr (n := 6) (i := 1) flI (by decide) (by decide)) rfl rfl rfl (.cons (Lens.arr (n := 6) (i := 2) flI (by decide) (by decide)) rfl rfl rfl (.cons (Lens.arr (n := 6) (i := 3) flI (by decide) (by decide)) rfl rfl rfl (.cons (Lens.arr (n := 6) (i := 4) flI (by decide) (by decide)) rfl rfl rfl (.cons (Lens.arr (n := 6) (i := 5) flI (by decide) (by decide)) rfl rfl rfl .nil))))))) ?_
 refine GL_step rfl (PS_build pl25 zv25 rfl (.cons Room.l0 rfl rfl rfl (.cons Room.l2 rfl rfl rfl .nil))) ?_
 refine GL_bs (cs := encA (n := 6) Room.enc (Vector.replicate 6 default)) (cs' := encA (n := 6) Room.enc Land.roomsV) rfl Tryz.underlying81 sz25 zv25 (by decide) (by decide) (by kernel_rfl) (.cons (Lens.arr (n := 6) (i := 0) Room.fl (by decide) (by decide)) rfl rfl rfl (.cons (Lens.arr (n := 6) (i := 1) Room.fl (by decide) (by decide)) rfl rfl rfl (.cons (Lens.arr (n := 6) (i := 2) Room.fl (by decide) (by decide)) rfl rfl rfl (.cons (Lens.arr (n := 6) (i := 3) Room.fl (by decide) (by decide)) rfl rfl rfl (.cons (Lens.arr (n := 6) (i := 4) Room.fl (by decide) (by decide)) rfl rfl rfl (.cons (Lens.arr (n := 6) (i := 5) Room.fl (by decide) (by decide)) rfl rfl rfl .nil)))))) rfl (fun b3 => ?_)
 refine GL_step rfl (PS_len_slice rfl Tryz.underlying81 rfl) ?_
 refine GL_step rfl (PS_move rfl) ?_
 refine GL_nil ?_
 refine GQ_sub (.cons (k := 0) rfl (.cons (k := 1) rfl (.cons (k := 20) rfl (.cons (k := 21) rfl (.cons (k := 22) rfl (.nil _)))))) ?_
 refine GQ_then ?_
 refine G_block ?_
 refine G_subF (.cons (k := 22) rfl (.cons (k := 0) rfl (.cons (k := 1) rfl (.cons (k := 20) rfl (.cons (k := 21) rfl (.nil _)))))) ?_
 refine G_pull (.tail .head) ?_
 refine G_loop1_ (fun (k : Int) => 0 ≤ k ∧ k ≤ 6) (fun (k : Int) => (6 - k).toNat) (fun (k : Int) => [(22, .int .i64 k)]) (fun (k : Int) => [Res.box b2 34 (Land.enc (Land.newA k.toNat))]) (0) ?_ rfl rfl (fun k hI1 => ?_)
 · exact ⟨Int.le_refl _, by omega⟩
 obtain ⟨hI11, hI12⟩ := hI1
 refine G_seq ?_
 refine G_region ?_
 refine GL_step rfl (PS_lss rfl rfl) ?_
 refine GL_nil ?_
 refine GQ_then ?_
 refine G_seq ?_
 refine G_cond rfl (fun c1 => ?_) (fun c1 => ?_)
 ·
  have c1p := kz c1
  dsimp only at c1p
  refine G_skip ?_
  refine GQ_sub (.cons (k := 0) rfl (.cons (k := 1) rfl (.cons (k := 20) rfl (.cons (k := 21) rfl (.cons (k := 22) rfl (.nil _)))))) ?_
  refine GQ_then ?_
  refine G_seq ?_
  refine G_block ?_
  refine G_seq ?_
  refine G_region ?_
  refine GL_step rfl (PS_move rfl) ?_
  refine GL_step rfl (PS_idxS is81 (by decide) (Kn.own (.tail _ (.head _))) rfl rfl (by omega) (by dsimp only; omega)) ?_
  refine GL_step rfl (PS_ldG rfl tya25 (by decide) Room.fl (Kn.own (.tail _ (.head _))) (by simp; omega)) ?_
  refine GL_alloc rfl zv25 rfl (fun b4 => ?_)
  refine GL_step rfl (PS_assign rfl) ?_
  refine GL_unit (PU_store (Lens.id Room.fl.len Room.fl.one) rfl rfl rfl sz25 rfl .head) ?_
  refine GL_nil ?_
  refine GQ_sub (.cons (k := 0) rfl (.cons (k := 1) rfl (.cons (k := 2) rfl (.cons (k := 3) rfl (.cons (k := 20) rfl (.cons (k := 21) rfl (.cons (k := 22) rfl (.nil _)))))))) ?_
  refine GQ_then ?_
  refine G_region ?_
  refine GL_step rfl (PS_move rfl) ?_
  refine GL_step rfl (PS_loadA rfl tya25 (.head _) (Lens.id Room.fl.len Room.fl.one) rfl) ?_
  refine GL_step rfl (PS_fieldAddr fa34_0 rfl) ?_
  refine GL_step rfl (PS_indexAddr ia26 rfl rfl (by omega) (by omega)) ?_
  refine GL_unit (PU_store (Land.l0.comp (Lens.arr (n := 6) Room.fl (by omega) (by omega))) rfl rfl rfl sz25 rfl (.tail .head)) ?_
  refine GL_nil ?_
  refine GQ_sub (.cons (k := 0) rfl (.cons (k := 1) rfl (.cons (k := 20) rfl (.cons (k := 21) rfl (.cons (k := 22) rfl (.nil _)))))) ?_
  refine GQ_block ?_
  refine GQ_then ?_
  refine G_region ?_
  refine GL_step rfl (PS_add rfl rfl (IntWalk.i64_in _ (by omega))) ?_
  refine GL_step rfl (PS_move rfl) ?_
  refine GL_nil ?_
  refine GQ_sub (.cons (k := 0) rfl (.cons (k := 1) rfl (.cons (k := 20) rfl (.cons (k := 21) rfl (.cons (k := 22) rfl (.nil _)))))) ?_
  refine GQ_next1_ (k + 1) ?_ ?_ (.cons (k := 22) rfl (.cons (k := 0) rfl (.cons (k := 1) rfl (.cons (k := 20) rfl (.cons (k := 21) rfl (.nil _)))))) (by rw [Land.newA_step (by omega)]; exact (.cons _ (.refl _)))
  · exact ⟨by omega, by omega⟩
  · omega
 have c1p := kz c1
 dsimp only at c1p
 obtain rfl : k = 6 := by omega
 refine G_exit ?_
 refine GQ_then_exit ?_
 refine GQ_then_exit ?_
 refine GQ_block_exit ?_
 refine GQ_sub (.cons (k := 0) rfl (.cons (k := 1) rfl (.nil _))) ?_
 refine GQ_then ?_
 refine G_seq ?_
 refine G_seq ?_
 refine G_region ?_
 refine GL_step rfl (PS_build pl28 zv28 rfl (.cons Thing.l0 rfl rfl rfl (.cons Thing.l1 rfl rfl rfl .nil))) ?_
 refine GL_step rfl (PS_build pl28 zv28 rfl (.cons Thing.l0 rfl rfl rfl (.cons Thing.l1 rfl rfl rfl (.cons Thing.l3 rfl rfl rfl .nil)))) ?_
 refine GL_step rfl (PS_build pl28 zv28 rfl (.cons Thing.l0 rfl rfl rfl (.cons Thing.l1 rfl rfl rfl .nil))) ?_
 refine GL_step rfl (PS_build pl28 zv28 rfl (.cons Thing.l0 rfl rfl rfl (.cons Thing.l1 rfl rfl rfl (.cons Thing.l3 rfl rfl rfl .nil)))) ?_
 refine GL_step rfl (PS_build pl28 zv28 rfl (.cons Thing.l0 rfl rfl rfl (.cons Thing.l2 rfl rfl rfl (.cons Thing.l3 rfl rfl rfl .nil)))) ?_
 refine GL_step rfl (PS_build pl28 zv28 rfl (.cons Thing.l0 rfl rfl rfl (.cons Thing.l3 rfl rfl rfl .nil))) ?_
 refine GL_step rfl (PS_build pl28 zv28 rfl (.cons Thing.l0 rfl rfl rfl .nil)) ?_
 refine GL_step rfl (PS_build pl28 zv28 rfl (.cons Thing.l0 rfl rfl rfl (.cons Thing.l1 rfl rfl rfl (.cons Thing.l4 rfl rfl rfl .nil)))) ?_
 refine GL_step rfl (PS_build pl28 zv28 rfl (.cons Thing.l0 rfl rfl rfl (.cons Thing.l2 rfl rfl rfl (.cons Thing.l3 rfl rfl rfl .nil)))) ?_
 refine GL_bs (cs := encA (n := 9) Thing.enc (Vector.replicate 9 default)) (cs' := encA (n := 9) Thing.enc Land.thingsV) rfl Tryz.underlying82 sz28 zv28 (by decide) (by decide) (by kernel_rfl) (.cons (Lens.arr (n := 9) (i := 0) Thing.fl (by decide) (by decide)) rfl rfl rfl (.cons (Lens.arr (n := 9) (i := 1) Thing.fl (by decide) (by decide)) rfl rfl rfl (.cons (Lens.arr (n := 9) (i := 2) Thing.fl (by decide) (by decide)) rfl rfl rfl (.cons (Lens.arr (n := 9) (i := 3) Thing.fl (by decide) (by decide)) rfl rfl rfl (.cons (Lens.arr (n := 9) (i := 4) Thing.fl (by decide) (by decide)) rfl rfl rfl (.cons (Lens.arr (n := 9) (i := 5) Thing.fl (by decide) (by decide)) rfl rfl rfl (.cons (Lens.arr (n := 9) (i := 6) Thing.fl (by decide) (by decide)) rfl rfl rfl (.cons (Lens.arr (n := 9) (i := 7) Thing.fl (by decide) (by decide)) rfl rfl rfl (.cons (Lens.arr (n := 9) (i := 8) Thing.fl (by decide) (by decide)) rfl rfl rfl .nil))))))))) rfl (fun b5 => ?_)
 refine GL_step rfl (PS_len_slice rfl Tryz.underlying82 rfl) ?_
 refine GL_step rfl (PS_move rfl) ?_
 refine GL_nil ?_
 refine GQ_sub (.cons (k := 0) rfl (.cons (k := 1) rfl (.cons (k := 41) rfl (.cons (k := 42) rfl (.cons (k := 43) rfl (.nil _)))))) ?_
 refine GQ_then ?_
 refine G_block ?_
 refine G_subF (.cons (k := 43) rfl (.cons (k := 0) rfl (.cons (k := 1) rfl (.cons (k := 41) rfl (.cons (k := 42) rfl (.nil _)))))) ?_
 refine G_pull (.tail .head) ?_
 refine G_loop1_ (fun (k : Int) => 0 ≤ k ∧ k ≤ 9) (fun (k : Int) => (9 - k).toNat) (fun (k : Int) => [(43, .int .i64 k)]) (fun (k : Int) => [Res.box b2 34 (Land.enc (Land.newB k.toNat))]) (0) ?_ rfl rfl (fun k hI2 => ?_)
 · exact ⟨Int.le_refl _, by omega⟩
 obtain ⟨hI21, hI22⟩ := hI2
 refine G_seq ?_
 refine G_region ?_
 refine GL_step rfl (PS_lss rfl rfl) ?_
 refine GL_nil ?_
 refine GQ_then ?_
 refine G_seq ?_
 refine G_cond rfl (fun c2 => ?_) (fun c2 => ?_)
 ·
  have c2p := kz c2
  dsimp only at c2p
  refine G_skip ?_
  refine GQ_sub (.cons (k := 0) rfl (.cons (k := 1) rfl (.cons (k := 41) rfl (.cons (k := 42) rfl (.cons (k := 43) rfl (.nil _)))))) ?_
  refine GQ_then ?_
  refine G_seq ?_
  refine G_block ?_
  refine G_seq ?_
  refine G_region ?_
  refine GL_step rfl (PS_move rfl) ?_
  refine GL_step rfl (PS_idxS is82 (by decide) (Kn.own (.tail _ (.head _))) rfl rfl (by omega) (by dsimp only; omega)) ?_
  refine GL_step rfl (PS_ldG rfl tya28 (by decide) Thing.fl (Kn.own (.tail _ (.head _))) (by simp; omega)) ?_
  refine GL_alloc rfl zv28 rfl (fun b6 => ?_)
  refine GL_step rfl (PS_assign rfl) ?_
  refine GL_unit (PU_store (Lens.id Thing.fl.len Thing.fl.one) rfl rfl rfl sz28 rfl .head) ?_
  refine GL_nil ?_
  refine GQ_sub (.cons (k := 0) rfl (.cons (k := 1) rfl (.cons (k := 4) rfl (.cons (k := 5) rfl (.cons (k := 41) rfl (.cons (k := 42) rfl (.cons (k := 43) rfl (.nil _)))))))) ?_
  refine GQ_then ?_
  refine G_region ?_
  refine GL_step rfl (PS_move rfl) ?_
  refine GL_step rfl (PS_loadA rfl tya28 (.head _) (Lens.id Thing.fl.len Thing.fl.one) rfl) ?_
  refine GL_step rfl (PS_fieldAddr fa34_1 rfl) ?_
  refine GL_step rfl (PS_indexAddr ia29 rfl rfl (by omega) (by omega)) ?_
  refine GL_unit (PU_store (Land.l1.comp (Lens.arr (n := 9) Thing.fl (by omega) (by omega))) rfl rfl rfl sz28 rfl (.tail .head)) ?_
  refine GL_nil ?_
  refine GQ_sub (.cons (k := 0) rfl (.cons (k := 1) rfl (.cons (k := 41) rfl (.cons (k := 42) rfl (.cons (k := 43) rfl (.nil _)))))) ?_
  refine GQ_block ?_
  refine GQ_then ?_
  refine G_region ?_
  refine GL_step rfl (PS_add rfl rfl (IntWalk.i64_in _ (by omega))) ?_
  refine GL_step rfl (PS_move rfl) ?_
  refine GL_nil ?_
  refine GQ_sub (.cons (k := 0) rfl (.cons (k := 1) rfl (.cons (k := 41) rfl (.cons (k := 42) rfl (.cons (k := 43) rfl (.nil _)))))) ?_
  refine GQ_next1_ (k + 1) ?_ ?_ (.cons (k := 43) rfl (.cons (k := 0) rfl (.cons (k := 1) rfl (.cons (k := 41) rfl (.cons (k := 42) rfl (.nil _)))))) (by rw [Land.newB_step (by omega)]; exact (.cons _ (.refl _)))
  · exact ⟨by omega, by omega⟩
  · omega
 have c2p := kz c2
 dsimp only at c2p
 obtain rfl : k = 9 := by omega
 refine G_exit ?_
 refine GQ_then_exit ?_
 refine GQ_then_exit ?_
 refine GQ_block_exit ?_
 refine GQ_sub (.cons (k := 0) rfl (.cons (k := 1) rfl (.nil _))) ?_
 refine GQ_then ?_
 refine G_seq ?_
 refine G_region ?_
 refine GL_step rfl (PS_build pl31 zv31 rfl (.cons Being.l0 rfl rfl rfl (.cons Being.l1 rfl rfl rfl (.cons Being.l2 rfl rfl rfl (.cons Being.l4 rfl rfl rfl .nil))))) ?_
 refine GL_step rfl (PS_fieldAddr fa34_2 rfl) ?_
 refine GL_step rfl (PS_indexAddr ia32 rfl rfl (by decide) (by decide)) ?_
 refine GL_unit (PU_store (Land.l2.comp (Lens.arr (n := 6) Being.fl (by decide) (by decide))) rfl rfl rfl sz31 rfl .head) ?_
 refine GL_nil ?_
 refine GQ_sub (.cons (k := 0) rfl (.cons (k := 1) rfl (.nil _))) ?_
 refine GQ_then ?_
 refine G_seq ?_
 refine G_region ?_
 refine GL_step rfl (PS_build pl31 zv31 rfl (.cons Being.l0 rfl rfl rfl (.cons Being.l1 rfl rfl rfl (.cons Being.l3 rfl rfl rfl (.cons Being.l4 rfl rfl rfl .nil))))) ?_
 refine GL_step rfl (PS_fieldAddr fa34_2 rfl) ?_
 refine GL_step rfl (PS_indexAddr ia32 rfl rfl (by decide) (by decide)) ?_
 refine GL_unit (PU_store (Land.l2.comp (Lens.arr (n := 6) Being.fl (by decide) (by decide))) rfl rfl rfl sz31 rfl .head) ?_
 refine GL_nil ?_
 refine GQ_sub (.cons (k := 0) rfl (.cons (k := 1) rfl (.nil _))) ?_
 refine GQ_then ?_
 refine G_seq ?_
 refine G_region ?_
 refine GL_step rfl (PS_loadA rfl tya34 (.head _) (Lens.id Land.fl.len Land.fl.one) rfl) ?_
 refine GL_unit (PU_store (Lens.id Land.fl.len Land.fl.one) rfl rfl rfl sz34 rfl (.tail (.tail (.tail .head)))) ?_
 refine GL_nil ?_
 refine GQ_sub (.cons (k := 0) rfl (.nil _)) ?_
 refine GQ_then ?_
 refine G_ret ?_
 refine GQ_ret rfl (.cell rfl (.tail _ (.tail _ (.tail _ (.head _)))) (.inl ⟨(by rw [Land.fl.len]; exact tya34), rfl⟩) .nil) ?_
 intro w1 hS; refine ⟨?_, hS.toKeep⟩; rfl
theorem rules_turn_seen_spec (b : Nat) (T : Turn) (g : Hd) (hF : T.Fit) : Ctr Tryz.prog 58 #[.pointer (some ⟨b, 0, none⟩)] [Res.box b 53 (TurnV.enc ⟨T.w, T.b, g⟩)] (fun v B => ∃ f : Hd, v = f.val ∧ f.len = (T.seen).length ∧ B = [Res.box b 53 (TurnV.enc ⟨T.w, T.b, g⟩), Res.own f 3 1 ((T.seen).flatMap encI)]) := by
 intro w hS0
 have hb := hF.b
 have hr := hF.room
 refine Ret_body _ _ Tryz.func58 rfl rfl rfl (hS0) ?_
 refine G_seq ?_
 refine G_region ?_
 refine GL_step rfl (PS_assign rfl) ?_
 refine GL_nil ?_
 refine GQ_sub (.cons (k := 0) rfl (.nil _)) ?_
 refine GQ_then ?_
 refine G_seq ?_
 refine G_planN (N := 12) [0, 0, 2, 6, 14, 1, 33, 97, 255, 511, 1023, 2047] mix (by kernel_rfl) rfl ?_
 refine Plan_float 0 rfl rfl (by kernel_rfl) (OK_s (EX_s (PS_move rfl))) ?_
 refine Plan_float 1 rfl rfl (by kernel_rfl) (OK_s (EX_s (PS_move rfl))) ?_
 refine Plan_float 2 rfl rfl (by kernel_rfl) (OK_s (EX_s (PS_nilCheck rfl))) ?_
 refine Plan_float 3 rfl rfl (by kernel_rfl) (OK_s (EX_s (PS_fieldAddr fa53_1 rfl))) ?_
 refine Plan_float 4 rfl rfl (by kernel_rfl) (OK_s (EX_s (PS_load rfl tys3 (.head _) TurnV.l1 rfl rfl))) ?_
 refine Plan_float 5 rfl rfl (by kernel_rfl) (OK_s (EX_s (PS_nilCheck rfl))) ?_
 refine Plan_float 6 rfl rfl (by kernel_rfl) (OK_s (EX_s (PS_fieldAddr fa53_0 rfl))) ?_
 refine Plan_float 7 rfl rfl (by kernel_rfl) (OK_s (EX_s (PS_fieldAddr fa34_2 rfl))) ?_
 refine Plan_float 8 rfl rfl (by kernel_rfl) (OK_s (EX_s (PS_indexAddr ia32 rfl rfl (by first | omega | exact hb.1 | exact hb.2 | (dsimp only; omega)) (by first | omega | exact hb.1 | exact hb.2 | (dsimp only; omega))))) ?_
 refine Plan_float 9 rfl rfl (by kernel_rfl) (OK_s (EX_s (PS_fieldAddr fa31_3 rfl))) ?_
 refine Plan_float 10 rfl rfl (by kernel_rfl) (OK_s (EX_s (PS_load rfl tys3 (.head _) (((TurnV.l0.comp Land.l2).comp (Lens.arr (n := 6) Being.fl (by first | omega | exact hb.1 | exact hb.2 | (dsimp only; omega)) (by first | omega | exact hb.1 | exact hb.2 | (dsimp only; omega)))).comp Being.l3) rfl rfl))) ?_
 refine Plan_float 11 rfl rfl (by kernel_rfl) (OK_s (EX_s (PS_assign rfl))) ?_
 refine Plan_end (by kernel_rfl) ?_
 refine GQ_sub (.cons (k := 0) rfl (.cons (k := 3) rfl (.nil _))) ?_
 refine GQ_then ?_
 refine G_seq ?_
 refine G_seq ?_
 refine G_region ?_
 refine GL_step rfl (PS_move rfl) ?_
 refine GL_step rfl (PS_nilCheck rfl) ?_
 refine GL_step rfl (PS_fieldAddr fa53_0 rfl) ?_
 refine GL_step rfl (PS_loadA rfl tya34 (.head _) TurnV.l0 rfl) ?_
 refine GL_step rfl (PS_move rfl) ?_
 refine GL_pure rfl cf44 (.cons rfl (.cons rfl .nil)) (fun w hS => sense_Bright_spec _ _ w) ?_
 refine GL_step rfl (PS_not rfl) ?_
 refine GL_nil ?_
 refine GQ_sub (.cons (k := 0) rfl (.cons (k := 3) rfl (.cons (k := 21) rfl (.nil _)))) ?_
 refine GQ_then ?_
 refine G_cond rfl (fun c1 => ?_) (fun c1 => ?_)
 ·
  have c1p := kz c1
  refine G_seq ?_
  refine G_region ?_
  refine GL_step rfl (PS_assign rfl) ?_
  refine GL_nil ?_
  refine GQ_sub (.cons (k := 2) rfl (.nil _)) ?_
  refine GQ_then ?_
  refine G_ret ?_
  refine GQ_then_ret ?_
  refine GQ_ret rfl (.tmp rfl .nil) ?_
  intro w1 hS
  have hS := hS.own_nil 3 1
  have hS := (hS.perm (Pulls.perm (.cons (.tail .head) (.cons .head .nil)))).headL
  have hq : T.seen = _ := if_t c1
  exact ⟨_, ⟨⟨none, 0, 0⟩, rfl, by rw [hq]; rfl, by rw [hq]; rfl⟩, hS⟩
 have c1p := kz c1
 refine G_skip ?_
 refine GQ_sub (.cons (k := 0) rfl (.cons (k := 3) rfl (.nil _))) ?_
 refine GQ_then ?_
 refine G_seq ?_
 refine G_region ?_
 refine GL_step rfl (PS_move rfl) ?_
 refine GL_step rfl (PS_nilCheck rfl) ?_
 refine GL_step rfl (PS_fieldAddr fa53_0 rfl) ?_
 refine GL_step rfl (PS_loadA rfl tya34 (.head _) TurnV.l0 rfl) ?_
 refine GL_step rfl (PS_move rfl) ?_
 refine GL_callL rfl cf29 (.cons rfl (.cons rfl (.cons rfl .nil))) .nil (land_Has_spec _ _ _) (fun v2 B hv => ?_)
 obtain ⟨y3, rfl, y4, rfl⟩ := hv
 refine GL_step rfl (PS_assign rfl) ?_
 refine GL_nil ?_
 refine GQ_sub (.cons (k := 2) rfl (.nil _)) ?_
 refine GQ_then ?_
 refine G_ret ?_
 refine GQ_ret rfl (.tmp rfl .nil) ?_
 intro w1 hS
 have hS := (hS.perm (Pulls.perm (.cons (.tail .head) (.cons .head .nil)))).headL
 have hq : T.seen = _ := (if_f c1)
 exact ⟨_, ⟨_, rfl, by rw [hq]; first | rfl | assumption, by rw [hq]; rfl⟩, hS⟩
theorem rules_turn_pick_spec (b : Nat) (T : Turn) (g : Hd) (f : Hd) (l : List Int) (z : Int) (u : Str) (a : Bool) (hF : T.Fit) (hf : f.len = l.length) (hl : l.length ≤ 100) (hi : ∀ i ∈ l, 0 ≤ i ∧ i < 9) : Ctr Tryz.prog 60 #[.pointer (some ⟨b, 0, none⟩), f.val, .int .i64 z, vstr u, .bool a] [Res.box b 53 (TurnV.enc ⟨T.w, T.b, g⟩), Res.own f 3 1 (l.flatMap encI)] (fun v B => ∃ h : Hd, v = h.val ∧ h.len = (Turn.pickL T.w l z u a).length ∧ B = [Res.box b 53 (TurnV.enc ⟨T.w, T.b, g⟩), Res.own f 3 1 (l.flatMap encI), Res.own h 3 1 ((Turn.pickL T.w l z u a).flatMap encI)]) := by
 intro w hS0
 have hb := hF.b
 have hr := hF.room
 refine Ret_body _ _ Tryz.func60 rfl rfl rfl (hS0) ?_
 refine G_seq ?_
 refine G_region ?_
 refine GL_step rfl (PS_assign rfl) ?_
 refine GL_nil ?_
 refine GQ_sub (.cons (k := 0) rfl (.cons (k := 1) rfl (.cons (k := 2) rfl (.cons (k := 3) rfl (.cons (k := 4) rfl (.nil _)))))) ?_
 refine GQ_then ?_
 refine G_seq ?_
 refine G_region ?_
 refine GL_step rfl (PS_assign rfl) ?_
 refine GL_nil ?_
 refine GQ_then ?_
 refine G_seq ?_
 refine G_seq ?_
 refine G_region ?_
 refine GL_step rfl (PS_move rfl) ?_
 refine GL_step rfl (PS_len_slice rfl Tryz.underlying66 rfl) ?_
 refine GL_step rfl (PS_move rfl) ?_
 refine GL_nil ?_
 refine GQ_sub (.cons (k := 0) rfl (.cons (k := 2) rfl (.cons (k := 3) rfl (.cons (k := 4) rfl (.cons (k := 11) rfl (.cons (k := 14) rfl (.cons (k := 15) rfl (.cons (k := 16) rfl (.nil _))))))))) ?_
 refine GQ_then ?_
 refine G_block ?_
 refine G_subF (.cons (k := 11) rfl (.cons (k := 16) rfl (.cons (k := 0) rfl (.cons (k := 2) rfl (.cons (k := 3) rfl (.cons (k := 4) rfl (.cons (k := 14) rfl (.cons (k := 15) rfl (.nil _))))))))) ?_
 refine G_nilF encI 3 1 ?_
 refine G_loop3_ (fun (k : Int) (xs : List Int) (h : Hd) => 0 ≤ k ∧ k ≤ (l.length : Int) ∧ xs = Turn.pickA T.w u (l.take k.toNat) ∧ h.len = xs.length ∧ xs.length ≤ k.toNat) (fun (k : Int) (xs : List Int) (h : Hd) => ((l.length : Int) - k).toNat) (fun (k : Int) (xs : List Int) (h : Hd) => [(11, h.val), (16, .int .i64 k)]) (fun (k : Int) (xs : List Int) (h : Hd) => [Res.own h 3 1 (xs.flatMap encI)]) (0) ([]) (_) ?_ rfl rfl (fun k xs h hI1 => ?_)
 · exact ⟨by omega, by omega, rfl, rfl, by simp⟩
 obtain ⟨hI11, hI12, hI13, hI14, hI15⟩ := hI1
 refine G_seq ?_
 refine G_region ?_
 refine GL_step rfl (PS_lss rfl rfl) ?_
 refine GL_nil ?_
 refine GQ_then ?_
 refine G_seq ?_
 refine G_cond rfl (fun c1 => ?_) (fun c1 => ?_)
 ·
  have c1p := kz c1
  have hx := hi _ (Line.getD_memI (xs := l) (i := k.toNat) (by omega))
  refine G_skip ?_
  refine GQ_sub (.cons (k := 0) rfl (.cons (k := 2) rfl (.cons (k := 3) rfl (.cons (k := 4) rfl (.cons (k := 11) rfl (.cons (k := 14) rfl (.cons (k := 15) rfl (.cons (k := 16) rfl (.nil _))))))))) ?_
  refine GQ_then ?_
  refine G_seq ?_
  refine G_block ?_
  refine G_seq ?_
  refine G_region ?_
  refine GL_step rfl (PS_idxS is66 (by decide) (Kn.own (.tail _ (.tail _ (.head _)))) rfl rfl (by omega) (by omega)) ?_
  refine GL_step rfl (PS_ldInt rfl tys3 (Kn.own (.tail _ (.tail _ (.head _)))) (by omega)) ?_
  refine GL_step rfl (PS_assign rfl) ?_
  refine GL_nil ?_
  refine GQ_sub (.cons (k := 0) rfl (.cons (k := 2) rfl (.cons (k := 3) rfl (.cons (k := 4) rfl (.cons (k := 11) rfl (.cons (k := 13) rfl (.cons (k := 14) rfl (.cons (k := 15) rfl (.cons (k := 16) rfl (.nil _)))))))))) ?_
  refine GQ_then ?_
  refine G_seq ?_
  refine G_region ?_
  refine GL_step rfl (PS_move rfl) ?_
  refine GL_step rfl (PS_eql_str rfl rfl) ?_
  refine GL_step rfl (PS_move rfl) ?_
  refine GL_gf (t := 22) rfl rfl rfl (fun q => PS_move rfl) ?_
  refine GL_gf (t := 22) rfl rfl rfl (fun q => PS_move rfl) ?_
  refine GL_gf (t := 22) rfl rfl rfl (fun q => PS_nilCheck (cvE rfl (by rw [q]; rfl))) ?_
  refine GL_gf (t := 22) rfl rfl rfl (fun q => PS_fieldAddr fa53_0 (cvE rfl (by rw [q]; rfl))) ?_
  refine GL_gf (t := 22) rfl rfl rfl (fun q => PS_fieldAddr fa34_1 (cvE rfl (by rw [q]; rfl))) ?_
  refine GL_gf (t := 22) rfl rfl rfl (fun q => by have q1 := q; (try simp at q1); exact PS_indexAddr ia29 (cvE rfl (by rw [q]; rfl)) (cvE rfl (by rw [q]; rfl)) (by first | omega | exact hb.1 | exact hb.2) (by first | omega | exact hb.1 | exact hb.2)) ?_
  refine GL_gf (t := 22) rfl rfl rfl (fun q => PS_fieldAddr fa28_0 (cvE rfl (by rw [q]; rfl))) ?_
  refine GL_gf (t := 22) rfl rfl rfl (fun q => by have q1 := q; (try simp at q1); exact PS_load (cvE rfl (by rw [q]; rfl)) tys9 (.tail _ (.head _)) (((TurnV.l0.comp Land.l1).comp (Lens.arr (n := 9) Thing.fl (by first | omega | exact hb.1 | exact hb.2) (by first | omega | exact hb.1 | exact hb.2))).comp Thing.l0) rfl rfl) ?_
  refine GL_gf (t := 22) rfl rfl rfl (fun q => PS_move rfl) ?_
  refine GL_gf (t := 22) rfl rfl rfl (fun q => PS_eql_str (cvE rfl (by rw [q]; rfl)) (cvE rfl (by rw [q]; rfl))) ?_
  refine GL_step rfl (PS_or rfl rfl (fun h => by rw [h]; rfl)) ?_
  refine GL_nil ?_
  refine GQ_sub (.cons (k := 0) rfl (.cons (k := 2) rfl (.cons (k := 3) rfl (.cons (k := 4) rfl (.cons (k := 11) rfl (.cons (k := 13) rfl (.cons (k := 14) rfl (.cons (k := 15) rfl (.cons (k := 16) rfl (.cons (k := 33) rfl (.nil _))))))))))) ?_
  refine GQ_then ?_
  refine G_cond rfl (fun c2 => ?_) (fun c2 => ?_)
  ·
   have c2p := kz c2
   refine G_region ?_
   refine GL_step rfl (PS_move rfl) ?_
   refine GL_step rfl (PS_move rfl) ?_
   refine GL_bs1F encI flI rfl Tryz.underlying66 sz3 zv3 rfl (by decide) (by decide) rfl rfl (fun b1 => ?_)
   refine GL_appendF flI rfl Tryz.underlying66 sz3 zv3 rfl by3 (by decide) (by decide) rfl rfl (fun w hS => Src.sliceT Tryz.underlying66 ((Kn.own (.head _)) w hS)) (by (try dsimp only); omega) (fun _ => (.tail .head)) (fun h1 h1l h1z => ?_)
   refine GL_step rfl (PS_assign rfl) ?_
   refine GL_nil ?_
   refine GQ_sub (.cons (k := 0) rfl (.cons (k := 2) rfl (.cons (k := 3) rfl (.cons (k := 4) rfl (.cons (k := 11) rfl (.cons (k := 14) rfl (.cons (k := 15) rfl (.cons (k := 16) rfl (.nil _))))))))) ?_
   refine GQ_block ?_
   refine GQ_then ?_
   refine G_region ?_
   refine GL_step rfl (PS_add rfl rfl (IntWalk.i64_in _ (by first | omega | exact hb.1 | exact hb.2))) ?_
   refine GL_step rfl (PS_move rfl) ?_
   refine GL_nil ?_
   refine GQ_sub (.cons (k := 0) rfl (.cons (k := 2) rfl (.cons (k := 3) rfl (.cons (k := 4) rfl (.cons (k := 11) rfl (.cons (k := 14) rfl (.cons (k := 15) rfl (.cons (k := 16) rfl (.nil _))))))))) ?_
   refine GQ_next3_ (k + 1) _ _ ?_ ?_ (.cons (k := 11) rfl (.cons (k := 16) rfl (.cons (k := 0) rfl (.cons (k := 2) rfl (.cons (k := 3) rfl (.cons (k := 4) rfl (.cons (k := 14) rfl (.cons (k := 15) rfl (.nil _))))))))) (.cons _ (.refl _))
   · exact ⟨by omega, by omega, by rw [Turn.pickA_t hI11 (by omega) c2, ← hI13], (by (try dsimp only at *) <;> (try simp only [List.length_append, List.length_cons, List.length_nil]) <;> omega), (by (try simp only [List.length_append, List.length_cons, List.length_nil]); omega)⟩
   · omega
  have c2p := kz c2
  refine G_skip ?_
  refine GQ_sub (.cons (k := 0) rfl (.cons (k := 2) rfl (.cons (k := 3) rfl (.cons (k := 4) rfl (.cons (k := 11) rfl (.cons (k := 14) rfl (.cons (k := 15) rfl (.cons (k := 16) rfl (.nil _))))))))) ?_
  refine GQ_block ?_
  refine GQ_then ?_
  refine G_region ?_
  refine GL_step rfl (PS_add rfl rfl (IntWalk.i64_in _ (by first | omega | exact hb.1 | exact hb.2))) ?_
  refine GL_step rfl (PS_move rfl) ?_
  refine GL_nil ?_
  refine GQ_sub (.cons (k := 0) rfl (.cons (k := 2) rfl (.cons (k := 3) rfl (.cons (k := 4) rfl (.cons (k := 11) rfl (.cons (k := 14) rfl (.cons (k := 15) rfl (.cons (k := 16) rfl (.nil _))))))))) ?_
  refine GQ_next3_ (k + 1) _ _ ?_ ?_ (.cons (k := 11) rfl (.cons (k := 16) rfl (.cons (k := 0) rfl (.cons (k := 2) rfl (.cons (k := 3) rfl (.cons (k := 4) rfl (.cons (k := 14) rfl (.cons (k := 15) rfl (.nil _))))))))) (.refl _)
  · exact ⟨by omega, by omega, by rw [Turn.pickA_f hI11 (by omega) c2, ← hI13], (by (try dsimp only at *) <;> (try simp only [List.length_append, List.length_cons, List.length_nil]) <;> omega), (by (try simp only [List.length_append, List.length_cons, List.length_nil]); omega)⟩
  · omega
 have c1p := kz c1
 obtain rfl : k = (l.length : Int) := by omega
 have hx3 := hI13
 rw [show (l.length : Int).toNat = l.length by omega, List.take_length] at hx3
 have hpa := Turn.pickA_len T.w u l
 rw [← hx3] at hpa
 refine G_exit ?_
 refine GQ_then_exit ?_
 refine GQ_then_exit ?_
 refine GQ_block_exit ?_
 refine GQ_sub (.cons (k := 2) rfl (.cons (k := 4) rfl (.cons (k := 11) rfl (.nil _)))) ?_
 refine GQ_then ?_
 refine G_seq ?_
 refine G_seq ?_
 refine G_region ?_
 refine GL_step rfl (PS_move rfl) ?_
 refine GL_nil ?_
 refine GQ_sub (.cons (k := 2) rfl (.cons (k := 11) rfl (.cons (k := 39) rfl (.nil _)))) ?_
 refine GQ_then ?_
 refine G_cond rfl (fun c3 => ?_) (fun c3 => ?_)
 ·
  have c3p := kz c3
  refine G_seq ?_
  refine G_region ?_
  refine GL_step rfl (PS_move rfl) ?_
  refine GL_step rfl (PS_assign rfl) ?_
  refine GL_nil ?_
  refine GQ_sub (.cons (k := 10) rfl (.nil _)) ?_
  refine GQ_then ?_
  refine G_ret ?_
  refine GQ_then_ret ?_
  refine GQ_ret rfl (.tmp rfl .nil) ?_
  intro w1 hS
  have hS := (hS.perm (Pulls.perm (.cons (.tail .head) (.cons (.tail .head) (.cons .head .nil))))).headL
  have hq : Turn.pickL T.w l z u a = _ := (if_t c3)
  refine ⟨_, ⟨_, rfl, ?hl1, ?hB1⟩, hS⟩
  case hB1 => rw [hq]; (try rw [← hx3]); (try rfl)
  case hl1 => rw [hq]; first | rfl | (rw [← hx3]; first | assumption | (simp only [Hd.cut, List.length_drop, List.length_take]; omega))
 have c3p := kz c3
 refine G_skip ?_
 refine GQ_sub (.cons (k := 2) rfl (.cons (k := 11) rfl (.nil _))) ?_
 refine GQ_then ?_
 refine G_seq ?_
 refine G_seq ?_
 refine G_region ?_
 refine GL_step rfl (PS_move rfl) ?_
 refine GL_step rfl (PS_lss rfl rfl) ?_
 refine GL_step rfl (PS_move rfl) ?_
 refine GL_gf (t := 43) rfl rfl rfl (fun q => PS_move rfl) ?_
 refine GL_gf (t := 43) rfl rfl rfl (fun q => PS_move rfl) ?_
 refine GL_gf (t := 43) rfl rfl rfl (fun q => PS_len_slice rfl Tryz.underlying66 (cvE rfl (by rw [q]; rfl))) ?_
 refine GL_gf (t := 43) rfl rfl rfl (fun q => PS_gtr (cvE rfl (by rw [q]; rfl)) (cvE rfl (by rw [q]; rfl))) ?_
 refine GL_step rfl (PS_or rfl rfl (fun h => by rw [h]; rfl)) ?_
 refine GL_nil ?_
 refine GQ_sub (.cons (k := 2) rfl (.cons (k := 11) rfl (.cons (k := 48) rfl (.nil _)))) ?_
 refine GQ_then ?_
 refine G_cond rfl (fun c4 => ?_) (fun c4 => ?_)
 ·
  have c4p := kz c4
  rw [hI14, hx3] at c4
  refine G_seq ?_
  refine G_region ?_
  refine GL_step rfl (PS_assign rfl) ?_
  refine GL_nil ?_
  refine GQ_sub (.cons (k := 10) rfl (.nil _)) ?_
  refine GQ_then ?_
  refine G_ret ?_
  refine GQ_then_ret ?_
  refine GQ_ret rfl (.tmp rfl .nil) ?_
  intro w1 hS
  have hS := hS.own_nil 3 1
  have hS := (hS.perm (Pulls.perm (.cons (.tail (.tail .head)) (.cons (.tail (.tail .head)) (.cons .head .nil))))).headL
  have hq : Turn.pickL T.w l z u a = _ := ((if_f c3).trans (if_t c4))
  refine ⟨_, ⟨⟨none, 0, 0⟩, rfl, ?hl2, ?hB2⟩, hS⟩
  case hB2 => rw [hq]; (try rw [← hx3]); (try rfl)
  case hl2 => rw [hq]; first | rfl | (rw [← hx3]; first | assumption | (simp only [Hd.cut, List.length_drop, List.length_take]; omega))
 have c4p := kz c4
 have c4q := c4p
 rw [hI14, hx3] at c4
 refine G_skip ?_
 refine GQ_sub (.cons (k := 2) rfl (.cons (k := 11) rfl (.nil _))) ?_
 refine GQ_then ?_
 refine G_seq ?_
 refine G_region ?_
 refine GL_step rfl (PS_move rfl) ?_
 refine GL_step rfl (PS_move rfl) ?_
 refine GL_step rfl (PS_sub rfl rfl (IntWalk.i64_in _ (by first | omega | exact hb.1 | exact hb.2))) ?_
 refine GL_step rfl (PS_move rfl) ?_
 refine GL_cutMidF flI rfl Tryz.underlying66 sz3 rfl rfl rfl (by first | omega | exact hb.1 | exact hb.2) (by first | omega | exact hb.1 | exact hb.2) (by first | omega | exact hb.1 | exact hb.2) (fun _ => .head) ?_
 refine GL_step rfl (PS_assign rfl) ?_
 refine GL_nil ?_
 refine GQ_sub (.cons (k := 10) rfl (.nil _)) ?_
 refine GQ_then ?_
 refine G_ret ?_
 refine GQ_ret rfl (.tmp rfl .nil) ?_
 intro w1 hS
 have hS := (hS.perm (Pulls.perm (.cons (.tail .head) (.cons (.tail .head) (.cons .head .nil))))).headL
 have hq : Turn.pickL T.w l z u a = _ := ((if_f c3).trans (if_f c4))
 refine ⟨_, ⟨_, rfl, ?hl3, ?hB3⟩, hS⟩
 case hB3 => rw [hq]; (try rw [← hx3]); (try rfl)
 case hl3 => rw [hq]; first | rfl | (rw [← hx3]; first | assumption | (simp only [Hd.cut, List.length_drop, List.length_take]; omega))
theorem rules_turn_thing_spec (b : Nat) (T : Turn) (g : Hd) (k i : Int) (hg : g.len = T.out.length) (hb : 0 ≤ T.b ∧ T.b < 6) (hi : 0 ≤ i ∧ i < 9) (hn : T.out.length ≤ 100000) : Ctr Tryz.prog 61 #[.pointer (some ⟨b, 0, none⟩), .int .i64 k, .int .i64 i] [Res.box b 53 (TurnV.enc ⟨T.w, T.b, g⟩), Res.own g 60 16 (T.out.flatMap Ing.Event.enc)] (fun v B => ∃ g' : Hd, v = .tuple #[] ∧ g'.len = (T.thing k i).out.length ∧ B = [Res.box b 53 (TurnV.enc ⟨(T.thing k i).w, (T.thing k i).b, g'⟩), Res.own g' 60 16 ((T.thing k i).out.flatMap Ing.Event.enc)]) := by
 intro w hS0
 refine Ret_body _ _ Tryz.func61 rfl rfl rfl (hS0) ?_
 refine G_region ?_
 refine GL_step rfl (PS_move rfl) ?_
 refine GL_step rfl (PS_move rfl) ?_
 refine GL_step rfl (PS_move rfl) ?_
 refine GL_step rfl (PS_move rfl) ?_
 refine GL_step rfl (PS_nilCheck rfl) ?_
 refine GL_step rfl (PS_fieldAddr fa53_0 rfl) ?_
 refine GL_step rfl (PS_fieldAddr fa34_1 rfl) ?_
 refine GL_step rfl (PS_indexAddr ia29 rfl rfl (by (try dsimp only at *); omega) (by (try dsimp only at *); omega)) ?_
 refine GL_step rfl (PS_fieldAddr fa28_0 rfl) ?_
 refine GL_step rfl (PS_load rfl tys9 (.head _) (((TurnV.l0.comp Land.l1).comp (Lens.arr (n := 9) Thing.fl (by (try dsimp only at *); omega) (by (try dsimp only at *); omega))).comp Thing.l0) rfl rfl) ?_
 refine GL_step rfl (PS_build pl60 zv60 rfl (.cons Ing.Event.l0 rfl rfl rfl (.cons Ing.Event.l3 rfl rfl rfl (.cons Ing.Event.l8 rfl rfl rfl .nil)))) ?_
 refine GL_callL rfl cf23 (.cons rfl (.cons rfl .nil)) (.cons .head (.cons .head .nil)) (rules_turn_happens_spec _ _ _ { Turn.evk k with thing := (T.w.things.at i).name } hg hb (show (-1 : Int) < 6 by decide) hn) (fun v1 B hv => ?_)
 obtain ⟨y2, rfl, y3, rfl⟩ := hv
 refine GL_nil ?_
 refine GQ_end rfl .nil ?_
 intro w1 hS
 have hS := (hS.perm (Pulls.perm (.cons .head (.cons .head .nil)))).headL
 exact ⟨_, ⟨_, rfl, by assumption, rfl⟩, hS⟩
theorem rules_turn_get_spec (b : Nat) (T : Turn) (g : Hd) (o : Order) (hg : g.len = T.out.length) (hF : T.Fit) (hu : o.second.length ≤ 140737488351232) (hn : T.out.length ≤ 90000) (hz : o.second = []) : CtrR Tryz.prog 32 #[.pointer (some ⟨b, 0, none⟩), .agg o.enc.toArray] [Res.box b 53 (TurnV.enc ⟨T.w, T.b, g⟩), Res.own g 60 16 (T.out.flatMap Ing.Event.enc)] (fun w => (GVE 3 w ∧ 3 ∉ feet [Res.box b 53 (TurnV.enc ⟨T.w, T.b, g⟩), Res.own g 60 16 (T.out.flatMap Ing.Event.enc)]) ∧ (GVE 4 w ∧ 4 ∉ feet [Res.box b 53 (TurnV.enc ⟨T.w, T.b, g⟩), Res.own g 60 16 (T.out.flatMap Ing.Event.enc)])) (fun v B => ∃ g' : Hd, v = .tuple #[] ∧ g'.len = (T.get o).out.length ∧ B = [Res.box b 53 (TurnV.enc ⟨(T.get o).w, (T.get o).b, g'⟩), Res.own g' 60 16 ((T.get o).out.flatMap Ing.Event.enc)]) := by
 intro w hS0 hH
 obtain ⟨⟨gl0, gm0⟩, ⟨gl1, gm1⟩⟩ := hH
 have hb := hF.b
 have hr := hF.room
 refine Ret_body _ _ Tryz.func32 rfl rfl rfl (hS0) ?_
 refine G_seq ?_
 refine G_region ?_
 refine GL_box rfl rfl rfl (fun b1 => ?_)
 refine GL_nil ?_
 refine GQ_sub (.cons (k := 0) rfl (.cons (k := 3) rfl (.nil _))) ?_
 refine GQ_then ?_
 refine G_seq ?_
 refine G_region ?_
 refine GL_step rfl (PS_move rfl) ?_
 refine GL_callL rfl cf58 (.cons rfl .nil) (.cons (.tail .head) .nil) (rules_turn_seen_spec _ _ _ (by first | assumption | omega)) (fun v1 B hv => ?_)
 obtain ⟨y2, rfl, y3, rfl⟩ := hv
 refine GL_step rfl (PS_assign rfl) ?_
 refine GL_nil ?_
 refine GQ_sub (.cons (k := 0) rfl (.cons (k := 3) rfl (.cons (k := 4) rfl (.nil _)))) ?_
 refine GQ_then ?_
 refine G_seq ?_
 refine G_seq ?_
 refine G_region ?_
 refine GL_step rfl (PS_fieldAddr fa47_4 rfl) ?_
 refine GL_step rfl (PS_load rfl tys9 (.tail _ (.tail _ (.head _))) Order.l4 rfl rfl) ?_
 refine GL_step rfl (PS_neq_str rfl rfl) ?_
 refine GL_nil ?_
 refine GQ_sub (.cons (k := 0) rfl (.cons (k := 3) rfl (.cons (k := 4) rfl (.cons (k := 14) rfl (.nil _))))) ?_
 refine GQ_then ?_
 refine G_false rfl (by rw [hz]; rfl) ?_
 refine G_skip ?_
 refine GQ_sub (.cons (k := 0) rfl (.cons (k := 3) rfl (.cons (k := 4) rfl (.nil _)))) ?_
 refine GQ_then ?_
 refine G_seq ?_
 refine G_region ?_
 refine GL_step rfl (PS_move rfl) ?_
 refine GL_step rfl (PS_move rfl) ?_
 refine GL_step rfl (PS_fieldAddr fa47_1 rfl) ?_
 refine GL_step rfl (PS_load rfl tys3 (.tail _ (.tail _ (.head _))) Order.l1 rfl rfl) ?_
 refine GL_step rfl (PS_fieldAddr fa47_3 rfl) ?_
 refine GL_step rfl (PS_load rfl tys9 (.tail _ (.tail _ (.head _))) Order.l3 rfl rfl) ?_
 refine GL_step rfl (PS_fieldAddr fa47_2 rfl) ?_
 refine GL_step rfl (PS_load rfl tys4 (.tail _ (.tail _ (.head _))) Order.l2 rfl rfl) ?_
 refine GL_callL rfl cf60 (.cons rfl (.cons rfl (.cons rfl (.cons rfl (.cons rfl .nil))))) (.cons .head (.cons .head .nil)) (rules_turn_pick_spec _ T _ _ T.seen _ _ _ hF (by assumption) (Nat.le_trans T.seen_len (by decide)) (fun i hi => Turn.seen_rng hi)) (fun v5 B hv => ?_)
 obtain ⟨y6, rfl, y7, rfl⟩ := hv
 refine GL_step rfl (PS_assign rfl) ?_
 refine GL_nil ?_
 refine GQ_sub (.cons (k := 0) rfl (.cons (k := 4) rfl (.nil _))) ?_
 refine GQ_then ?_
 refine G_seq ?_
 refine G_seq ?_
 refine G_region ?_
 refine GL_step rfl (PS_move rfl) ?_
 refine GL_step rfl (PS_len_slice rfl Tryz.underlying66 rfl) ?_
 refine GL_step rfl (PS_eql rfl rfl) ?_
 refine GL_nil ?_
 refine GQ_sub (.cons (k := 0) rfl (.cons (k := 4) rfl (.cons (k := 41) rfl (.nil _)))) ?_
 refine GQ_then ?_
 refine G_cond rfl (fun c1 => ?_) (fun c1 => ?_)
 ·
  have c1p := kz c1
  rw [y7] at c1
  refine G_region ?_
  refine GL_step rfl (PS_move rfl) ?_
  refine GL_callL rfl cf45 (.cons rfl (.cons rfl .nil)) (.cons .head (.cons (.tail (.tail (.tail .head))) .nil)) (rules_turn_tell_spec _ T _ _ (by assumption) (by exact hb) (by have := T.box_out o.second; omega)) (fun v9 B hv => ?_)
  obtain ⟨y10, rfl, y11, rfl⟩ := hv
  refine GL_nil ?_
  refine GQ_sub (.cons (k := 0) rfl (.cons (k := 4) rfl (.nil _))) ?_
  refine GQ_then ?_
  refine G_seq ?_
  refine G_region ?_
  refine GL_step rfl (PS_move rfl) ?_
  refine GL_step rfl (PS_len_slice rfl Tryz.underlying66 rfl) ?_
  refine GL_step rfl (PS_move rfl) ?_
  refine GL_nil ?_
  refine GQ_sub (.cons (k := 0) rfl (.cons (k := 44) rfl (.cons (k := 45) rfl (.cons (k := 46) rfl (.nil _))))) ?_
  refine GQ_then ?_
  refine G_block ?_
  refine G_subF (.cons (k := 46) rfl (.cons (k := 0) rfl (.cons (k := 44) rfl (.cons (k := 45) rfl (.nil _))))) ?_
  refine G_pull (.tail .head) ?_
  refine G_pull (.tail .head) ?_
  refine G_loop3_ (fun (k : Int) (X : Turn) (h : Hd) => 0 ≤ k ∧ k ≤ ((Turn.pickL T.w T.seen o.nth o.name o.all_).length : Int) ∧ T.get o = X.takeAll ((Turn.pickL T.w T.seen o.nth o.name o.all_).drop k.toNat) ∧ X.b = T.b ∧ (X.out.length : Int) ≤ T.out.length + 2 + k ∧ h.len = X.out.length ∧ ((Turn.pickL T.w T.seen o.nth o.name o.all_).length : Int) ≤ 9) (fun (k : Int) (X : Turn) (h : Hd) => (((Turn.pickL T.w T.seen o.nth o.name o.all_).length : Int) - k).toNat) (fun (k : Int) (X : Turn) (h : Hd) => [(46, .int .i64 k)]) (fun (k : Int) (X : Turn) (h : Hd) => [Res.box b 53 (TurnV.enc ⟨X.w, X.b, h⟩), Res.own h 60 16 (X.out.flatMap Ing.Event.enc)]) (0) (_) (_) ?_ rfl rfl (fun k X h hI1 => ?_)
  · exact ⟨by omega, by omega, (if_f (show (!decide (o.second = [])) = false by rw [hz]; rfl)).trans (congrArg (fun q => Turn.takeAll q _) (if_t c1)), rfl, by have := T.box_out o.second; (try simp only [Turn.tell_len]); omega, by assumption, by have := (Turn.pickL_sub T.w T.seen o.nth o.name o.all_).length_le; have := T.seen_len; omega⟩
  obtain ⟨hI11, hI12, hI13, hI14, hI15, hI16, hI17⟩ := hI1
  refine G_seq ?_
  refine G_region ?_
  refine GL_step rfl (PS_lss rfl rfl) ?_
  refine GL_nil ?_
  refine GQ_then ?_
  refine G_seq ?_
  refine G_cond rfl (fun c2 => ?_) (fun c2 => ?_)
  ·
   have c2p := kz c2
   have hx : 0 ≤ (Turn.pickL T.w T.seen o.nth o.name o.all_).getD k.toNat 0 ∧ (Turn.pickL T.w T.seen o.nth o.name o.all_).getD k.toNat 0 < 9 := (fun i hi => Turn.seen_rng (Turn.pickL_mem hi)) _ (Line.getD_memI (xs := (Turn.pickL T.w T.seen o.nth o.name o.all_)) (i := k.toNat) (by omega))
   refine G_skip ?_
   refine GQ_sub (.cons (k := 0) rfl (.cons (k := 44) rfl (.cons (k := 45) rfl (.cons (k := 46) rfl (.nil _))))) ?_
   refine GQ_then ?_
   refine G_seq ?_
   refine G_block ?_
   refine G_seq ?_
   refine G_region ?_
   refine GL_step rfl (PS_idxS is66 (by decide) (Kn.own (.tail _ (.tail _ (.tail _ (.head _))))) rfl rfl (by omega) (by omega)) ?_
   refine GL_step rfl (PS_ldInt rfl tys3 (Kn.own (.tail _ (.tail _ (.tail _ (.head _))))) (by omega)) ?_
   refine GL_step rfl (PS_assign rfl) ?_
   refine GL_nil ?_
   refine GQ_sub (.cons (k := 0) rfl (.cons (k := 8) rfl (.cons (k := 44) rfl (.cons (k := 45) rfl (.cons (k := 46) rfl (.nil _)))))) ?_
   refine GQ_then ?_
   refine G_seq ?_
   refine G_region ?_
   refine GL_step rfl (PS_move rfl) ?_
   refine GL_step rfl (PS_move rfl) ?_
   refine GL_step rfl (PS_nilCheck rfl) ?_
   refine GL_step rfl (PS_fieldAddr fa53_0 rfl) ?_
   refine GL_step rfl (PS_fieldAddr fa34_1 rfl) ?_
   refine GL_step rfl (PS_indexAddr ia29 rfl rfl (by first | omega | exact hb.1 | exact hb.2 | (dsimp only; omega)) (by first | omega | exact hb.1 | exact hb.2 | (dsimp only; omega))) ?_
   refine GL_step rfl (PS_assign rfl) ?_
   refine GL_nil ?_
   refine GQ_sub (.cons (k := 0) rfl (.cons (k := 8) rfl (.cons (k := 9) rfl (.cons (k := 44) rfl (.cons (k := 45) rfl (.cons (k := 46) rfl (.nil _))))))) ?_
   refine GQ_then ?_
   refine G_seq ?_
   refine G_region ?_
   refine GL_step rfl (PS_move rfl) ?_
   refine GL_step rfl (PS_move rfl) ?_
   refine GL_step rfl (PS_move rfl) ?_
   refine GL_step rfl (PS_nilCheck rfl) ?_
   refine GL_step rfl (PS_fieldAddr fa53_1 rfl) ?_
   refine GL_step rfl (PS_load rfl tys3 (.head _) TurnV.l1 rfl rfl) ?_
   refine GL_step rfl (PS_nilCheck rfl) ?_
   refine GL_step rfl (PS_fieldAddr fa28_2 rfl) ?_
   refine GL_unit (PU_store (((TurnV.l0.comp Land.l1).comp (Lens.arr (n := 9) Thing.fl (by first | omega | exact hb.1 | exact hb.2 | (dsimp only; omega)) (by first | omega | exact hb.1 | exact hb.2 | (dsimp only; omega)))).comp Thing.l2) rfl rfl rfl sz3 rfl .head) ?_
   refine GL_step rfl (PS_nilCheck rfl) ?_
   refine GL_step rfl (PS_fieldAddr fa28_3 rfl) ?_
   refine GL_unit (PU_store (((TurnV.l0.comp Land.l1).comp (Lens.arr (n := 9) Thing.fl (by first | omega | exact hb.1 | exact hb.2 | (dsimp only; omega)) (by first | omega | exact hb.1 | exact hb.2 | (dsimp only; omega)))).comp Thing.l3) rfl rfl rfl sz3 rfl .head) ?_
   refine GL_nil ?_
   refine GQ_sub (.cons (k := 0) rfl (.cons (k := 8) rfl (.cons (k := 44) rfl (.cons (k := 45) rfl (.cons (k := 46) rfl (.nil _)))))) ?_
   refine GQ_then ?_
   refine G_swap (fun _ => .head) (congrArg (fun q => TurnV.enc ⟨q, _, _⟩) (Turn.place_eq X hx.1 hx.2 1 X.b)) ?_
   refine G_region ?_
   refine GL_step rfl (PS_move rfl) ?_
   refine GL_step rfl (PS_move rfl) ?_
   refine GL_callL rfl cf61 (.cons rfl (.cons rfl (.cons rfl .nil))) (.cons .head (.cons .head .nil)) (rules_turn_thing_spec _ (X.place ((Turn.pickL T.w T.seen o.nth o.name o.all_).getD k.toNat 0) 1 X.b) _ 3 ((Turn.pickL T.w T.seen o.nth o.name o.all_).getD k.toNat 0) (by assumption) (show 0 ≤ X.b ∧ X.b < 6 by rw [hI14]; exact hb) hx (show X.out.length ≤ 100000 by omega)) (fun v12 B hv => ?_)
   obtain ⟨y13, rfl, y14, rfl⟩ := hv
   refine GL_nil ?_
   refine GQ_sub (.cons (k := 0) rfl (.cons (k := 44) rfl (.cons (k := 45) rfl (.cons (k := 46) rfl (.nil _))))) ?_
   refine GQ_block ?_
   refine GQ_then ?_
   refine G_region ?_
   refine GL_step rfl (PS_add rfl rfl (IntWalk.i64_in _ (by first | omega | exact hb.1 | exact hb.2 | (dsimp only; omega)))) ?_
   refine GL_step rfl (PS_move rfl) ?_
   refine GL_nil ?_
   refine GQ_sub (.cons (k := 0) rfl (.cons (k := 44) rfl (.cons (k := 45) rfl (.cons (k := 46) rfl (.nil _))))) ?_
   refine GQ_next3_ (k + 1) _ _ ?_ ?_ (.cons (k := 46) rfl (.cons (k := 0) rfl (.cons (k := 44) rfl (.cons (k := 45) rfl (.nil _))))) (.refl _)
   · exact ⟨by omega, by omega, by rw [hI13, Turn.takeAll_step hI11 (by omega)], hI14, (by rw [Turn.thing_len]; show ((X.out.length + 1 : Nat) : Int) ≤ _; omega), by assumption, hI17⟩
   · omega
  have c2p := kz c2
  obtain rfl : k = ((Turn.pickL T.w T.seen o.nth o.name o.all_).length : Int) := by omega
  rw [Turn.drop_end] at hI13
  refine G_exit ?_
  refine GQ_then_exit ?_
  refine GQ_then_exit ?_
  refine GQ_block_exit ?_
  refine GQ_end rfl .nil ?_
  intro w1 hS
  have hS := (hS.perm (Pulls.perm (.cons .head (.cons .head .nil)))).headL
  refine ⟨_, ⟨?gq1, rfl, ?hl1, ?hB1⟩, hS⟩
  case hB1 => rw [hI13]; rfl
  case hl1 => rw [hI13]; exact hI16
 have c1p := kz c1
 rw [y7] at c1
 refine G_skip ?_
 refine GQ_sub (.cons (k := 0) rfl (.cons (k := 4) rfl (.nil _))) ?_
 refine GQ_then ?_
 refine G_seq ?_
 refine G_region ?_
 refine GL_step rfl (PS_move rfl) ?_
 refine GL_step rfl (PS_len_slice rfl Tryz.underlying66 rfl) ?_
 refine GL_step rfl (PS_move rfl) ?_
 refine GL_nil ?_
 refine GQ_sub (.cons (k := 0) rfl (.cons (k := 44) rfl (.cons (k := 45) rfl (.cons (k := 46) rfl (.nil _))))) ?_
 refine GQ_then ?_
 refine G_block ?_
 refine G_subF (.cons (k := 46) rfl (.cons (k := 0) rfl (.cons (k := 44) rfl (.cons (k := 45) rfl (.nil _))))) ?_
 refine G_pull (.tail (.tail (.tail (.tail .head)))) ?_
 refine G_pull (.tail .head) ?_
 refine G_loop3_ (fun (k : Int) (X : Turn) (h : Hd) => 0 ≤ k ∧ k ≤ ((Turn.pickL T.w T.seen o.nth o.name o.all_).length : Int) ∧ T.get o = X.takeAll ((Turn.pickL T.w T.seen o.nth o.name o.all_).drop k.toNat) ∧ X.b = T.b ∧ (X.out.length : Int) ≤ T.out.length + 2 + k ∧ h.len = X.out.length ∧ ((Turn.pickL T.w T.seen o.nth o.name o.all_).length : Int) ≤ 9) (fun (k : Int) (X : Turn) (h : Hd) => (((Turn.pickL T.w T.seen o.nth o.name o.all_).length : Int) - k).toNat) (fun (k : Int) (X : Turn) (h : Hd) => [(46, .int .i64 k)]) (fun (k : Int) (X : Turn) (h : Hd) => [Res.box b 53 (TurnV.enc ⟨X.w, X.b, h⟩), Res.own h 60 16 (X.out.flatMap Ing.Event.enc)]) (0) (_) (_) ?_ rfl rfl (fun k X h hI1 => ?_)
 · exact ⟨by omega, by omega, (if_f (show (!decide (o.second = [])) = false by rw [hz]; rfl)).trans (congrArg (fun q => Turn.takeAll q _) (if_f c1)), rfl, by have := T.box_out o.second; (try simp only [Turn.tell_len]); omega, by assumption, by have := (Turn.pickL_sub T.w T.seen o.nth o.name o.all_).length_le; have := T.seen_len; omega⟩
 obtain ⟨hI11, hI12, hI13, hI14, hI15, hI16, hI17⟩ := hI1
 refine G_seq ?_
 refine G_region ?_
 refine GL_step rfl (PS_lss rfl rfl) ?_
 refine GL_nil ?_
 refine GQ_then ?_
 refine G_seq ?_
 refine G_cond rfl (fun c3 => ?_) (fun c3 => ?_)
 ·
  have c3p := kz c3
  have hx : 0 ≤ (Turn.pickL T.w T.seen o.nth o.name o.all_).getD k.toNat 0 ∧ (Turn.pickL T.w T.seen o.nth o.name o.all_).getD k.toNat 0 < 9 := (fun i hi => Turn.seen_rng (Turn.pickL_mem hi)) _ (Line.getD_memI (xs := (Turn.pickL T.w T.seen o.nth o.name o.all_)) (i := k.toNat) (by omega))
  refine G_skip ?_
  refine GQ_sub (.cons (k := 0) rfl (.cons (k := 44) rfl (.cons (k := 45) rfl (.cons (k := 46) rfl (.nil _))))) ?_
  refine GQ_then ?_
  refine G_seq ?_
  refine G_block ?_
  refine G_seq ?_
  refine G_region ?_
  refine GL_step rfl (PS_idxS is66 (by decide) (Kn.own (.tail _ (.tail _ (.tail _ (.head _))))) rfl rfl (by omega) (by omega)) ?_
  refine GL_step rfl (PS_ldInt rfl tys3 (Kn.own (.tail _ (.tail _ (.tail _ (.head _))))) (by omega)) ?_
  refine GL_step rfl (PS_assign rfl) ?_
  refine GL_nil ?_
  refine GQ_sub (.cons (k := 0) rfl (.cons (k := 8) rfl (.cons (k := 44) rfl (.cons (k := 45) rfl (.cons (k := 46) rfl (.nil _)))))) ?_
  refine GQ_then ?_
  refine G_seq ?_
  refine G_region ?_
  refine GL_step rfl (PS_move rfl) ?_
  refine GL_step rfl (PS_move rfl) ?_
  refine GL_step rfl (PS_nilCheck rfl) ?_
  refine GL_step rfl (PS_fieldAddr fa53_0 rfl) ?_
  refine GL_step rfl (PS_fieldAddr fa34_1 rfl) ?_
  refine GL_step rfl (PS_indexAddr ia29 rfl rfl (by first | omega | exact hb.1 | exact hb.2 | (dsimp only; omega)) (by first | omega | exact hb.1 | exact hb.2 | (dsimp only; omega))) ?_
  refine GL_step rfl (PS_assign rfl) ?_
  refine GL_nil ?_
  refine GQ_sub (.cons (k := 0) rfl (.cons (k := 8) rfl (.cons (k := 9) rfl (.cons (k := 44) rfl (.cons (k := 45) rfl (.cons (k := 46) rfl (.nil _))))))) ?_
  refine GQ_then ?_
  refine G_seq ?_
  refine G_region ?_
  refine GL_step rfl (PS_move rfl) ?_
  refine GL_step rfl (PS_move rfl) ?_
  refine GL_step rfl (PS_move rfl) ?_
  refine GL_step rfl (PS_nilCheck rfl) ?_
  refine GL_step rfl (PS_fieldAddr fa53_1 rfl) ?_
  refine GL_step rfl (PS_load rfl tys3 (.head _) TurnV.l1 rfl rfl) ?_
  refine GL_step rfl (PS_nilCheck rfl) ?_
  refine GL_step rfl (PS_fieldAddr fa28_2 rfl) ?_
  refine GL_unit (PU_store (((TurnV.l0.comp Land.l1).comp (Lens.arr (n := 9) Thing.fl (by first | omega | exact hb.1 | exact hb.2 | (dsimp only; omega)) (by first | omega | exact hb.1 | exact hb.2 | (dsimp only; omega)))).comp Thing.l2) rfl rfl rfl sz3 rfl .head) ?_
  refine GL_step rfl (PS_nilCheck rfl) ?_
  refine GL_step rfl (PS_fieldAddr fa28_3 rfl) ?_
  refine GL_unit (PU_store (((TurnV.l0.comp Land.l1).comp (Lens.arr (n := 9) Thing.fl (by first | omega | exact hb.1 | exact hb.2 | (dsimp only; omega)) (by first | omega | exact hb.1 | exact hb.2 | (dsimp only; omega)))).comp Thing.l3) rfl rfl rfl sz3 rfl .head) ?_
  refine GL_nil ?_
  refine GQ_sub (.cons (k := 0) rfl (.cons (k := 8) rfl (.cons (k := 44) rfl (.cons (k := 45) rfl (.cons (k := 46) rfl (.nil _)))))) ?_
  refine GQ_then ?_
  refine G_swap (fun _ => .head) (congrArg (fun q => TurnV.enc ⟨q, _, _⟩) (Turn.place_eq X hx.1 hx.2 1 X.b)) ?_
  refine G_region ?_
  refine GL_step rfl (PS_move rfl) ?_
  refine GL_step rfl (PS_move rfl) ?_
  refine GL_callL rfl cf61 (.cons rfl (.cons rfl (.cons rfl .nil))) (.cons .head (.cons .head .nil)) (rules_turn_thing_spec _ (X.place ((Turn.pickL T.w T.seen o.nth o.name o.all_).getD k.toNat 0) 1 X.b) _ 3 ((Turn.pickL T.w T.seen o.nth o.name o.all_).getD k.toNat 0) (by assumption) (show 0 ≤ X.b ∧ X.b < 6 by rw [hI14]; exact hb) hx (show X.out.length ≤ 100000 by omega)) (fun v15 B hv => ?_)
  obtain ⟨y16, rfl, y17, rfl⟩ := hv
  refine GL_nil ?_
  refine GQ_sub (.cons (k := 0) rfl (.cons (k := 44) rfl (.cons (k := 45) rfl (.cons (k := 46) rfl (.nil _))))) ?_
  refine GQ_block ?_
  refine GQ_then ?_
  refine G_region ?_
  refine GL_step rfl (PS_add rfl rfl (IntWalk.i64_in _ (by first | omega | exact hb.1 | exact hb.2 | (dsimp only; omega)))) ?_
  refine GL_step rfl (PS_move rfl) ?_
  refine GL_nil ?_
  refine GQ_sub (.cons (k := 0) rfl (.cons (k := 44) rfl (.cons (k := 45) rfl (.cons (k := 46) rfl (.nil _))))) ?_
  refine GQ_next3_ (k + 1) _ _ ?_ ?_ (.cons (k := 46) rfl (.cons (k := 0) rfl (.cons (k := 44) rfl (.cons (k := 45) rfl (.nil _))))) (.refl _)
  · exact ⟨by omega, by omega, by rw [hI13, Turn.takeAll_step hI11 (by omega)], hI14, (by rw [Turn.thing_len]; show ((X.out.length + 1 : Nat) : Int) ≤ _; omega), by assumption, hI17⟩
  · omega
 have c3p := kz c3
 obtain rfl : k = ((Turn.pickL T.w T.seen o.nth o.name o.all_).length : Int) := by omega
 rw [Turn.drop_end] at hI13
 refine G_exit ?_
 refine GQ_then_exit ?_
 refine GQ_then_exit ?_
 refine GQ_block_exit ?_
 refine GQ_end rfl .nil ?_
 intro w1 hS
 have hS := (hS.perm (Pulls.perm (.cons .head (.cons .head .nil)))).headL
 refine ⟨_, ⟨?gq2, rfl, ?hl2, ?hB2⟩, hS⟩
 case hB2 => rw [hI13]; rfl
 case hl2 => rw [hI13]; exact hI16
theorem rules_Do_spec (X : Land) (b : Int) (o : Order) (hw : X.Brief) (hu : o.second.length ≤ 140737488351232) (hm : o.name.length ≤ 140737488351232) (hv : o.verb = 7) (hz : o.second = []) : CtrR Tryz.prog 14 #[.agg X.enc.toArray, .int .i64 b, .agg o.enc.toArray] [] (fun w => (GV 1 Land.verbsV w ∧ 1 ∉ feet []) ∧ (GVE 3 w ∧ 3 ∉ feet []) ∧ (GVE 4 w ∧ 4 ∉ feet [])) (fun v B => ∃ h : Hd, v = .tuple #[.agg ((Turn.doR X b o).1.enc).toArray, h.val, .int .i64 (Turn.doR X b o).2.2] ∧ h.len = (Turn.doR X b o).2.1.length ∧ B = [Res.own h 60 16 ((Turn.doR X b o).2.1.flatMap Ing.Event.enc)]) := by
 intro w hS0 hH
 obtain ⟨⟨gl0, gm0⟩, ⟨gl1, gm1⟩, ⟨gl2, gm2⟩⟩ := hH
 refine Ret_body _ _ Tryz.func14 rfl rfl rfl (hS0) ?_
 refine G_seq ?_
 refine G_region ?_
 refine GL_box rfl rfl rfl (fun b1 => ?_)
 refine GL_box rfl rfl rfl (fun b2 => ?_)
 refine GL_alloc rfl zv34 rfl (fun b3 => ?_)
 refine GL_step rfl (PS_assign rfl) ?_
 refine GL_step rfl (PS_assign rfl) ?_
 refine GL_nil ?_
 refine GQ_sub (.cons (k := 1) rfl (.cons (k := 3) rfl (.cons (k := 5) rfl (.cons (k := 6) rfl (.nil _))))) ?_
 refine GQ_then ?_
 refine G_seq ?_
 refine G_block ?_
 refine G_seq ?_
 refine G_region ?_
 refine GL_step rfl (PS_loadA rfl tya34 (.tail _ (.tail _ (.head _))) (Lens.id Land.fl.len Land.fl.one) rfl) ?_
 refine GL_pure rfl cf16 (.cons rfl .nil) (fun w hS => land_Good_spec _ w) ?_
 refine GL_step rfl (PS_not rfl) ?_
 refine GL_step rfl (PS_assign rfl) ?_
 refine GL_nil ?_
 refine GQ_sub (.cons (k := 1) rfl (.cons (k := 3) rfl (.cons (k := 5) rfl (.cons (k := 6) rfl (.cons (k := 10) rfl (.nil _)))))) ?_
 refine GQ_then ?_
 refine G_cond rfl (fun c1 => ?_) (fun c1 => ?_)
 ·
  have c1p := kz c1
  refine G_seq ?_
  refine G_region ?_
  refine GL_step rfl (PS_loadA rfl tya34 (.tail _ (.tail _ (.head _))) (Lens.id Land.fl.len Land.fl.one) rfl) ?_
  refine GL_unit (PU_store (Lens.id Land.fl.len Land.fl.one) rfl rfl rfl sz34 rfl .head) ?_
  refine GL_step rfl (PS_assign rfl) ?_
  refine GL_step rfl (PS_assign rfl) ?_
  refine GL_nil ?_
  refine GQ_sub (.cons (k := 6) rfl (.cons (k := 7) rfl (.cons (k := 8) rfl (.nil _)))) ?_
  refine GQ_then ?_
  refine G_ret ?_
  refine GQ_block_ret ?_
  refine GQ_then_ret ?_
  refine GQ_ret rfl (.cell rfl (.head _) (.inl ⟨(by rw [Land.fl.len]; exact tya34), rfl⟩) (.tmp rfl (.tmp rfl .nil))) ?_
  intro w1 hS
  have hS := hS.own_nil 60 16
  have hS := (hS.perm (Pulls.perm (.cons .head .nil))).headL
  have hq : Turn.doR X b o = _ := (if_t c1)
  refine ⟨_, ⟨⟨none, 0, 0⟩, ?hv1, ?hl1, ?hB1⟩, hS⟩
  case hv1 => rw [hq]; rfl
  case hl1 => rw [hq]; rfl
  case hB1 => rw [hq]; rfl
 have c1p := kz c1
 refine G_seq ?_
 refine G_region ?_
 refine GL_step rfl (PS_move rfl) ?_
 refine GL_step rfl (PS_lss rfl rfl) ?_
 refine GL_step rfl (PS_move rfl) ?_
 refine GL_gf (t := 18) rfl rfl rfl (fun q => PS_move rfl) ?_
 refine GL_gf (t := 18) rfl rfl rfl (fun q => PS_geq (cvE rfl (by rw [q]; rfl)) rfl) ?_
 refine GL_step rfl (PS_or rfl rfl (fun h => by rw [h]; rfl)) ?_
 refine GL_step rfl (PS_move rfl) ?_
 refine GL_gf (t := 22) rfl rfl rfl (fun q => PS_move rfl) ?_
 refine GL_gf (t := 22) rfl rfl rfl (fun q => PS_fieldAddr fa34_2 rfl) ?_
 refine GL_gf (t := 22) rfl rfl rfl (fun q => by have q1 := q; (try simp at q1); exact PS_indexAddr ia32 (cvE rfl (by rw [q]; rfl)) (cvE rfl (by rw [q]; rfl)) (by first | omega | exact hb.1 | exact hb.2 | (dsimp only; omega)) (by first | omega | exact hb.1 | exact hb.2 | (dsimp only; omega))) ?_
 refine GL_gf (t := 22) rfl rfl rfl (fun q => PS_fieldAddr fa31_1 (cvE rfl (by rw [q]; rfl))) ?_
 refine GL_gf (t := 22) rfl rfl rfl (fun q => by have q1 := q; (try simp at q1); exact PS_load (cvE rfl (by rw [q]; rfl)) tys4 (.tail _ (.tail _ (.head _))) ((Land.l2.comp (Lens.arr (n := 6) Being.fl (by first | omega | exact hb.1 | exact hb.2 | (dsimp only; omega)) (by first | omega | exact hb.1 | exact hb.2 | (dsimp only; omega)))).comp Being.l1) rfl rfl) ?_
 refine GL_gf (t := 22) rfl rfl rfl (fun q => PS_not (cvE rfl (by rw [q]; rfl))) ?_
 refine GL_step rfl (PS_or rfl rfl (fun h => by rw [h]; rfl)) ?_
 refine GL_step rfl (PS_assign rfl) ?_
 refine GL_nil ?_
 refine GQ_sub (.cons (k := 1) rfl (.cons (k := 3) rfl (.cons (k := 5) rfl (.cons (k := 6) rfl (.cons (k := 15) rfl (.nil _)))))) ?_
 refine GQ_then ?_
 refine G_cond rfl (fun c2 => ?_) (fun c2 => ?_)
 ·
  have c2p := kz c2
  refine G_seq ?_
  refine G_region ?_
  refine GL_step rfl (PS_loadA rfl tya34 (.tail _ (.tail _ (.head _))) (Lens.id Land.fl.len Land.fl.one) rfl) ?_
  refine GL_unit (PU_store (Lens.id Land.fl.len Land.fl.one) rfl rfl rfl sz34 rfl .head) ?_
  refine GL_step rfl (PS_assign rfl) ?_
  refine GL_step rfl (PS_assign rfl) ?_
  refine GL_nil ?_
  refine GQ_sub (.cons (k := 6) rfl (.cons (k := 7) rfl (.cons (k := 8) rfl (.nil _)))) ?_
  refine GQ_then ?_
  refine G_ret ?_
  refine GQ_block_ret ?_
  refine GQ_then_ret ?_
  refine GQ_ret rfl (.cell rfl (.head _) (.inl ⟨(by rw [Land.fl.len]; exact tya34), rfl⟩) (.tmp rfl (.tmp rfl .nil))) ?_
  intro w1 hS
  have hS := hS.own_nil 60 16
  have hS := (hS.perm (Pulls.perm (.cons .head .nil))).headL
  have hq : Turn.doR X b o = _ := ((if_f c1).trans (if_t c2))
  refine ⟨_, ⟨⟨none, 0, 0⟩, ?hv2, ?hl2, ?hB2⟩, hS⟩
  case hv2 => rw [hq]; rfl
  case hl2 => rw [hq]; rfl
  case hB2 => rw [hq]; rfl
 have c2p := kz c2
 refine G_seq ?_
 refine G_region ?_
 refine GL_step rfl (PS_fieldAddr fa47_0 rfl) ?_
 refine GL_step rfl (PS_load rfl tys3 (.tail _ (.head _)) Order.l0 rfl rfl) ?_
 refine GL_step rfl (PS_lss rfl rfl) ?_
 refine GL_step rfl (PS_move rfl) ?_
 refine GL_gf (t := 35) rfl rfl rfl (fun q => PS_fieldAddr fa47_0 rfl) ?_
 refine GL_gf (t := 35) rfl rfl rfl (fun q => PS_load (cvE rfl (by rw [q]; rfl)) tys3 (.tail _ (.head _)) Order.l0 rfl rfl) ?_
 refine GL_gf (t := 35) rfl rfl rfl (fun q => PS_gtr (cvE rfl (by rw [q]; rfl)) rfl) ?_
 refine GL_step rfl (PS_or rfl rfl (fun h => by rw [h]; rfl)) ?_
 refine GL_step rfl (PS_assign rfl) ?_
 refine GL_nil ?_
 refine GQ_sub (.cons (k := 1) rfl (.cons (k := 3) rfl (.cons (k := 5) rfl (.cons (k := 6) rfl (.cons (k := 31) rfl (.nil _)))))) ?_
 refine GQ_then ?_
 refine G_cond rfl (fun c3 => ?_) (fun c3 => ?_)
 ·
  have c3p := kz c3
  refine G_seq ?_
  refine G_region ?_
  refine GL_step rfl (PS_loadA rfl tya34 (.tail _ (.tail _ (.head _))) (Lens.id Land.fl.len Land.fl.one) rfl) ?_
  refine GL_unit (PU_store (Lens.id Land.fl.len Land.fl.one) rfl rfl rfl sz34 rfl .head) ?_
  refine GL_step rfl (PS_assign rfl) ?_
  refine GL_step rfl (PS_assign rfl) ?_
  refine GL_nil ?_
  refine GQ_sub (.cons (k := 6) rfl (.cons (k := 7) rfl (.cons (k := 8) rfl (.nil _)))) ?_
  refine GQ_then ?_
  refine G_ret ?_
  refine GQ_block_ret ?_
  refine GQ_then_ret ?_
  refine GQ_ret rfl (.cell rfl (.head _) (.inl ⟨(by rw [Land.fl.len]; exact tya34), rfl⟩) (.tmp rfl (.tmp rfl .nil))) ?_
  intro w1 hS
  have hS := hS.own_nil 60 16
  have hS := (hS.perm (Pulls.perm (.cons .head .nil))).headL
  have hq : Turn.doR X b o = _ := ((if_f c1).trans ((if_f c2).trans (if_t c3)))
  refine ⟨_, ⟨⟨none, 0, 0⟩, ?hv3, ?hl3, ?hB3⟩, hS⟩
  case hv3 => rw [hq]; rfl
  case hl3 => rw [hq]; rfl
  case hB3 => rw [hq]; rfl
 have c3p := kz c3
 have hF := Turn.start_fit hw c1 c2
 have hb := hF.b
 refine G_skip ?_
 refine GQ_sub (.cons (k := 1) rfl (.cons (k := 3) rfl (.cons (k := 5) rfl (.cons (k := 6) rfl (.nil _))))) ?_
 refine GQ_block ?_
 refine GQ_then ?_
 refine G_seq ?_
 refine G_region ?_
 refine GL_step rfl (PS_loadA rfl tya34 (.tail _ (.tail _ (.head _))) (Lens.id Land.fl.len Land.fl.one) rfl) ?_
 refine GL_step rfl (PS_move rfl) ?_
 refine GL_step rfl (PS_build pl53 zv53 rfl (.cons TurnV.l0 rfl rfl rfl (.cons TurnV.l1 rfl rfl rfl .nil))) ?_
 refine GL_box rfl rfl rfl (fun b4 => ?_)
 refine GL_step rfl (PS_assign rfl) ?_
 refine GL_nil ?_
 refine GQ_sub (.cons (k := 1) rfl (.cons (k := 5) rfl (.cons (k := 6) rfl (.cons (k := 9) rfl (.nil _))))) ?_
 refine GQ_then ?_
 refine G_seq ?_
 refine G_block ?_
 refine G_seq ?_
 refine G_region ?_
 refine GL_step rfl (PS_fieldAddr fa47_0 rfl) ?_
 refine GL_step rfl (PS_load rfl tys3 (.tail _ (.tail _ (.head _))) Order.l0 rfl rfl) ?_
 refine GL_step rfl (PS_lss rfl rfl) ?_
 refine GL_step rfl (PS_assign rfl) ?_
 refine GL_nil ?_
 refine GQ_sub (.cons (k := 1) rfl (.cons (k := 5) rfl (.cons (k := 6) rfl (.cons (k := 9) rfl (.cons (k := 48) rfl (.nil _)))))) ?_
 refine GQ_then ?_
 refine G_false rfl (by rw [hv]; rfl) ?_
 refine G_seq ?_
 refine G_region ?_
 refine GL_step rfl (PS_fieldAddr fa47_0 rfl) ?_
 refine GL_step rfl (PS_load rfl tys3 (.tail _ (.tail _ (.head _))) Order.l0 rfl rfl) ?_
 refine GL_step rfl (PS_eql rfl rfl) ?_
 refine GL_step rfl (PS_assign rfl) ?_
 refine GL_nil ?_
 refine GQ_sub (.cons (k := 1) rfl (.cons (k := 5) rfl (.cons (k := 6) rfl (.cons (k := 9) rfl (.cons (k := 56) rfl (.nil _)))))) ?_
 refine GQ_then ?_
 refine G_false rfl (by rw [hv]; rfl) ?_
 refine G_seq ?_
 refine G_region ?_
 refine GL_step rfl (PS_fieldAddr fa47_0 rfl) ?_
 refine GL_step rfl (PS_load rfl tys3 (.tail _ (.tail _ (.head _))) Order.l0 rfl rfl) ?_
 refine GL_step rfl (PS_eql rfl rfl) ?_
 refine GL_step rfl (PS_assign rfl) ?_
 refine GL_nil ?_
 refine GQ_sub (.cons (k := 1) rfl (.cons (k := 5) rfl (.cons (k := 6) rfl (.cons (k := 9) rfl (.cons (k := 62) rfl (.nil _)))))) ?_
 refine GQ_then ?_
 refine G_false rfl (by rw [hv]; rfl) ?_
 refine G_seq ?_
 refine G_region ?_
 refine GL_step rfl (PS_fieldAddr fa47_0 rfl) ?_
 refine GL_step rfl (PS_load rfl tys3 (.tail _ (.tail _ (.head _))) Order.l0 rfl rfl) ?_
 refine GL_step rfl (PS_eql rfl rfl) ?_
 refine GL_step rfl (PS_assign rfl) ?_
 refine GL_nil ?_
 refine GQ_sub (.cons (k := 5) rfl (.cons (k := 6) rfl (.cons (k := 9) rfl (.cons (k := 74) rfl (.nil _))))) ?_
 refine GQ_then ?_
 refine G_false rfl (by rw [hv]; rfl) ?_
 refine G_seq ?_
 refine G_region ?_
 refine GL_step rfl (PS_fieldAddr fa47_0 rfl) ?_
 refine GL_step rfl (PS_load rfl tys3 (.tail _ (.tail _ (.head _))) Order.l0 rfl rfl) ?_
 refine GL_step rfl (PS_eql rfl rfl) ?_
 refine GL_step rfl (PS_assign rfl) ?_
 refine GL_nil ?_
 refine GQ_sub (.cons (k := 5) rfl (.cons (k := 6) rfl (.cons (k := 9) rfl (.cons (k := 83) rfl (.nil _))))) ?_
 refine GQ_then ?_
 refine G_false rfl (by rw [hv]; rfl) ?_
 refine G_seq ?_
 refine G_region ?_
 refine GL_step rfl (PS_fieldAddr fa47_0 rfl) ?_
 refine GL_step rfl (PS_load rfl tys3 (.tail _ (.tail _ (.head _))) Order.l0 rfl rfl) ?_
 refine GL_step rfl (PS_eql rfl rfl) ?_
 refine GL_step rfl (PS_assign rfl) ?_
 refine GL_nil ?_
 refine GQ_sub (.cons (k := 5) rfl (.cons (k := 6) rfl (.cons (k := 9) rfl (.cons (k := 89) rfl (.nil _))))) ?_
 refine GQ_then ?_
 refine G_false rfl (by rw [hv]; rfl) ?_
 refine G_seq ?_
 refine G_region ?_
 refine GL_step rfl (PS_fieldAddr fa47_0 rfl) ?_
 refine GL_step rfl (PS_load rfl tys3 (.tail _ (.tail _ (.head _))) Order.l0 rfl rfl) ?_
 refine GL_step rfl (PS_eql rfl rfl) ?_
 refine GL_step rfl (PS_assign rfl) ?_
 refine GL_nil ?_
 refine GQ_sub (.cons (k := 5) rfl (.cons (k := 6) rfl (.cons (k := 9) rfl (.cons (k := 96) rfl (.nil _))))) ?_
 refine GQ_then ?_
 refine G_true rfl (by rw [hv]; rfl) ?_
 refine G_region ?_
 refine GL_step rfl (PS_move rfl) ?_
 refine GL_step rfl (PS_loadA rfl tya47 (.tail _ (.tail _ (.head _))) (Lens.id Order.fl.len Order.fl.one) rfl) ?_
 refine GL_nilF Ing.Event.enc 60 16 ?_
 refine GL_callR rfl cf32 (.cons rfl (.cons rfl .nil)) (.cons (.tail .head) (.cons .head .nil)) (rules_turn_get_spec _ (⟨X, b, []⟩ : Turn) _ o rfl hF hu (Nat.zero_le _) hz) (fun w hS => ⟨gl1.pull gm1 hS (.cons (.tail .head) (.cons .head .nil)), gl2.pull gm2 hS (.cons (.tail .head) (.cons .head .nil))⟩) (fun v5 B hv => ?_)
 obtain ⟨y6, rfl, y7, rfl⟩ := hv
 refine GL_nil ?_
 refine GQ_sub (.cons (k := 6) rfl (.cons (k := 9) rfl (.nil _))) ?_
 refine GQ_block ?_
 refine GQ_then ?_
 refine G_seq ?_
 refine G_planN (N := 11) [0, 1, 3, 7, 0, 16, 48, 112, 15, 511, 1023] mix (by kernel_rfl) rfl ?_
 refine Plan_float 0 rfl rfl (by kernel_rfl) (OK_s (EX_s (PS_move rfl))) ?_
 refine Plan_float 1 rfl rfl (by kernel_rfl) (OK_s (EX_s (PS_nilCheck rfl))) ?_
 refine Plan_float 2 rfl rfl (by kernel_rfl) (OK_s (EX_s (PS_fieldAddr fa53_0 rfl))) ?_
 refine Plan_float 3 rfl rfl (by kernel_rfl) (OK_s (EX_s (PS_loadA rfl tya34 (.head _) TurnV.l0 rfl))) ?_
 refine Plan_float 4 rfl rfl (by kernel_rfl) (OK_s (EX_s (PS_move rfl))) ?_
 refine Plan_float 5 rfl rfl (by kernel_rfl) (OK_s (EX_s (PS_nilCheck rfl))) ?_
 refine Plan_float 6 rfl rfl (by kernel_rfl) (OK_s (EX_s (PS_fieldAddr fa53_2 rfl))) ?_
 refine Plan_float 7 rfl rfl (by kernel_rfl) (OK_s (EX_s (PS_load rfl tys35 (.head _) TurnV.l2 rfl rfl))) ?_
 refine Plan_chain 8 rfl (by kernel_rfl) ?_
 refine GL_unit (PU_store (Lens.id Land.fl.len Land.fl.one) rfl rfl rfl sz34 rfl (.tail (.tail .head))) ?_
 refine GL_hand0 rfl ⟨?_, ?_⟩
 · exact (Pend_okv rfl (OK_s (EX_s (PS_load rfl tys35 (.head _) TurnV.l2 rfl rfl))) rfl rfl (Pend_okv rfl (OK_s (EX_s (PS_fieldAddr fa53_2 rfl))) rfl rfl (Pend_okv rfl (OK_s (EX_s (PS_nilCheck rfl))) rfl rfl (Pend_okv rfl (OK_s (EX_s (PS_move rfl))) rfl rfl (Pend_skip (by kernel_rfl) (Pend_skip (by kernel_rfl) (Pend_skip (by kernel_rfl) (Pend_skip (by kernel_rfl) Pend_nil))))))))
 refine Plan_float 9 rfl rfl (by kernel_rfl) (OK_s (EX_s (PS_assign rfl))) ?_
 refine Plan_float 10 rfl rfl (by kernel_rfl) (OK_s (EX_s (PS_assign rfl))) ?_
 refine Plan_end (by kernel_rfl) ?_
 refine GQ_sub (.cons (k := 6) rfl (.cons (k := 7) rfl (.cons (k := 8) rfl (.nil _)))) ?_
 refine GQ_then ?_
 refine G_ret ?_
 refine GQ_ret rfl (.cell rfl (.tail _ (.tail _ (.head _))) (.inl ⟨(by rw [Land.fl.len]; exact tya34), rfl⟩) (.tmp rfl (.tmp rfl .nil))) ?_
 intro w1 hS
 have hS := (hS.perm (Pulls.perm (.cons (.tail .head) .nil))).headL
 have ha : Turn.act (⟨X, b, []⟩ : Turn) o = Turn.get (⟨X, b, []⟩ : Turn) o := Turn.act_7 hv
 have hq : Turn.doR X b o = ((Turn.act (⟨X, b, []⟩ : Turn) o).w, (Turn.act (⟨X, b, []⟩ : Turn) o).out, 0) := ((if_f c1).trans ((if_f c2).trans (if_f c3)))
 rw [ha] at hq
 refine ⟨_, ⟨?gq4, ?hv4, ?hl4, ?hB4⟩, hS⟩
 case hB4 => rw [hq]; (try rfl)
 case hv4 => rw [hq]; (try rfl)
 case hl4 => rw [hq]; (try dsimp only); exact y7
theorem law_acts_spec  (w : World) (gl0 : GV 1 Land.verbsV w) (gl1 : GVE 3 w) (gl2 : GVE 4 w) : Ret Tryz.prog 11 #[] w fun v w' => v = .bool true ∧ Keep w w' := by
 refine Ret_body [] [] Tryz.func11 rfl rfl rfl (St.start w []) ?_
 refine G_seq ?_
 refine G_region ?_
 refine GL_step rfl (PS_assign rfl) ?_
 refine GL_nil ?_
 refine GQ_sub (.nil _) ?_
 refine GQ_then ?_
 refine G_seq ?_
 refine G_region ?_
 refine GL_pure rfl cf22 .nil (fun w hS => land_New_spec w) ?_
 refine GL_step rfl (PS_build pl47 zv47 rfl (.cons Order.l0 rfl rfl rfl (.cons Order.l1 rfl rfl rfl (.cons Order.l3 rfl rfl rfl .nil)))) ?_
 refine GL_callR rfl cf14 (.cons rfl (.cons rfl (.cons rfl .nil))) .nil (rules_Do_spec Land.new 0 Turn.mugO Land.new_brief (by decide) (by decide) rfl rfl) (fun w hS => ⟨gl0.pull (by simp) hS .nil, gl1.pull (by simp) hS .nil, gl2.pull (by simp) hS .nil⟩) (fun v1 B hv => ?_)
 obtain ⟨y2, rfl, y3, rfl⟩ := hv
 refine GL_step rfl (PS_move rfl) ?_
 refine GL_step rfl (PS_extract rfl rfl) ?_
 refine GL_step rfl (PS_extract rfl rfl) ?_
 refine GL_step rfl (PS_extract rfl rfl) ?_
 refine GL_alloc rfl zv34 rfl (fun b1 => ?_)
 refine GL_unit (PU_store (Lens.id Land.fl.len Land.fl.one) rfl rfl rfl sz34 rfl .head) ?_
 refine GL_step rfl (PS_assign rfl) ?_
 refine GL_step rfl (PS_assign rfl) ?_
 refine GL_nil ?_
 refine GQ_sub (.cons (k := 1) rfl (.cons (k := 2) rfl (.cons (k := 3) rfl (.nil _)))) ?_
 refine GQ_then ?_
 refine G_seq ?_
 refine G_region ?_
 refine GL_step rfl (PS_move rfl) ?_
 refine GL_step rfl (PS_eql rfl rfl) ?_
 refine GL_step rfl (PS_move rfl) ?_
 refine GL_gt (t := 13) rfl rfl rfl (fun q => PS_move rfl) ?_
 refine GL_gt (t := 13) rfl rfl rfl (fun q => PS_len_slice rfl Tryz.underlying35 (cvE rfl q)) ?_
 refine GL_gt (t := 13) rfl rfl rfl (fun q => PS_eql (cvE rfl q) rfl) ?_
 refine GL_step rfl (PS_and rfl rfl (fun h => h)) ?_
 refine GL_step rfl (PS_move rfl) ?_
 refine GL_gt (t := 18) rfl rfl rfl (fun q => PS_move rfl) ?_
 refine GL_gt (t := 18) rfl rfl rfl (fun q => by have q1 := q; (try simp at q1); exact PS_idxS is35 (by decide) (Kn.own (.tail _ (.head _))) (cvE rfl q) rfl (by omega) (by omega)) ?_
 refine GL_gt (t := 18) rfl rfl rfl (fun q => PS_fldS fa60_0 (cvE rfl q)) ?_
 refine GL_gt (t := 18) rfl rfl rfl (fun q => by have q1 := q; (try simp at q1); exact PS_ldF (cvE rfl q) tys3 Ing.Event.fl Ing.Event.l0 (Kn.own (.tail _ (.head _))) (by omega) rfl) ?_
 refine GL_gt (t := 18) rfl rfl rfl (fun q => PS_eql (cvE rfl q) rfl) ?_
 refine GL_step rfl (PS_and rfl rfl (fun h => h)) ?_
 refine GL_step rfl (PS_move rfl) ?_
 refine GL_gt (t := 25) rfl rfl rfl (fun q => PS_fieldAddr fa34_1 rfl) ?_
 refine GL_gt (t := 25) rfl rfl rfl (fun q => PS_indexAddr ia29 (cvE rfl q) rfl (by decide) (by decide)) ?_
 refine GL_gt (t := 25) rfl rfl rfl (fun q => PS_fieldAddr fa28_2 (cvE rfl q)) ?_
 refine GL_gt (t := 25) rfl rfl rfl (fun q => PS_load (cvE rfl q) tys3 (.head _) ((Land.l1.comp (Lens.arr (n := 9) Thing.fl (by decide) (by decide))).comp Thing.l2) rfl rfl) ?_
 refine GL_gt (t := 25) rfl rfl rfl (fun q => PS_eql (cvE rfl q) rfl) ?_
 refine GL_step rfl (PS_and rfl rfl (fun h => h)) ?_
 refine GL_step rfl (PS_assign rfl) ?_
 refine GL_nil ?_
 refine GQ_sub (.cons (k := 0) rfl (.nil _)) ?_
 refine GQ_then ?_
 refine G_ret ?_
 refine GQ_ret rfl (.tmp rfl .nil) ?_
 intro w1 hS; refine ⟨?_, hS.toKeep⟩; exact congrArg Value.bool (by rw [y3, Turn.mug_0, Turn.mug_1, show (Turn.doR Land.new 0 Turn.mugO).2.1.getD (Int.toNat 0) default = (Turn.doR Land.new 0 Turn.mugO).2.1.getD 0 default from rfl, Turn.mug_2, Turn.mug_3]; rfl)
end Go.Proofs.YthaobbemigbcgaaGreatDoor
