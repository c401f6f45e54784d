/- What the functions that the law RulesLosses reaches compute: walks, part 3. No condition. -/
import Derived.Test.YthaobbemigbcgaaDoorCards
import Derived.Test.YthaobbemigbcgaaDoorTie
import Derived.Deep.DeepHandedRow
import Derived.Test.YthaobbemigbcgaaDoorRows
import Derived.Test.YthaobbemigbcgaaDoorRulesLossesEc3
import Derived.Test.YthaobbemigbcgaaDoorRulesLossesRa1
import Derived.Test.YthaobbemigbcgaaDoorRulesLossesRb1
import Derived.Test.YthaobbemigbcgaaDoorRulesLossesWalks
import Derived.Test.YthaobbemigbcgaaDoorRulesLossesWalks2
set_option linter.unusedSimpArgs false
set_option linter.unusedVariables false
set_option maxRecDepth 100000
set_option maxHeartbeats 1000000
namespace Go.Proofs.YthaobbemigbcgaaDoor
open Go Go.Ing Go.RowKit Go.ChangeShapes Go.WideShapes Go.ChangeAt
theorem rules_turn_let_spec (b : Nat) (T : Turn) (g : Hd) (o : Order) (hg : g.len = T.out.length) (hF : T.Fit) (hv : o.verb = 8 ∨ o.verb = 9 ∨ o.verb = 10) (hu : o.second.length ≤ 140737488351232) (hn : T.out.length ≤ 90000) : CtrR Tryd.prog 21 #[.pointer (some ⟨b, 0, none⟩), .agg o.enc.toArray] [Res.box b 55 (TurnV.enc ⟨T.w, T.b, g⟩), Res.own g 48 16 (T.out.flatMap Ing.Event.enc)] (fun w => (GVE 3 w ∧ 3 ∉ feet [Res.box b 55 (TurnV.enc ⟨T.w, T.b, g⟩), Res.own g 48 16 (T.out.flatMap Ing.Event.enc)]) ∧ (GVE 4 w ∧ 4 ∉ feet [Res.box b 55 (TurnV.enc ⟨T.w, T.b, g⟩), Res.own g 48 16 (T.out.flatMap Ing.Event.enc)])) (fun v B => ∃ g' : Hd, v = .tuple #[] ∧ g'.len = (T.letGo o).out.length ∧ B = [Res.box b 55 (TurnV.enc ⟨(T.letGo o).w, (T.letGo o).b, g'⟩), Res.own g' 48 16 ((T.letGo o).out.flatMap Ing.Event.enc)]) := by
 intro w hS0 hH
 obtain ⟨⟨gl0, gm0⟩, ⟨gl1, gm1⟩⟩ := hH
 have hb := hF.b
 have hr := hF.room
 have htb := T.box_rng o.second
 have hts := T.somebody_rng o.second
 refine Ret_body _ _ Tryd.func21 rfl rfl rfl (hS0) ?_
 refine G_seq ?_
 refine G_region ?_
 refine GL_box rfl rfl rfl (fun b1 => ?_)
 refine GL_nil ?_
 refine GQ_sub (.cons (k := 0) rfl (.cons (k := 3) rfl (.nil _))) ?_
 refine GQ_then ?_
 refine G_seq ?_
 refine G_region ?_
 refine GL_step rfl (PS_assign rfl) ?_
 refine GL_step rfl (PS_assign rfl) ?_
 refine GL_nil ?_
 refine GQ_then ?_
 refine G_seq ?_
 refine G_seq ?_
 refine G_region ?_
 refine GL_step rfl (PS_fieldAddr fa36_0 rfl) ?_
 refine GL_step rfl (PS_load rfl tys3 (.head _) Order.l0 rfl rfl) ?_
 refine GL_nil ?_
 refine GQ_sub (.cons (k := 0) rfl (.cons (k := 3) rfl (.cons (k := 4) rfl (.cons (k := 5) rfl (.cons (k := 11) rfl (.nil _)))))) ?_
 refine GQ_then ?_
 refine G_block ?_
 refine G_seq ?_
 refine G_region ?_
 refine GL_step rfl (PS_eql rfl rfl) ?_
 refine GL_step rfl (PS_assign rfl) ?_
 refine GL_nil ?_
 refine GQ_sub (.cons (k := 0) rfl (.cons (k := 3) rfl (.cons (k := 4) rfl (.cons (k := 5) rfl (.cons (k := 11) rfl (.cons (k := 12) rfl (.nil _))))))) ?_
 refine GQ_then ?_
 refine G_cond rfl (fun c1 => ?_) (fun c1 => ?_)
 ·
  have c1p := kz c1
  refine G_region ?_
  refine GL_step rfl (PS_move rfl) ?_
  refine GL_step rfl (PS_fieldAddr fa36_4 rfl) ?_
  refine GL_step rfl (PS_load rfl tys9 (.head _) Order.l4 rfl rfl) ?_
  refine GL_callR rfl cf41 (.cons rfl (.cons rfl .nil)) (.cons (.tail .head) (.cons (.tail .head) .nil)) (rules_turn_box_spec _ T _ _ hg hF hu (by omega)) (fun w hS => ⟨gl0.pull gm0 hS (.cons (.tail .head) (.cons (.tail .head) .nil)), gl1.pull gm1 hS (.cons (.tail .head) (.cons (.tail .head) .nil))⟩) (fun v1 B hv => ?_)
  obtain ⟨y2, rfl, y3, rfl⟩ := hv
  refine GL_step rfl (PS_move rfl) ?_
  refine GL_step rfl (PS_extract rfl rfl) ?_
  refine GL_step rfl (PS_extract rfl rfl) ?_
  refine GL_step rfl (PS_assign rfl) ?_
  refine GL_step rfl (PS_assign rfl) ?_
  refine GL_nil ?_
  refine GQ_sub (.cons (k := 0) rfl (.cons (k := 3) rfl (.cons (k := 4) rfl (.cons (k := 5) rfl (.nil _))))) ?_
  refine GQ_block ?_
  refine GQ_then ?_
  refine G_seq ?_
  refine G_seq ?_
  refine G_region ?_
  refine GL_step rfl (PS_move rfl) ?_
  refine GL_step rfl (PS_not rfl) ?_
  refine GL_nil ?_
  refine GQ_sub (.cons (k := 0) rfl (.cons (k := 3) rfl (.cons (k := 4) rfl (.cons (k := 31) rfl (.nil _))))) ?_
  refine GQ_then ?_
  refine G_cond rfl (fun c2 => ?_) (fun c2 => ?_)
  ·
   have c2p := kz c2
   refine G_ret ?_
   refine GQ_then_ret ?_
   refine GQ_ret rfl .nil ?_
   intro w1 hS
   have hS := (hS.perm (Pulls.perm (.cons .head (.cons .head .nil)))).headL
   have ht : T.letTo o = (T.box o.second) := if_t c1
   have hq : T.letGo o = (T.box o.second).1 := (show T.letGo o = (T.letTo o).1 from if_pos (by rw [ht]; exact c2)).trans (by rw [ht])
   refine ⟨_, ⟨?gq1, rfl, ?hl1, ?hB1⟩, hS⟩
   case hB1 => rw [hq]; (try rfl)
   case hl1 => rw [hq]; assumption
  have c2p := kz c2
  refine G_skip ?_
  refine GQ_sub (.cons (k := 0) rfl (.cons (k := 3) rfl (.cons (k := 4) rfl (.nil _)))) ?_
  refine GQ_then ?_
  refine G_seq ?_
  refine G_planN (N := 11) [0, 0, 2, 0, 8, 0, 32, 0, 128, 511, 1023] mix (by kernel_rfl) rfl ?_
  refine Plan_float 0 rfl rfl (by kernel_rfl) (OK_s (EX_s (PS_move rfl))) ?_
  refine Plan_float 1 rfl rfl (by kernel_rfl) (OK_s (EX_s (PS_move rfl))) ?_
  refine Plan_float 3 rfl rfl (by kernel_rfl) (OK_s (EX_s (PS_fieldAddr fa36_1 rfl))) ?_
  refine Plan_float 4 rfl rfl (by kernel_rfl) (OK_s (EX_s (PS_load rfl tys3 (.tail _ (.tail _ (.head _))) Order.l1 rfl rfl))) ?_
  refine Plan_float 5 rfl rfl (by kernel_rfl) (OK_s (EX_s (PS_fieldAddr fa36_3 rfl))) ?_
  refine Plan_float 6 rfl rfl (by kernel_rfl) (OK_s (EX_s (PS_load rfl tys9 (.tail _ (.tail _ (.head _))) Order.l3 rfl rfl))) ?_
  refine Plan_float 7 rfl rfl (by kernel_rfl) (OK_s (EX_s (PS_fieldAddr fa36_2 rfl))) ?_
  refine Plan_float 8 rfl rfl (by kernel_rfl) (OK_s (EX_s (PS_load rfl tys4 (.tail _ (.tail _ (.head _))) Order.l2 rfl rfl))) ?_
  refine Plan_chain 2 rfl (by kernel_rfl) ?_
  refine GL_callL rfl cf44 (.cons rfl .nil) (.cons .head .nil) (rules_turn_own_spec _ (T.box o.second).1 _ (hF.of_w (T.box_w _).1 (T.box_w _).2)) (fun v4 B hv => ?_)
  obtain ⟨y5, rfl, y6, rfl⟩ := hv
  refine GL_hand rfl ⟨?_, ?_⟩
  · exact (Pend_okv rfl (OK_s (EX_s (PS_load rfl tys4 (.tail _ (.tail _ (.tail _ (.head _)))) Order.l2 rfl rfl))) rfl rfl (Pend_okv rfl (OK_s (EX_s (PS_fieldAddr fa36_2 rfl))) rfl rfl (Pend_okv rfl (OK_s (EX_s (PS_load rfl tys9 (.tail _ (.tail _ (.tail _ (.head _)))) Order.l3 rfl rfl))) rfl rfl (Pend_okv rfl (OK_s (EX_s (PS_fieldAddr fa36_3 rfl))) rfl rfl (Pend_okv rfl (OK_s (EX_s (PS_load rfl tys3 (.tail _ (.tail _ (.tail _ (.head _)))) Order.l1 rfl rfl))) rfl rfl (Pend_okv rfl (OK_s (EX_s (PS_fieldAddr fa36_1 rfl))) rfl rfl (Pend_skip (by kernel_rfl) (Pend_okv rfl (OK_s (EX_s (PS_move rfl))) rfl rfl Pend_nil))))))))
  refine Plan_chain 9 rfl (by kernel_rfl) ?_
  refine GL_callL rfl cf42 (.cons rfl (.cons rfl (.cons rfl (.cons rfl (.cons rfl .nil))))) (.cons .head (.cons .head .nil)) (rules_turn_pick_spec _ (T.box o.second).1 _ _ (Turn.own (T.box o.second).1) _ _ _ (hF.of_w (T.box_w _).1 (T.box_w _).2) (by assumption) (Nat.le_trans (Turn.own_len (T.box o.second).1) (by decide)) (fun i hi => Turn.own_rng hi)) (fun v8 B hv => ?_)
  obtain ⟨y9, rfl, y10, rfl⟩ := hv
  refine GL_hand rfl ⟨?_, ?_⟩
  · exact (Pend_skip (by kernel_rfl) (Pend_skip (by kernel_rfl) (Pend_skip (by kernel_rfl) (Pend_skip (by kernel_rfl) (Pend_skip (by kernel_rfl) (Pend_skip (by kernel_rfl) (Pend_skip (by kernel_rfl) (Pend_skip (by kernel_rfl) Pend_nil))))))))
  refine Plan_float 10 rfl rfl (by kernel_rfl) (OK_s (EX_s (PS_assign rfl))) ?_
  refine Plan_end (by kernel_rfl) ?_
  refine GQ_sub (.cons (k := 0) rfl (.cons (k := 3) rfl (.cons (k := 4) rfl (.cons (k := 6) rfl (.nil _))))) ?_
  refine GQ_then ?_
  refine G_seq ?_
  refine G_seq ?_
  refine G_region ?_
  refine GL_step rfl (PS_move rfl) ?_
  refine GL_step rfl (PS_len_slice rfl Tryd.underlying58 rfl) ?_
  refine GL_step rfl (PS_eql rfl rfl) ?_
  refine GL_nil ?_
  refine GQ_sub (.cons (k := 0) rfl (.cons (k := 3) rfl (.cons (k := 4) rfl (.cons (k := 6) rfl (.cons (k := 44) rfl (.nil _)))))) ?_
  refine GQ_then ?_
  refine G_cond rfl (fun c3 => ?_) (fun c3 => ?_)
  ·
   have c3p := kz c3
   rw [y10] at c3
   refine G_region ?_
   refine GL_step rfl (PS_move rfl) ?_
   refine GL_callL rfl cf32 (.cons rfl (.cons rfl .nil)) (.cons .head (.cons (.tail (.tail .head)) .nil)) (rules_turn_tell_spec _ (T.box o.second).1 _ _ (by assumption) (by rw [(T.box_w _).2]; exact hb) (by have := T.box_out o.second; have := T.somebody_out o.second; omega)) (fun v12 B hv => ?_)
   obtain ⟨y13, rfl, y14, rfl⟩ := hv
   refine GL_nil ?_
   refine GQ_sub (.cons (k := 0) rfl (.cons (k := 3) rfl (.cons (k := 4) rfl (.cons (k := 6) rfl (.nil _))))) ?_
   refine GQ_then ?_
   refine G_seq ?_
   refine G_region ?_
   refine GL_step rfl (PS_move rfl) ?_
   refine GL_step rfl (PS_len_slice rfl Tryd.underlying58 rfl) ?_
   refine GL_step rfl (PS_move rfl) ?_
   refine GL_nil ?_
   refine GQ_sub (.cons (k := 0) rfl (.cons (k := 3) rfl (.cons (k := 4) rfl (.cons (k := 47) rfl (.cons (k := 48) rfl (.cons (k := 49) rfl (.nil _))))))) ?_
   refine GQ_then ?_
   refine G_block ?_
   refine G_subF (.cons (k := 49) rfl (.cons (k := 0) rfl (.cons (k := 3) rfl (.cons (k := 4) rfl (.cons (k := 47) rfl (.cons (k := 48) rfl (.nil _))))))) ?_
   refine G_pull (.tail .head) ?_
   refine G_pull (.tail .head) ?_
   refine G_loop3_ (fun (k : Int) (X : Turn) (h : Hd) => 0 ≤ k ∧ k ≤ ((Turn.pickL (T.box o.second).1.w (T.box o.second).1.own o.nth o.name o.all_).length : Int) ∧ T.letGo o = X.letAll o.verb (T.box o.second).2.1 ((Turn.pickL (T.box o.second).1.w (T.box o.second).1.own o.nth o.name o.all_).drop k.toNat) ∧ X.b = T.b ∧ (X.out.length : Int) ≤ T.out.length + 2 + k ∧ h.len = X.out.length ∧ ((Turn.pickL (T.box o.second).1.w (T.box o.second).1.own o.nth o.name o.all_).length : Int) ≤ 9) (fun (k : Int) (X : Turn) (h : Hd) => (((Turn.pickL (T.box o.second).1.w (T.box o.second).1.own o.nth o.name o.all_).length : Int) - k).toNat) (fun (k : Int) (X : Turn) (h : Hd) => [(49, .int .i64 k)]) (fun (k : Int) (X : Turn) (h : Hd) => [Res.box b 55 (TurnV.enc ⟨X.w, X.b, h⟩), Res.own h 48 16 (X.out.flatMap Ing.Event.enc)]) (0) (_) (_) ?_ rfl rfl (fun k X h hI1 => ?_)
   · have ht : T.letTo o = (T.box o.second) := if_t c1
     have hgo : T.letGo o = (T.box o.second).1.letL (T.box o.second).2.1 o := (show T.letGo o = (T.letTo o).1.letL (T.letTo o).2.1 o from if_neg (by rw [ht]; simpa using c2)).trans (by rw [ht])
     exact ⟨by omega, by omega, hgo.trans (congrArg (fun q => Turn.letAll q _ _ _) (if_t c3)), (T.box_w _).2, by have := T.box_out o.second; have := T.somebody_out o.second; (try simp only [Turn.tell_len]); omega, by assumption, by have := (Turn.pickL_sub (T.box o.second).1.w (T.box o.second).1.own o.nth o.name o.all_).length_le; have := Turn.own_len (T.box o.second).1; omega⟩
   obtain ⟨hI11, hI12, hI13, hI14, hI15, hI16, hI17⟩ := hI1
   refine G_seq ?_
   refine G_region ?_
   refine GL_step rfl (PS_lss rfl rfl) ?_
   refine GL_nil ?_
   refine GQ_then ?_
   refine G_seq ?_
   refine G_cond rfl (fun c4 => ?_) (fun c4 => ?_)
   ·
    have c4p := kz c4
    have hx : 0 ≤ (Turn.pickL (T.box o.second).1.w (T.box o.second).1.own o.nth o.name o.all_).getD k.toNat 0 ∧ (Turn.pickL (T.box o.second).1.w (T.box o.second).1.own o.nth o.name o.all_).getD k.toNat 0 < 9 := Turn.own_rng (Turn.pickL_mem (Line.getD_memI (xs := (Turn.pickL (T.box o.second).1.w (T.box o.second).1.own o.nth o.name o.all_)) (i := k.toNat) (by omega)))
    have hbX : 0 ≤ X.b ∧ X.b < 6 := by rw [hI14]; exact hb
    refine G_skip ?_
    refine GQ_sub (.cons (k := 0) rfl (.cons (k := 3) rfl (.cons (k := 4) rfl (.cons (k := 47) rfl (.cons (k := 48) rfl (.cons (k := 49) rfl (.nil _))))))) ?_
    refine GQ_then ?_
    refine G_seq ?_
    refine G_block ?_
    refine G_seq ?_
    refine G_region ?_
    refine GL_step rfl (PS_idxS is58 (by decide) (Kn.own (.tail _ (.tail _ (.tail _ (.head _))))) rfl rfl (by omega) (by omega)) ?_
    refine GL_step rfl (PS_ldInt rfl tys3 (Kn.own (.tail _ (.tail _ (.tail _ (.head _))))) (by omega)) ?_
    refine GL_step rfl (PS_assign rfl) ?_
    refine GL_nil ?_
    refine GQ_sub (.cons (k := 0) rfl (.cons (k := 3) rfl (.cons (k := 4) rfl (.cons (k := 8) rfl (.cons (k := 47) rfl (.cons (k := 48) rfl (.cons (k := 49) rfl (.nil _)))))))) ?_
    refine GQ_then ?_
    refine G_seq ?_
    refine G_region ?_
    refine GL_step rfl (PS_move rfl) ?_
    refine GL_step rfl (PS_move rfl) ?_
    refine GL_step rfl (PS_nilCheck rfl) ?_
    refine GL_step rfl (PS_fieldAddr fa55_0 rfl) ?_
    refine GL_step rfl (PS_fieldAddr fa34_1 rfl) ?_
    refine GL_step rfl (PS_indexAddr ia29 rfl rfl (by first | omega | exact hb.1 | exact hb.2 | exact hbX.1 | exact hbX.2 | (dsimp only; omega)) (by first | omega | exact hb.1 | exact hb.2 | exact hbX.1 | exact hbX.2 | (dsimp only; omega))) ?_
    refine GL_step rfl (PS_assign rfl) ?_
    refine GL_nil ?_
    refine GQ_sub (.cons (k := 0) rfl (.cons (k := 3) rfl (.cons (k := 4) rfl (.cons (k := 8) rfl (.cons (k := 9) rfl (.cons (k := 47) rfl (.cons (k := 48) rfl (.cons (k := 49) rfl (.nil _))))))))) ?_
    refine GQ_then ?_
    refine G_block ?_
    refine G_seq ?_
    refine G_region ?_
    refine GL_step rfl (PS_move rfl) ?_
    refine GL_step rfl (PS_nilCheck rfl) ?_
    refine GL_step rfl (PS_fieldAddr fa28_1 rfl) ?_
    refine GL_step rfl (PS_load rfl tys3 (.head _) (((TurnV.l0.comp Land.l1).comp (Lens.arr (n := 9) Thing.fl (by first | omega | exact hb.1 | exact hb.2 | exact hbX.1 | exact hbX.2 | (dsimp only; omega)) (by first | omega | exact hb.1 | exact hb.2 | exact hbX.1 | exact hbX.2 | (dsimp only; omega)))).comp Thing.l1) rfl rfl) ?_
    refine GL_step rfl (PS_eql rfl rfl) ?_
    refine GL_step rfl (PS_move rfl) ?_
    refine GL_gt (t := 87) rfl rfl rfl (fun q => PS_move rfl) ?_
    refine GL_gt (t := 87) rfl rfl rfl (fun q => PS_nilCheck (cvE rfl q)) ?_
    refine GL_gt (t := 87) rfl rfl rfl (fun q => PS_fieldAddr fa28_4 (cvE rfl q)) ?_
    refine GL_gt (t := 87) rfl rfl rfl (fun q => by have q1 := q; (try simp at q1); exact PS_load (cvE rfl q) tys4 (.head _) (((TurnV.l0.comp Land.l1).comp (Lens.arr (n := 9) Thing.fl (by first | omega | exact hb.1 | exact hb.2 | exact hbX.1 | exact hbX.2 | (dsimp only; omega)) (by first | omega | exact hb.1 | exact hb.2 | exact hbX.1 | exact hbX.2 | (dsimp only; omega)))).comp Thing.l4) rfl rfl) ?_
    refine GL_step rfl (PS_and rfl rfl (fun h => h)) ?_
    refine GL_step rfl (PS_assign rfl) ?_
    refine GL_nil ?_
    refine GQ_sub (.cons (k := 0) rfl (.cons (k := 3) rfl (.cons (k := 4) rfl (.cons (k := 8) rfl (.cons (k := 9) rfl (.cons (k := 47) rfl (.cons (k := 48) rfl (.cons (k := 49) rfl (.cons (k := 81) rfl (.nil _)))))))))) ?_
    refine GQ_then ?_
    refine G_cond rfl (fun c5 => ?_) (fun c5 => ?_)
    ·
     have c5p := kz c5
     refine G_region ?_
     refine GL_step rfl (PS_move rfl) ?_
     refine GL_callL rfl cf32 (.cons rfl (.cons rfl .nil)) (.cons .head (.cons .head .nil)) (rules_turn_tell_spec _ X _ _ (by assumption) (by rw [hI14]; exact hb) (by omega)) (fun v15 B hv => ?_)
     obtain ⟨y16, rfl, y17, rfl⟩ := hv
     refine GL_nil ?_
     refine GQ_sub (.cons (k := 0) rfl (.cons (k := 3) rfl (.cons (k := 4) rfl (.cons (k := 47) rfl (.cons (k := 48) rfl (.cons (k := 49) rfl (.nil _))))))) ?_
     refine GQ_block ?_
     refine GQ_block ?_
     refine GQ_then ?_
     refine G_region ?_
     refine GL_step rfl (PS_add rfl rfl (IntWalk.i64_in _ (by first | omega | exact hb.1 | exact hb.2 | exact hbX.1 | exact hbX.2 | (dsimp only; omega)))) ?_
     refine GL_step rfl (PS_move rfl) ?_
     refine GL_nil ?_
     refine GQ_sub (.cons (k := 0) rfl (.cons (k := 3) rfl (.cons (k := 4) rfl (.cons (k := 47) rfl (.cons (k := 48) rfl (.cons (k := 49) rfl (.nil _))))))) ?_
     refine GQ_next3_ (k + 1) _ _ ?_ ?_ (.cons (k := 49) rfl (.cons (k := 0) rfl (.cons (k := 3) rfl (.cons (k := 4) rfl (.cons (k := 47) rfl (.cons (k := 48) rfl (.nil _))))))) (.refl _)
     · have hq : X.letOne o.verb (T.box o.second).2.1 ((Turn.pickL (T.box o.second).1.w (T.box o.second).1.own o.nth o.name o.all_).getD k.toNat 0) = _ := (if_t c5)
       have hol := Turn.letOne_out X o.verb (T.box o.second).2.1 ((Turn.pickL (T.box o.second).1.w (T.box o.second).1.own o.nth o.name o.all_).getD k.toNat 0)
       have hob := Turn.letOne_b X o.verb (T.box o.second).2.1 ((Turn.pickL (T.box o.second).1.w (T.box o.second).1.own o.nth o.name o.all_).getD k.toNat 0)
       (try rw [Turn.place_name hx.1 hx.2] at *)
       (try rw [Turn.place_name' hx.1 hx.2 (show 0 ≤ (T.box o.second).2.1 by omega)] at *)
       exact ⟨by omega, by omega, by rw [hI13, Turn.letAll_step hI11 (by omega), hq]; (try rfl), (by rw [hq] at hob; exact hob.trans hI14), (by rw [hq] at hol; first | omega | (simp only [Turn.tell_len] at *; omega)), by assumption, hI17⟩
     · omega
    have c5p := kz c5
    refine G_seq ?_
    refine G_region ?_
    refine GL_step rfl (PS_fieldAddr fa36_0 rfl) ?_
    refine GL_step rfl (PS_load rfl tys3 (.tail _ (.tail _ (.tail _ (.tail _ (.head _))))) Order.l0 rfl rfl) ?_
    refine GL_step rfl (PS_eql rfl rfl) ?_
    refine GL_step rfl (PS_assign rfl) ?_
    refine GL_nil ?_
    refine GQ_sub (.cons (k := 0) rfl (.cons (k := 3) rfl (.cons (k := 4) rfl (.cons (k := 8) rfl (.cons (k := 9) rfl (.cons (k := 47) rfl (.cons (k := 48) rfl (.cons (k := 49) rfl (.cons (k := 95) rfl (.nil _)))))))))) ?_
    refine GQ_then ?_
    refine G_cond rfl (fun c6 => ?_) (fun c6 => ?_)
    ·
     have c6p := kz c6
     refine G_seq ?_
     refine G_planN (N := 19) [0, 0, 0, 0, 8, 24, 56, 4, 132, 388, 1020, 2044, 4092, 8189, 16381, 32765, 65535, 131071, 262143] mix (by kernel_rfl) rfl ?_
     refine Plan_float 0 rfl rfl (by kernel_rfl) (OK_s (EX_s (PS_move rfl))) ?_
     refine Plan_float 1 rfl rfl (by kernel_rfl) (OK_s (EX_s (PS_move rfl))) ?_
     refine Plan_float 2 rfl rfl (by kernel_rfl) (OK_s (EX_s (PS_move rfl))) ?_
     refine Plan_float 3 rfl rfl (by kernel_rfl) (OK_s (EX_s (PS_move rfl))) ?_
     refine Plan_float 4 rfl rfl (by kernel_rfl) (OK_s (EX_s (PS_nilCheck rfl))) ?_
     refine Plan_float 5 rfl rfl (by kernel_rfl) (OK_s (EX_s (PS_fieldAddr fa55_1 rfl))) ?_
     refine Plan_float 6 rfl rfl (by kernel_rfl) (OK_s (EX_s (PS_load rfl tys3 (.head _) TurnV.l1 rfl rfl))) ?_
     refine Plan_float 7 rfl rfl (by kernel_rfl) (OK_s (EX_s (PS_nilCheck rfl))) ?_
     refine Plan_float 8 rfl rfl (by kernel_rfl) (OK_s (EX_s (PS_fieldAddr fa55_0 rfl))) ?_
     refine Plan_float 9 rfl rfl (by kernel_rfl) (OK_s (EX_s (PS_fieldAddr fa34_2 rfl))) ?_
     refine Plan_float 10 rfl rfl (by kernel_rfl) (OK_s (EX_s (PS_indexAddr ia32 rfl rfl (by first | omega | exact hb.1 | exact hb.2 | exact hbX.1 | exact hbX.2 | (dsimp only; omega)) (by first | omega | exact hb.1 | exact hb.2 | exact hbX.1 | exact hbX.2 | (dsimp only; omega))))) ?_
     refine Plan_float 11 rfl rfl (by kernel_rfl) (OK_s (EX_s (PS_fieldAddr fa31_3 rfl))) ?_
     refine Plan_float 12 rfl rfl (by kernel_rfl) (OK_s (EX_s (PS_load rfl tys3 (.head _) (((TurnV.l0.comp Land.l2).comp (Lens.arr (n := 6) Being.fl (by first | omega | exact hb.1 | exact hb.2 | exact hbX.1 | exact hbX.2 | (dsimp only; omega)) (by first | omega | exact hb.1 | exact hb.2 | exact hbX.1 | exact hbX.2 | (dsimp only; omega)))).comp Being.l3) rfl rfl))) ?_
     refine Plan_float 13 rfl rfl (by kernel_rfl) (OK_s (EX_s (PS_nilCheck rfl))) ?_
     refine Plan_float 14 rfl rfl (by kernel_rfl) (OK_s (EX_s (PS_fieldAddr fa28_2 rfl))) ?_
     refine Plan_chain 15 rfl (by kernel_rfl) ?_
     refine GL_unit (PU_store (((TurnV.l0.comp Land.l1).comp (Lens.arr (n := 9) Thing.fl (by first | omega | exact hb.1 | exact hb.2 | exact hbX.1 | exact hbX.2 | (dsimp only; omega)) (by first | omega | exact hb.1 | exact hb.2 | exact hbX.1 | exact hbX.2 | (dsimp only; omega)))).comp Thing.l2) rfl rfl rfl sz3 rfl .head) ?_
     refine GL_hand0 rfl ⟨?_, ?_⟩
     · exact (Pend_skip (by kernel_rfl) (Pend_skip (by kernel_rfl) (Pend_skip (by kernel_rfl) (Pend_skip (by kernel_rfl) (Pend_skip (by kernel_rfl) (Pend_skip (by kernel_rfl) (Pend_skip (by kernel_rfl) (Pend_skip (by kernel_rfl) (Pend_skip (by kernel_rfl) (Pend_skip (by kernel_rfl) (Pend_skip (by kernel_rfl) (Pend_skip (by kernel_rfl) (Pend_skip (by kernel_rfl) (Pend_okv rfl (OK_s (EX_s (PS_move rfl))) rfl rfl (Pend_skip (by kernel_rfl) Pend_nil)))))))))))))))
     refine Plan_float 16 rfl rfl (by kernel_rfl) (OK_s (EX_s (PS_nilCheck rfl))) ?_
     refine Plan_float 17 rfl rfl (by kernel_rfl) (OK_s (EX_s (PS_fieldAddr fa28_3 rfl))) ?_
     refine Plan_chain 18 rfl (by kernel_rfl) ?_
     refine GL_unit (PU_store (((TurnV.l0.comp Land.l1).comp (Lens.arr (n := 9) Thing.fl (by first | omega | exact hb.1 | exact hb.2 | exact hbX.1 | exact hbX.2 | (dsimp only; omega)) (by first | omega | exact hb.1 | exact hb.2 | exact hbX.1 | exact hbX.2 | (dsimp only; omega)))).comp Thing.l3) rfl rfl rfl sz3 rfl .head) ?_
     refine GL_hand0 rfl ⟨?_, ?_⟩
     · exact (Pend_skip (by kernel_rfl) (Pend_skip (by kernel_rfl) (Pend_skip (by kernel_rfl) (Pend_skip (by kernel_rfl) (Pend_skip (by kernel_rfl) (Pend_skip (by kernel_rfl) (Pend_skip (by kernel_rfl) (Pend_skip (by kernel_rfl) (Pend_skip (by kernel_rfl) (Pend_skip (by kernel_rfl) (Pend_skip (by kernel_rfl) (Pend_skip (by kernel_rfl) (Pend_skip (by kernel_rfl) (Pend_skip (by kernel_rfl) (Pend_skip (by kernel_rfl) (Pend_skip (by kernel_rfl) (Pend_skip (by kernel_rfl) Pend_nil)))))))))))))))))
     refine Plan_end (by kernel_rfl) ?_
     refine GQ_sub (.cons (k := 0) rfl (.cons (k := 3) rfl (.cons (k := 4) rfl (.cons (k := 8) rfl (.cons (k := 47) rfl (.cons (k := 48) rfl (.cons (k := 49) rfl (.nil _)))))))) ?_
     refine GQ_then ?_
     refine G_swap (fun _ => .head) (congrArg (fun q => TurnV.enc ⟨q, _, _⟩) (Turn.place_eq X hx.1 hx.2 0 (X.w.beings.at X.b).room)) ?_
     refine G_region ?_
     refine GL_step rfl (PS_move rfl) ?_
     refine GL_step rfl (PS_move rfl) ?_
     refine GL_callL rfl cf43 (.cons rfl (.cons rfl (.cons rfl .nil))) (.cons .head (.cons .head .nil)) (rules_turn_thing_spec _ (X.place ((Turn.pickL (T.box o.second).1.w (T.box o.second).1.own o.nth o.name o.all_).getD k.toNat 0) 0 X.me.room) _ 4 ((Turn.pickL (T.box o.second).1.w (T.box o.second).1.own o.nth o.name o.all_).getD k.toNat 0) (by assumption) hbX hx (show X.out.length ≤ 100000 by omega)) (fun v18 B hv => ?_)
     obtain ⟨y19, rfl, y20, rfl⟩ := hv
     refine GL_nil ?_
     refine GQ_sub (.cons (k := 0) rfl (.cons (k := 3) rfl (.cons (k := 4) rfl (.cons (k := 47) rfl (.cons (k := 48) rfl (.cons (k := 49) rfl (.nil _))))))) ?_
     refine GQ_block ?_
     refine GQ_block ?_
     refine GQ_then ?_
     refine G_region ?_
     refine GL_step rfl (PS_add rfl rfl (IntWalk.i64_in _ (by first | omega | exact hb.1 | exact hb.2 | exact hbX.1 | exact hbX.2 | (dsimp only; omega)))) ?_
     refine GL_step rfl (PS_move rfl) ?_
     refine GL_nil ?_
     refine GQ_sub (.cons (k := 0) rfl (.cons (k := 3) rfl (.cons (k := 4) rfl (.cons (k := 47) rfl (.cons (k := 48) rfl (.cons (k := 49) rfl (.nil _))))))) ?_
     refine GQ_next3_ (k + 1) _ _ ?_ ?_ (.cons (k := 49) rfl (.cons (k := 0) rfl (.cons (k := 3) rfl (.cons (k := 4) rfl (.cons (k := 47) rfl (.cons (k := 48) rfl (.nil _))))))) (.refl _)
     · have hq : X.letOne o.verb (T.box o.second).2.1 ((Turn.pickL (T.box o.second).1.w (T.box o.second).1.own o.nth o.name o.all_).getD k.toNat 0) = _ := ((if_f c5).trans (if_t c6))
       have hol := Turn.letOne_out X o.verb (T.box o.second).2.1 ((Turn.pickL (T.box o.second).1.w (T.box o.second).1.own o.nth o.name o.all_).getD k.toNat 0)
       have hob := Turn.letOne_b X o.verb (T.box o.second).2.1 ((Turn.pickL (T.box o.second).1.w (T.box o.second).1.own o.nth o.name o.all_).getD k.toNat 0)
       (try rw [Turn.place_name hx.1 hx.2] at *)
       (try rw [Turn.place_name' hx.1 hx.2 (show 0 ≤ (T.box o.second).2.1 by omega)] at *)
       exact ⟨by omega, by omega, by rw [hI13, Turn.letAll_step hI11 (by omega), hq]; (try rfl), (by rw [hq] at hob; exact hob.trans hI14), (by rw [hq] at hol; first | omega | (simp only [Turn.tell_len] at *; omega)), by assumption, hI17⟩
     · omega
    have c6p := kz c6
    refine G_seq ?_
    refine G_region ?_
    refine GL_step rfl (PS_fieldAddr fa36_0 rfl) ?_
    refine GL_step rfl (PS_load rfl tys3 (.tail _ (.tail _ (.tail _ (.tail _ (.head _))))) Order.l0 rfl rfl) ?_
    refine GL_step rfl (PS_eql rfl rfl) ?_
    refine GL_step rfl (PS_assign rfl) ?_
    refine GL_nil ?_
    refine GQ_sub (.cons (k := 0) rfl (.cons (k := 3) rfl (.cons (k := 4) rfl (.cons (k := 8) rfl (.cons (k := 9) rfl (.cons (k := 47) rfl (.cons (k := 48) rfl (.cons (k := 49) rfl (.cons (k := 119) rfl (.nil _)))))))))) ?_
    refine GQ_then ?_
    refine G_cond rfl (fun c7 => ?_) (fun c7 => ?_)
    ·
     have c7p := kz c7
     refine G_seq ?_
     refine G_region ?_
     refine GL_step rfl (PS_move rfl) ?_
     refine GL_step rfl (PS_move rfl) ?_
     refine GL_step rfl (PS_move rfl) ?_
     refine GL_step rfl (PS_nilCheck rfl) ?_
     refine GL_step rfl (PS_fieldAddr fa28_2 rfl) ?_
     refine GL_unit (PU_store (((TurnV.l0.comp Land.l1).comp (Lens.arr (n := 9) Thing.fl (by first | omega | exact hb.1 | exact hb.2 | exact hbX.1 | exact hbX.2 | (dsimp only; omega)) (by first | omega | exact hb.1 | exact hb.2 | exact hbX.1 | exact hbX.2 | (dsimp only; omega)))).comp Thing.l2) rfl rfl rfl sz3 rfl .head) ?_
     refine GL_step rfl (PS_nilCheck rfl) ?_
     refine GL_step rfl (PS_fieldAddr fa28_3 rfl) ?_
     refine GL_unit (PU_store (((TurnV.l0.comp Land.l1).comp (Lens.arr (n := 9) Thing.fl (by first | omega | exact hb.1 | exact hb.2 | exact hbX.1 | exact hbX.2 | (dsimp only; omega)) (by first | omega | exact hb.1 | exact hb.2 | exact hbX.1 | exact hbX.2 | (dsimp only; omega)))).comp Thing.l3) rfl rfl rfl sz3 rfl .head) ?_
     refine GL_nil ?_
     refine GQ_sub (.cons (k := 0) rfl (.cons (k := 3) rfl (.cons (k := 4) rfl (.cons (k := 9) rfl (.cons (k := 47) rfl (.cons (k := 48) rfl (.cons (k := 49) rfl (.nil _)))))))) ?_
     refine GQ_then ?_
     refine G_swap (fun _ => .head) (congrArg (fun q => TurnV.enc ⟨q, _, _⟩) (Turn.place_eq X hx.1 hx.2 1 (T.box o.second).2.1)) ?_
     refine G_region ?_
     refine GL_step rfl (PS_move rfl) ?_
     refine GL_step rfl (PS_move rfl) ?_
     refine GL_step rfl (PS_move rfl) ?_
     refine GL_step rfl (PS_nilCheck rfl) ?_
     refine GL_step rfl (PS_fieldAddr fa28_0 rfl) ?_
     refine GL_step rfl (PS_load rfl tys9 (.head _) (((TurnV.l0.comp Land.l1).comp (Lens.arr (n := 9) Thing.fl (by first | omega | exact hb.1 | exact hb.2 | exact hbX.1 | exact hbX.2 | (dsimp only; omega)) (by first | omega | exact hb.1 | exact hb.2 | exact hbX.1 | exact hbX.2 | (dsimp only; omega)))).comp Thing.l0) rfl rfl) ?_
     refine GL_step rfl (PS_build pl48 zv48 rfl (.cons Ing.Event.l0 rfl rfl rfl (.cons Ing.Event.l3 rfl rfl rfl (.cons Ing.Event.l8 rfl rfl rfl .nil)))) ?_
     refine GL_callL rfl cf17 (.cons rfl (.cons rfl .nil)) (.cons .head (.cons .head .nil)) (rules_turn_happens_spec _ (X.place ((Turn.pickL (T.box o.second).1.w (T.box o.second).1.own o.nth o.name o.all_).getD k.toNat 0) 1 (T.box o.second).2.1) _ { Turn.evk 6 with other := (T.box o.second).2.1, thing := ((X.place ((Turn.pickL (T.box o.second).1.w (T.box o.second).1.own o.nth o.name o.all_).getD k.toNat 0) 1 (T.box o.second).2.1).w.things.at ((Turn.pickL (T.box o.second).1.w (T.box o.second).1.own o.nth o.name o.all_).getD k.toNat 0)).name } (by assumption) hbX (show (T.box o.second).2.1 < 6 by omega) (show X.out.length ≤ 100000 by omega)) (fun v21 B hv => ?_)
     obtain ⟨y22, rfl, y23, rfl⟩ := hv
     refine GL_nil ?_
     refine GQ_sub (.cons (k := 0) rfl (.cons (k := 3) rfl (.cons (k := 4) rfl (.cons (k := 47) rfl (.cons (k := 48) rfl (.cons (k := 49) rfl (.nil _))))))) ?_
     refine GQ_block ?_
     refine GQ_block ?_
     refine GQ_then ?_
     refine G_region ?_
     refine GL_step rfl (PS_add rfl rfl (IntWalk.i64_in _ (by first | omega | exact hb.1 | exact hb.2 | exact hbX.1 | exact hbX.2 | (dsimp only; omega)))) ?_
     refine GL_step rfl (PS_move rfl) ?_
     refine GL_nil ?_
     refine GQ_sub (.cons (k := 0) rfl (.cons (k := 3) rfl (.cons (k := 4) rfl (.cons (k := 47) rfl (.cons (k := 48) rfl (.cons (k := 49) rfl (.nil _))))))) ?_
     refine GQ_next3_ (k + 1) _ _ ?_ ?_ (.cons (k := 49) rfl (.cons (k := 0) rfl (.cons (k := 3) rfl (.cons (k := 4) rfl (.cons (k := 47) rfl (.cons (k := 48) rfl (.nil _))))))) (.refl _)
     · have hq : X.letOne o.verb (T.box o.second).2.1 ((Turn.pickL (T.box o.second).1.w (T.box o.second).1.own o.nth o.name o.all_).getD k.toNat 0) = _ := ((if_f c5).trans ((if_f c6).trans (if_t c7)))
       have hol := Turn.letOne_out X o.verb (T.box o.second).2.1 ((Turn.pickL (T.box o.second).1.w (T.box o.second).1.own o.nth o.name o.all_).getD k.toNat 0)
       have hob := Turn.letOne_b X o.verb (T.box o.second).2.1 ((Turn.pickL (T.box o.second).1.w (T.box o.second).1.own o.nth o.name o.all_).getD k.toNat 0)
       (try rw [Turn.place_name hx.1 hx.2] at *)
       (try rw [Turn.place_name' hx.1 hx.2 (show 0 ≤ (T.box o.second).2.1 by omega)] at *)
       exact ⟨by omega, by omega, by rw [hI13, Turn.letAll_step hI11 (by omega), hq]; (try rfl), (by rw [hq] at hob; exact hob.trans hI14), (by rw [hq] at hol; first | omega | (simp only [Turn.tell_len] at *; omega)), by assumption, hI17⟩
     · omega
    have c7p := kz c7
    refine G_seq ?_
    refine G_region ?_
    refine GL_step rfl (PS_move rfl) ?_
    refine GL_step rfl (PS_nilCheck rfl) ?_
    refine GL_step rfl (PS_fieldAddr fa55_0 rfl) ?_
    refine GL_step rfl (PS_loadA rfl tya34 (.head _) TurnV.l0 rfl) ?_
    refine GL_step rfl (PS_move rfl) ?_
    refine GL_step rfl (PS_move rfl) ?_
    refine GL_pure rfl cf45 (.cons rfl (.cons rfl (.cons rfl .nil))) (fun w hS => land_Inside_spec _ _ _ w) ?_
    refine GL_step rfl (PS_assign rfl) ?_
    refine GL_nil ?_
    refine GQ_sub (.cons (k := 0) rfl (.cons (k := 3) rfl (.cons (k := 4) rfl (.cons (k := 9) rfl (.cons (k := 47) rfl (.cons (k := 48) rfl (.cons (k := 49) rfl (.cons (k := 138) rfl (.nil _))))))))) ?_
    refine GQ_then ?_
    refine G_cond rfl (fun c8 => ?_) (fun c8 => ?_)
    ·
     have c8p := kz c8
     refine G_region ?_
     refine GL_step rfl (PS_move rfl) ?_
     refine GL_callL rfl cf32 (.cons rfl (.cons rfl .nil)) (.cons .head (.cons .head .nil)) (rules_turn_tell_spec _ X _ _ (by assumption) (by rw [hI14]; exact hb) (by omega)) (fun v24 B hv => ?_)
     obtain ⟨y25, rfl, y26, rfl⟩ := hv
     refine GL_nil ?_
     refine GQ_sub (.cons (k := 0) rfl (.cons (k := 3) rfl (.cons (k := 4) rfl (.cons (k := 47) rfl (.cons (k := 48) rfl (.cons (k := 49) rfl (.nil _))))))) ?_
     refine GQ_block ?_
     refine GQ_block ?_
     refine GQ_then ?_
     refine G_region ?_
     refine GL_step rfl (PS_add rfl rfl (IntWalk.i64_in _ (by first | omega | exact hb.1 | exact hb.2 | exact hbX.1 | exact hbX.2 | (dsimp only; omega)))) ?_
     refine GL_step rfl (PS_move rfl) ?_
     refine GL_nil ?_
     refine GQ_sub (.cons (k := 0) rfl (.cons (k := 3) rfl (.cons (k := 4) rfl (.cons (k := 47) rfl (.cons (k := 48) rfl (.cons (k := 49) rfl (.nil _))))))) ?_
     refine GQ_next3_ (k + 1) _ _ ?_ ?_ (.cons (k := 49) rfl (.cons (k := 0) rfl (.cons (k := 3) rfl (.cons (k := 4) rfl (.cons (k := 47) rfl (.cons (k := 48) rfl (.nil _))))))) (.refl _)
     · have hq : X.letOne o.verb (T.box o.second).2.1 ((Turn.pickL (T.box o.second).1.w (T.box o.second).1.own o.nth o.name o.all_).getD k.toNat 0) = _ := ((if_f c5).trans ((if_f c6).trans ((if_f c7).trans (if_t c8))))
       have hol := Turn.letOne_out X o.verb (T.box o.second).2.1 ((Turn.pickL (T.box o.second).1.w (T.box o.second).1.own o.nth o.name o.all_).getD k.toNat 0)
       have hob := Turn.letOne_b X o.verb (T.box o.second).2.1 ((Turn.pickL (T.box o.second).1.w (T.box o.second).1.own o.nth o.name o.all_).getD k.toNat 0)
       (try rw [Turn.place_name hx.1 hx.2] at *)
       (try rw [Turn.place_name' hx.1 hx.2 (show 0 ≤ (T.box o.second).2.1 by omega)] at *)
       exact ⟨by omega, by omega, by rw [hI13, Turn.letAll_step hI11 (by omega), hq]; (try rfl), (by rw [hq] at hob; exact hob.trans hI14), (by rw [hq] at hol; first | omega | (simp only [Turn.tell_len] at *; omega)), by assumption, hI17⟩
     · omega
    have c8p := kz c8
    refine G_seq ?_
    refine G_region ?_
    refine GL_step rfl (PS_move rfl) ?_
    refine GL_step rfl (PS_move rfl) ?_
    refine GL_step rfl (PS_move rfl) ?_
    refine GL_step rfl (PS_nilCheck rfl) ?_
    refine GL_step rfl (PS_fieldAddr fa28_2 rfl) ?_
    refine GL_unit (PU_store (((TurnV.l0.comp Land.l1).comp (Lens.arr (n := 9) Thing.fl (by first | omega | exact hb.1 | exact hb.2 | exact hbX.1 | exact hbX.2 | (dsimp only; omega)) (by first | omega | exact hb.1 | exact hb.2 | exact hbX.1 | exact hbX.2 | (dsimp only; omega)))).comp Thing.l2) rfl rfl rfl sz3 rfl .head) ?_
    refine GL_step rfl (PS_nilCheck rfl) ?_
    refine GL_step rfl (PS_fieldAddr fa28_3 rfl) ?_
    refine GL_unit (PU_store (((TurnV.l0.comp Land.l1).comp (Lens.arr (n := 9) Thing.fl (by first | omega | exact hb.1 | exact hb.2 | exact hbX.1 | exact hbX.2 | (dsimp only; omega)) (by first | omega | exact hb.1 | exact hb.2 | exact hbX.1 | exact hbX.2 | (dsimp only; omega)))).comp Thing.l3) rfl rfl rfl sz3 rfl .head) ?_
    refine GL_nil ?_
    refine GQ_sub (.cons (k := 0) rfl (.cons (k := 3) rfl (.cons (k := 4) rfl (.cons (k := 9) rfl (.cons (k := 47) rfl (.cons (k := 48) rfl (.cons (k := 49) rfl (.nil _)))))))) ?_
    refine GQ_then ?_
    refine G_swap (fun _ => .head) (congrArg (fun q => TurnV.enc ⟨q, _, _⟩) (Turn.place_eq X hx.1 hx.2 2 (T.box o.second).2.1)) ?_
    refine G_planN (N := 15) [0, 0, 2, 6, 14, 0, 0, 32, 160, 416, 992, 2016, 4064, 8190, 16383] mix (by kernel_rfl) rfl ?_
    refine Plan_float 0 rfl rfl (by kernel_rfl) (OK_s (EX_s (PS_move rfl))) ?_
    refine Plan_float 1 rfl rfl (by kernel_rfl) (OK_s (EX_s (PS_move rfl))) ?_
    refine Plan_float 2 rfl rfl (by kernel_rfl) (OK_s (EX_s (PS_nilCheck rfl))) ?_
    refine Plan_float 3 rfl rfl (by kernel_rfl) (OK_s (EX_s (PS_fieldAddr fa28_0 rfl))) ?_
    refine Plan_float 4 rfl rfl (by kernel_rfl) (OK_s (EX_s (PS_load rfl tys9 (.head _) (((TurnV.l0.comp Land.l1).comp (Lens.arr (n := 9) Thing.fl (by first | omega | exact hb.1 | exact hb.2 | exact hbX.1 | exact hbX.2 | (dsimp only; omega)) (by first | omega | exact hb.1 | exact hb.2 | exact hbX.1 | exact hbX.2 | (dsimp only; omega)))).comp Thing.l0) rfl rfl))) ?_
    refine Plan_float 5 rfl rfl (by kernel_rfl) (OK_s (EX_s (PS_move rfl))) ?_
    refine Plan_float 6 rfl rfl (by kernel_rfl) (OK_s (EX_s (PS_move rfl))) ?_
    refine Plan_float 7 rfl rfl (by kernel_rfl) (OK_s (EX_s (PS_nilCheck rfl))) ?_
    refine Plan_float 8 rfl rfl (by kernel_rfl) (OK_s (EX_s (PS_fieldAddr fa55_0 rfl))) ?_
    refine Plan_float 9 rfl rfl (by kernel_rfl) (OK_s (EX_s (PS_fieldAddr fa34_1 rfl))) ?_
    refine Plan_float 10 rfl rfl (by kernel_rfl) (OK_s (EX_s (PS_indexAddr ia29 rfl rfl (by first | omega | exact hb.1 | exact hb.2 | exact hbX.1 | exact hbX.2 | (dsimp only; omega)) (by first | omega | exact hb.1 | exact hb.2 | exact hbX.1 | exact hbX.2 | (dsimp only; omega))))) ?_
    refine Plan_float 11 rfl rfl (by kernel_rfl) (OK_s (EX_s (PS_fieldAddr fa28_0 rfl))) ?_
    refine Plan_float 12 rfl rfl (by kernel_rfl) (OK_s (EX_s (PS_load rfl tys9 (.head _) (((TurnV.l0.comp Land.l1).comp (Lens.arr (n := 9) Thing.fl (by first | omega | exact hb.1 | exact hb.2 | exact hbX.1 | exact hbX.2 | (dsimp only; omega)) (by first | omega | exact hb.1 | exact hb.2 | exact hbX.1 | exact hbX.2 | (dsimp only; omega)))).comp Thing.l0) rfl rfl))) ?_
    refine Plan_float 13 rfl rfl (by kernel_rfl) (OK_s (EX_s (PS_build pl48 zv48 rfl (.cons Ing.Event.l0 rfl rfl rfl (.cons Ing.Event.l3 rfl rfl rfl (.cons Ing.Event.l8 rfl rfl rfl (.cons Ing.Event.l9 rfl rfl rfl .nil))))))) ?_
    refine Plan_chain 14 rfl (by kernel_rfl) ?_
    refine GL_callL rfl cf17 (.cons rfl (.cons rfl .nil)) (.cons .head (.cons .head .nil)) (rules_turn_happens_spec _ (X.place ((Turn.pickL (T.box o.second).1.w (T.box o.second).1.own o.nth o.name o.all_).getD k.toNat 0) 2 (T.box o.second).2.1) _ { Turn.evk 5 with thing := ((X.place ((Turn.pickL (T.box o.second).1.w (T.box o.second).1.own o.nth o.name o.all_).getD k.toNat 0) 2 (T.box o.second).2.1).w.things.at ((Turn.pickL (T.box o.second).1.w (T.box o.second).1.own o.nth o.name o.all_).getD k.toNat 0)).name, text := ((X.place ((Turn.pickL (T.box o.second).1.w (T.box o.second).1.own o.nth o.name o.all_).getD k.toNat 0) 2 (T.box o.second).2.1).w.things.at (T.box o.second).2.1).name } (by assumption) hbX (show (-1 : Int) < 6 by decide) (show X.out.length ≤ 100000 by omega)) (fun v27 B hv => ?_)
    obtain ⟨y28, rfl, y29, rfl⟩ := hv
    refine GL_hand rfl ⟨?_, ?_⟩
    · exact (Pend_skip (by kernel_rfl) (Pend_skip (by kernel_rfl) (Pend_skip (by kernel_rfl) (Pend_skip (by kernel_rfl) (Pend_skip (by kernel_rfl) (Pend_skip (by kernel_rfl) (Pend_skip (by kernel_rfl) (Pend_skip (by kernel_rfl) (Pend_skip (by kernel_rfl) (Pend_skip (by kernel_rfl) (Pend_skip (by kernel_rfl) (Pend_skip (by kernel_rfl) (Pend_skip (by kernel_rfl) (Pend_skip (by kernel_rfl) Pend_nil))))))))))))))
    refine Plan_end (by kernel_rfl) ?_
    refine GQ_sub (.cons (k := 0) rfl (.cons (k := 3) rfl (.cons (k := 4) rfl (.cons (k := 47) rfl (.cons (k := 48) rfl (.cons (k := 49) rfl (.nil _))))))) ?_
    refine GQ_block ?_
    refine GQ_block ?_
    refine GQ_then ?_
    refine G_region ?_
    refine GL_step rfl (PS_add rfl rfl (IntWalk.i64_in _ (by first | omega | exact hb.1 | exact hb.2 | exact hbX.1 | exact hbX.2 | (dsimp only; omega)))) ?_
    refine GL_step rfl (PS_move rfl) ?_
    refine GL_nil ?_
    refine GQ_sub (.cons (k := 0) rfl (.cons (k := 3) rfl (.cons (k := 4) rfl (.cons (k := 47) rfl (.cons (k := 48) rfl (.cons (k := 49) rfl (.nil _))))))) ?_
    refine GQ_next3_ (k + 1) _ _ ?_ ?_ (.cons (k := 49) rfl (.cons (k := 0) rfl (.cons (k := 3) rfl (.cons (k := 4) rfl (.cons (k := 47) rfl (.cons (k := 48) rfl (.nil _))))))) (.refl _)
    · have hq : X.letOne o.verb (T.box o.second).2.1 ((Turn.pickL (T.box o.second).1.w (T.box o.second).1.own o.nth o.name o.all_).getD k.toNat 0) = _ := ((if_f c5).trans ((if_f c6).trans ((if_f c7).trans (if_f c8))))
      have hol := Turn.letOne_out X o.verb (T.box o.second).2.1 ((Turn.pickL (T.box o.second).1.w (T.box o.second).1.own o.nth o.name o.all_).getD k.toNat 0)
      have hob := Turn.letOne_b X o.verb (T.box o.second).2.1 ((Turn.pickL (T.box o.second).1.w (T.box o.second).1.own o.nth o.name o.all_).getD k.toNat 0)
      (try rw [Turn.place_name hx.1 hx.2] at *)
      (try rw [Turn.place_name' hx.1 hx.2 (show 0 ≤ (T.box o.second).2.1 by omega)] at *)
      exact ⟨by omega, by omega, by rw [hI13, Turn.letAll_step hI11 (by omega), hq]; (try rfl), (by rw [hq] at hob; exact hob.trans hI14), (by rw [hq] at hol; first | omega | (simp only [Turn.tell_len] at *; omega)), by assumption, hI17⟩
    · omega
   have c4p := kz c4
   obtain rfl : k = ((Turn.pickL (T.box o.second).1.w (T.box o.second).1.own o.nth o.name o.all_).length : Int) := by omega
   rw [Turn.drop_end] at hI13
   refine G_exit ?_
   refine GQ_then_exit ?_
   refine GQ_then_exit ?_
   refine GQ_block_exit ?_
   refine GQ_end rfl .nil ?_
   intro w1 hS
   have hS := (hS.perm (Pulls.perm (.cons .head (.cons .head .nil)))).headL
   refine ⟨_, ⟨?gq2, rfl, ?hl2, ?hB2⟩, hS⟩
   case hB2 => rw [hI13]; rfl
   case hl2 => rw [hI13]; exact hI16
  have c3p := kz c3
  rw [y10] at c3
  refine G_skip ?_
  refine GQ_sub (.cons (k := 0) rfl (.cons (k := 3) rfl (.cons (k := 4) rfl (.cons (k := 6) rfl (.nil _))))) ?_
  refine GQ_then ?_
  refine G_seq ?_
  refine G_region ?_
  refine GL_step rfl (PS_move rfl) ?_
  refine GL_step rfl (PS_len_slice rfl Tryd.underlying58 rfl) ?_
  refine GL_step rfl (PS_move rfl) ?_
  refine GL_nil ?_
  refine GQ_sub (.cons (k := 0) rfl (.cons (k := 3) rfl (.cons (k := 4) rfl (.cons (k := 47) rfl (.cons (k := 48) rfl (.cons (k := 49) rfl (.nil _))))))) ?_
  refine GQ_then ?_
  refine G_block ?_
  refine G_subF (.cons (k := 49) rfl (.cons (k := 0) rfl (.cons (k := 3) rfl (.cons (k := 4) rfl (.cons (k := 47) rfl (.cons (k := 48) rfl (.nil _))))))) ?_
  refine G_pull (.tail (.tail (.tail .head))) ?_
  refine G_pull (.tail .head) ?_
  refine G_loop3_ (fun (k : Int) (X : Turn) (h : Hd) => 0 ≤ k ∧ k ≤ ((Turn.pickL (T.box o.second).1.w (T.box o.second).1.own o.nth o.name o.all_).length : Int) ∧ T.letGo o = X.letAll o.verb (T.box o.second).2.1 ((Turn.pickL (T.box o.second).1.w (T.box o.second).1.own o.nth o.name o.all_).drop k.toNat) ∧ X.b = T.b ∧ (X.out.length : Int) ≤ T.out.length + 2 + k ∧ h.len = X.out.length ∧ ((Turn.pickL (T.box o.second).1.w (T.box o.second).1.own o.nth o.name o.all_).length : Int) ≤ 9) (fun (k : Int) (X : Turn) (h : Hd) => (((Turn.pickL (T.box o.second).1.w (T.box o.second).1.own o.nth o.name o.all_).length : Int) - k).toNat) (fun (k : Int) (X : Turn) (h : Hd) => [(49, .int .i64 k)]) (fun (k : Int) (X : Turn) (h : Hd) => [Res.box b 55 (TurnV.enc ⟨X.w, X.b, h⟩), Res.own h 48 16 (X.out.flatMap Ing.Event.enc)]) (0) (_) (_) ?_ rfl rfl (fun k X h hI1 => ?_)
  · have ht : T.letTo o = (T.box o.second) := if_t c1
    have hgo : T.letGo o = (T.box o.second).1.letL (T.box o.second).2.1 o := (show T.letGo o = (T.letTo o).1.letL (T.letTo o).2.1 o from if_neg (by rw [ht]; simpa using c2)).trans (by rw [ht])
    exact ⟨by omega, by omega, hgo.trans (congrArg (fun q => Turn.letAll q _ _ _) (if_f c3)), (T.box_w _).2, by have := T.box_out o.second; have := T.somebody_out o.second; (try simp only [Turn.tell_len]); omega, by assumption, by have := (Turn.pickL_sub (T.box o.second).1.w (T.box o.second).1.own o.nth o.name o.all_).length_le; have := Turn.own_len (T.box o.second).1; omega⟩
  obtain ⟨hI11, hI12, hI13, hI14, hI15, hI16, hI17⟩ := hI1
  refine G_seq ?_
  refine G_region ?_
  refine GL_step rfl (PS_lss rfl rfl) ?_
  refine GL_nil ?_
  refine GQ_then ?_
  refine G_seq ?_
  refine G_cond rfl (fun c9 => ?_) (fun c9 => ?_)
  ·
   have c9p := kz c9
   have hx : 0 ≤ (Turn.pickL (T.box o.second).1.w (T.box o.second).1.own o.nth o.name o.all_).getD k.toNat 0 ∧ (Turn.pickL (T.box o.second).1.w (T.box o.second).1.own o.nth o.name o.all_).getD k.toNat 0 < 9 := Turn.own_rng (Turn.pickL_mem (Line.getD_memI (xs := (Turn.pickL (T.box o.second).1.w (T.box o.second).1.own o.nth o.name o.all_)) (i := k.toNat) (by omega)))
   have hbX : 0 ≤ X.b ∧ X.b < 6 := by rw [hI14]; exact hb
   refine G_skip ?_
   refine GQ_sub (.cons (k := 0) rfl (.cons (k := 3) rfl (.cons (k := 4) rfl (.cons (k := 47) rfl (.cons (k := 48) rfl (.cons (k := 49) rfl (.nil _))))))) ?_
   refine GQ_then ?_
   refine G_seq ?_
   refine G_block ?_
   refine G_seq ?_
   refine G_region ?_
   refine GL_step rfl (PS_idxS is58 (by decide) (Kn.own (.tail _ (.tail _ (.tail _ (.head _))))) rfl rfl (by omega) (by omega)) ?_
   refine GL_step rfl (PS_ldInt rfl tys3 (Kn.own (.tail _ (.tail _ (.tail _ (.head _))))) (by omega)) ?_
   refine GL_step rfl (PS_assign rfl) ?_
   refine GL_nil ?_
   refine GQ_sub (.cons (k := 0) rfl (.cons (k := 3) rfl (.cons (k := 4) rfl (.cons (k := 8) rfl (.cons (k := 47) rfl (.cons (k := 48) rfl (.cons (k := 49) rfl (.nil _)))))))) ?_
   refine GQ_then ?_
   refine G_seq ?_
   refine G_region ?_
   refine GL_step rfl (PS_move rfl) ?_
   refine GL_step rfl (PS_move rfl) ?_
   refine GL_step rfl (PS_nilCheck rfl) ?_
   refine GL_step rfl (PS_fieldAddr fa55_0 rfl) ?_
   refine GL_step rfl (PS_fieldAddr fa34_1 rfl) ?_
   refine GL_step rfl (PS_indexAddr ia29 rfl rfl (by first | omega | exact hb.1 | exact hb.2 | exact hbX.1 | exact hbX.2 | (dsimp only; omega)) (by first | omega | exact hb.1 | exact hb.2 | exact hbX.1 | exact hbX.2 | (dsimp only; omega))) ?_
   refine GL_step rfl (PS_assign rfl) ?_
   refine GL_nil ?_
   refine GQ_sub (.cons (k := 0) rfl (.cons (k := 3) rfl (.cons (k := 4) rfl (.cons (k := 8) rfl (.cons (k := 9) rfl (.cons (k := 47) rfl (.cons (k := 48) rfl (.cons (k := 49) rfl (.nil _))))))))) ?_
   refine GQ_then ?_
   refine G_block ?_
   refine G_seq ?_
   refine G_region ?_
   refine GL_step rfl (PS_move rfl) ?_
   refine GL_step rfl (PS_nilCheck rfl) ?_
   refine GL_step rfl (PS_fieldAddr fa28_1 rfl) ?_
   refine GL_step rfl (PS_load rfl tys3 (.head _) (((TurnV.l0.comp Land.l1).comp (Lens.arr (n := 9) Thing.fl (by first | omega | exact hb.1 | exact hb.2 | exact hbX.1 | exact hbX.2 | (dsimp only; omega)) (by first | omega | exact hb.1 | exact hb.2 | exact hbX.1 | exact hbX.2 | (dsimp only; omega)))).comp Thing.l1) rfl rfl) ?_
   refine GL_step rfl (PS_eql rfl rfl) ?_
   refine GL_step rfl (PS_move rfl) ?_
   refine GL_gt (t := 87) rfl rfl rfl (fun q => PS_move rfl) ?_
   refine GL_gt (t := 87) rfl rfl rfl (fun q => PS_nilCheck (cvE rfl q)) ?_
   refine GL_gt (t := 87) rfl rfl rfl (fun q => PS_fieldAddr fa28_4 (cvE rfl q)) ?_
   refine GL_gt (t := 87) rfl rfl rfl (fun q => by have q1 := q; (try simp at q1); exact PS_load (cvE rfl q) tys4 (.head _) (((TurnV.l0.comp Land.l1).comp (Lens.arr (n := 9) Thing.fl (by first | omega | exact hb.1 | exact hb.2 | exact hbX.1 | exact hbX.2 | (dsimp only; omega)) (by first | omega | exact hb.1 | exact hb.2 | exact hbX.1 | exact hbX.2 | (dsimp only; omega)))).comp Thing.l4) rfl rfl) ?_
   refine GL_step rfl (PS_and rfl rfl (fun h => h)) ?_
   refine GL_step rfl (PS_assign rfl) ?_
   refine GL_nil ?_
   refine GQ_sub (.cons (k := 0) rfl (.cons (k := 3) rfl (.cons (k := 4) rfl (.cons (k := 8) rfl (.cons (k := 9) rfl (.cons (k := 47) rfl (.cons (k := 48) rfl (.cons (k := 49) rfl (.cons (k := 81) rfl (.nil _)))))))))) ?_
   refine GQ_then ?_
   refine G_cond rfl (fun c10 => ?_) (fun c10 => ?_)
   ·
    have c10p := kz c10
    refine G_region ?_
    refine GL_step rfl (PS_move rfl) ?_
    refine GL_callL rfl cf32 (.cons rfl (.cons rfl .nil)) (.cons .head (.cons .head .nil)) (rules_turn_tell_spec _ X _ _ (by assumption) (by rw [hI14]; exact hb) (by omega)) (fun v30 B hv => ?_)
    obtain ⟨y31, rfl, y32, rfl⟩ := hv
    refine GL_nil ?_
    refine GQ_sub (.cons (k := 0) rfl (.cons (k := 3) rfl (.cons (k := 4) rfl (.cons (k := 47) rfl (.cons (k := 48) rfl (.cons (k := 49) rfl (.nil _))))))) ?_
    refine GQ_block ?_
    refine GQ_block ?_
    refine GQ_then ?_
    refine G_region ?_
    refine GL_step rfl (PS_add rfl rfl (IntWalk.i64_in _ (by first | omega | exact hb.1 | exact hb.2 | exact hbX.1 | exact hbX.2 | (dsimp only; omega)))) ?_
    refine GL_step rfl (PS_move rfl) ?_
    refine GL_nil ?_
    refine GQ_sub (.cons (k := 0) rfl (.cons (k := 3) rfl (.cons (k := 4) rfl (.cons (k := 47) rfl (.cons (k := 48) rfl (.cons (k := 49) rfl (.nil _))))))) ?_
    refine GQ_next3_ (k + 1) _ _ ?_ ?_ (.cons (k := 49) rfl (.cons (k := 0) rfl (.cons (k := 3) rfl (.cons (k := 4) rfl (.cons (k := 47) rfl (.cons (k := 48) rfl (.nil _))))))) (.refl _)
    · have hq : X.letOne o.verb (T.box o.second).2.1 ((Turn.pickL (T.box o.second).1.w (T.box o.second).1.own o.nth o.name o.all_).getD k.toNat 0) = _ := (if_t c10)
      have hol := Turn.letOne_out X o.verb (T.box o.second).2.1 ((Turn.pickL (T.box o.second).1.w (T.box o.second).1.own o.nth o.name o.all_).getD k.toNat 0)
      have hob := Turn.letOne_b X o.verb (T.box o.second).2.1 ((Turn.pickL (T.box o.second).1.w (T.box o.second).1.own o.nth o.name o.all_).getD k.toNat 0)
      (try rw [Turn.place_name hx.1 hx.2] at *)
      (try rw [Turn.place_name' hx.1 hx.2 (show 0 ≤ (T.box o.second).2.1 by omega)] at *)
      exact ⟨by omega, by omega, by rw [hI13, Turn.letAll_step hI11 (by omega), hq]; (try rfl), (by rw [hq] at hob; exact hob.trans hI14), (by rw [hq] at hol; first | omega | (simp only [Turn.tell_len] at *; omega)), by assumption, hI17⟩
    · omega
   have c10p := kz c10
   refine G_seq ?_
   refine G_region ?_
   refine GL_step rfl (PS_fieldAddr fa36_0 rfl) ?_
   refine GL_step rfl (PS_load rfl tys3 (.tail _ (.tail _ (.tail _ (.tail _ (.head _))))) Order.l0 rfl rfl) ?_
   refine GL_step rfl (PS_eql rfl rfl) ?_
   refine GL_step rfl (PS_assign rfl) ?_
   refine GL_nil ?_
   refine GQ_sub (.cons (k := 0) rfl (.cons (k := 3) rfl (.cons (k := 4) rfl (.cons (k := 8) rfl (.cons (k := 9) rfl (.cons (k := 47) rfl (.cons (k := 48) rfl (.cons (k := 49) rfl (.cons (k := 95) rfl (.nil _)))))))))) ?_
   refine GQ_then ?_
   refine G_cond rfl (fun c11 => ?_) (fun c11 => ?_)
   ·
    have c11p := kz c11
    refine G_seq ?_
    refine G_planN (N := 19) [0, 0, 0, 0, 8, 24, 56, 4, 132, 388, 1020, 2044, 4092, 8189, 16381, 32765, 65535, 131071, 262143] mix (by kernel_rfl) rfl ?_
    refine Plan_float 0 rfl rfl (by kernel_rfl) (OK_s (EX_s (PS_move rfl))) ?_
    refine Plan_float 1 rfl rfl (by kernel_rfl) (OK_s (EX_s (PS_move rfl))) ?_
    refine Plan_float 2 rfl rfl (by kernel_rfl) (OK_s (EX_s (PS_move rfl))) ?_
    refine Plan_float 3 rfl rfl (by kernel_rfl) (OK_s (EX_s (PS_move rfl))) ?_
    refine Plan_float 4 rfl rfl (by kernel_rfl) (OK_s (EX_s (PS_nilCheck rfl))) ?_
    refine Plan_float 5 rfl rfl (by kernel_rfl) (OK_s (EX_s (PS_fieldAddr fa55_1 rfl))) ?_
    refine Plan_float 6 rfl rfl (by kernel_rfl) (OK_s (EX_s (PS_load rfl tys3 (.head _) TurnV.l1 rfl rfl))) ?_
    refine Plan_float 7 rfl rfl (by kernel_rfl) (OK_s (EX_s (PS_nilCheck rfl))) ?_
    refine Plan_float 8 rfl rfl (by kernel_rfl) (OK_s (EX_s (PS_fieldAddr fa55_0 rfl))) ?_
    refine Plan_float 9 rfl rfl (by kernel_rfl) (OK_s (EX_s (PS_fieldAddr fa34_2 rfl))) ?_
    refine Plan_float 10 rfl rfl (by kernel_rfl) (OK_s (EX_s (PS_indexAddr ia32 rfl rfl (by first | omega | exact hb.1 | exact hb.2 | exact hbX.1 | exact hbX.2 | (dsimp only; omega)) (by first | omega | exact hb.1 | exact hb.2 | exact hbX.1 | exact hbX.2 | (dsimp only; omega))))) ?_
    refine Plan_float 11 rfl rfl (by kernel_rfl) (OK_s (EX_s (PS_fieldAddr fa31_3 rfl))) ?_
    refine Plan_float 12 rfl rfl (by kernel_rfl) (OK_s (EX_s (PS_load rfl tys3 (.head _) (((TurnV.l0.comp Land.l2).comp (Lens.arr (n := 6) Being.fl (by first | omega | exact hb.1 | exact hb.2 | exact hbX.1 | exact hbX.2 | (dsimp only; omega)) (by first | omega | exact hb.1 | exact hb.2 | exact hbX.1 | exact hbX.2 | (dsimp only; omega)))).comp Being.l3) rfl rfl))) ?_
    refine Plan_float 13 rfl rfl (by kernel_rfl) (OK_s (EX_s (PS_nilCheck rfl))) ?_
    refine Plan_float 14 rfl rfl (by kernel_rfl) (OK_s (EX_s (PS_fieldAddr fa28_2 rfl))) ?_
    refine Plan_chain 15 rfl (by kernel_rfl) ?_
    refine GL_unit (PU_store (((TurnV.l0.comp Land.l1).comp (Lens.arr (n := 9) Thing.fl (by first | omega | exact hb.1 | exact hb.2 | exact hbX.1 | exact hbX.2 | (dsimp only; omega)) (by first | omega | exact hb.1 | exact hb.2 | exact hbX.1 | exact hbX.2 | (dsimp only; omega)))).comp Thing.l2) rfl rfl rfl sz3 rfl .head) ?_
    refine GL_hand0 rfl ⟨?_, ?_⟩
    · exact (Pend_skip (by kernel_rfl) (Pend_skip (by kernel_rfl) (Pend_skip (by kernel_rfl) (Pend_skip (by kernel_rfl) (Pend_skip (by kernel_rfl) (Pend_skip (by kernel_rfl) (Pend_skip (by kernel_rfl) (Pend_skip (by kernel_rfl) (Pend_skip (by kernel_rfl) (Pend_skip (by kernel_rfl) (Pend_skip (by kernel_rfl) (Pend_skip (by kernel_rfl) (Pend_skip (by kernel_rfl) (Pend_okv rfl (OK_s (EX_s (PS_move rfl))) rfl rfl (Pend_skip (by kernel_rfl) Pend_nil)))))))))))))))
    refine Plan_float 16 rfl rfl (by kernel_rfl) (OK_s (EX_s (PS_nilCheck rfl))) ?_
    refine Plan_float 17 rfl rfl (by kernel_rfl) (OK_s (EX_s (PS_fieldAddr fa28_3 rfl))) ?_
    refine Plan_chain 18 rfl (by kernel_rfl) ?_
    refine GL_unit (PU_store (((TurnV.l0.comp Land.l1).comp (Lens.arr (n := 9) Thing.fl (by first | omega | exact hb.1 | exact hb.2 | exact hbX.1 | exact hbX.2 | (dsimp only; omega)) (by first | omega | exact hb.1 | exact hb.2 | exact hbX.1 | exact hbX.2 | (dsimp only; omega)))).comp Thing.l3) rfl rfl rfl sz3 rfl .head) ?_
    refine GL_hand0 rfl ⟨?_, ?_⟩
    · exact (Pend_skip (by kernel_rfl) (Pend_skip (by kernel_rfl) (Pend_skip (by kernel_rfl) (Pend_skip (by kernel_rfl) (Pend_skip (by kernel_rfl) (Pend_skip (by kernel_rfl) (Pend_skip (by kernel_rfl) (Pend_skip (by kernel_rfl) (Pend_skip (by kernel_rfl) (Pend_skip (by kernel_rfl) (Pend_skip (by kernel_rfl) (Pend_skip (by kernel_rfl) (Pend_skip (by kernel_rfl) (Pend_skip (by kernel_rfl) (Pend_skip (by kernel_rfl) (Pend_skip (by kernel_rfl) (Pend_skip (by kernel_rfl) Pend_nil)))))))))))))))))
    refine Plan_end (by kernel_rfl) ?_
    refine GQ_sub (.cons (k := 0) rfl (.cons (k := 3) rfl (.cons (k := 4) rfl (.cons (k := 8) rfl (.cons (k := 47) rfl (.cons (k := 48) rfl (.cons (k := 49) rfl (.nil _)))))))) ?_
    refine GQ_then ?_
    refine G_swap (fun _ => .head) (congrArg (fun q => TurnV.enc ⟨q, _, _⟩) (Turn.place_eq X hx.1 hx.2 0 (X.w.beings.at X.b).room)) ?_
    refine G_region ?_
    refine GL_step rfl (PS_move rfl) ?_
    refine GL_step rfl (PS_move rfl) ?_
    refine GL_callL rfl cf43 (.cons rfl (.cons rfl (.cons rfl .nil))) (.cons .head (.cons .head .nil)) (rules_turn_thing_spec _ (X.place ((Turn.pickL (T.box o.second).1.w (T.box o.second).1.own o.nth o.name o.all_).getD k.toNat 0) 0 X.me.room) _ 4 ((Turn.pickL (T.box o.second).1.w (T.box o.second).1.own o.nth o.name o.all_).getD k.toNat 0) (by assumption) hbX hx (show X.out.length ≤ 100000 by omega)) (fun v33 B hv => ?_)
    obtain ⟨y34, rfl, y35, rfl⟩ := hv
    refine GL_nil ?_
    refine GQ_sub (.cons (k := 0) rfl (.cons (k := 3) rfl (.cons (k := 4) rfl (.cons (k := 47) rfl (.cons (k := 48) rfl (.cons (k := 49) rfl (.nil _))))))) ?_
    refine GQ_block ?_
    refine GQ_block ?_
    refine GQ_then ?_
    refine G_region ?_
    refine GL_step rfl (PS_add rfl rfl (IntWalk.i64_in _ (by first | omega | exact hb.1 | exact hb.2 | exact hbX.1 | exact hbX.2 | (dsimp only; omega)))) ?_
    refine GL_step rfl (PS_move rfl) ?_
    refine GL_nil ?_
    refine GQ_sub (.cons (k := 0) rfl (.cons (k := 3) rfl (.cons (k := 4) rfl (.cons (k := 47) rfl (.cons (k := 48) rfl (.cons (k := 49) rfl (.nil _))))))) ?_
    refine GQ_next3_ (k + 1) _ _ ?_ ?_ (.cons (k := 49) rfl (.cons (k := 0) rfl (.cons (k := 3) rfl (.cons (k := 4) rfl (.cons (k := 47) rfl (.cons (k := 48) rfl (.nil _))))))) (.refl _)
    · have hq : X.letOne o.verb (T.box o.second).2.1 ((Turn.pickL (T.box o.second).1.w (T.box o.second).1.own o.nth o.name o.all_).getD k.toNat 0) = _ := ((if_f c10).trans (if_t c11))
      have hol := Turn.letOne_out X o.verb (T.box o.second).2.1 ((Turn.pickL (T.box o.second).1.w (T.box o.second).1.own o.nth o.name o.all_).getD k.toNat 0)
      have hob := Turn.letOne_b X o.verb (T.box o.second).2.1 ((Turn.pickL (T.box o.second).1.w (T.box o.second).1.own o.nth o.name o.all_).getD k.toNat 0)
      (try rw [Turn.place_name hx.1 hx.2] at *)
      (try rw [Turn.place_name' hx.1 hx.2 (show 0 ≤ (T.box o.second).2.1 by omega)] at *)
      exact ⟨by omega, by omega, by rw [hI13, Turn.letAll_step hI11 (by omega), hq]; (try rfl), (by rw [hq] at hob; exact hob.trans hI14), (by rw [hq] at hol; first | omega | (simp only [Turn.tell_len] at *; omega)), by assumption, hI17⟩
    · omega
   have c11p := kz c11
   refine G_seq ?_
   refine G_region ?_
   refine GL_step rfl (PS_fieldAddr fa36_0 rfl) ?_
   refine GL_step rfl (PS_load rfl tys3 (.tail _ (.tail _ (.tail _ (.tail _ (.head _))))) Order.l0 rfl rfl) ?_
   refine GL_step rfl (PS_eql rfl rfl) ?_
   refine GL_step rfl (PS_assign rfl) ?_
   refine GL_nil ?_
   refine GQ_sub (.cons (k := 0) rfl (.cons (k := 3) rfl (.cons (k := 4) rfl (.cons (k := 8) rfl (.cons (k := 9) rfl (.cons (k := 47) rfl (.cons (k := 48) rfl (.cons (k := 49) rfl (.cons (k := 119) rfl (.nil _)))))))))) ?_
   refine GQ_then ?_
   refine G_cond rfl (fun c12 => ?_) (fun c12 => ?_)
   ·
    have c12p := kz c12
    refine G_seq ?_
    refine G_region ?_
    refine GL_step rfl (PS_move rfl) ?_
    refine GL_step rfl (PS_move rfl) ?_
    refine GL_step rfl (PS_move rfl) ?_
    refine GL_step rfl (PS_nilCheck rfl) ?_
    refine GL_step rfl (PS_fieldAddr fa28_2 rfl) ?_
    refine GL_unit (PU_store (((TurnV.l0.comp Land.l1).comp (Lens.arr (n := 9) Thing.fl (by first | omega | exact hb.1 | exact hb.2 | exact hbX.1 | exact hbX.2 | (dsimp only; omega)) (by first | omega | exact hb.1 | exact hb.2 | exact hbX.1 | exact hbX.2 | (dsimp only; omega)))).comp Thing.l2) rfl rfl rfl sz3 rfl .head) ?_
    refine GL_step rfl (PS_nilCheck rfl) ?_
    refine GL_step rfl (PS_fieldAddr fa28_3 rfl) ?_
    refine GL_unit (PU_store (((TurnV.l0.comp Land.l1).comp (Lens.arr (n := 9) Thing.fl (by first | omega | exact hb.1 | exact hb.2 | exact hbX.1 | exact hbX.2 | (dsimp only; omega)) (by first | omega | exact hb.1 | exact hb.2 | exact hbX.1 | exact hbX.2 | (dsimp only; omega)))).comp Thing.l3) rfl rfl rfl sz3 rfl .head) ?_
    refine GL_nil ?_
    refine GQ_sub (.cons (k := 0) rfl (.cons (k := 3) rfl (.cons (k := 4) rfl (.cons (k := 9) rfl (.cons (k := 47) rfl (.cons (k := 48) rfl (.cons (k := 49) rfl (.nil _)))))))) ?_
    refine GQ_then ?_
    refine G_swap (fun _ => .head) (congrArg (fun q => TurnV.enc ⟨q, _, _⟩) (Turn.place_eq X hx.1 hx.2 1 (T.box o.second).2.1)) ?_
    refine G_region ?_
    refine GL_step rfl (PS_move rfl) ?_
    refine GL_step rfl (PS_move rfl) ?_
    refine GL_step rfl (PS_move rfl) ?_
    refine GL_step rfl (PS_nilCheck rfl) ?_
    refine GL_step rfl (PS_fieldAddr fa28_0 rfl) ?_
    refine GL_step rfl (PS_load rfl tys9 (.head _) (((TurnV.l0.comp Land.l1).comp (Lens.arr (n := 9) Thing.fl (by first | omega | exact hb.1 | exact hb.2 | exact hbX.1 | exact hbX.2 | (dsimp only; omega)) (by first | omega | exact hb.1 | exact hb.2 | exact hbX.1 | exact hbX.2 | (dsimp only; omega)))).comp Thing.l0) rfl rfl) ?_
    refine GL_step rfl (PS_build pl48 zv48 rfl (.cons Ing.Event.l0 rfl rfl rfl (.cons Ing.Event.l3 rfl rfl rfl (.cons Ing.Event.l8 rfl rfl rfl .nil)))) ?_
    refine GL_callL rfl cf17 (.cons rfl (.cons rfl .nil)) (.cons .head (.cons .head .nil)) (rules_turn_happens_spec _ (X.place ((Turn.pickL (T.box o.second).1.w (T.box o.second).1.own o.nth o.name o.all_).getD k.toNat 0) 1 (T.box o.second).2.1) _ { Turn.evk 6 with other := (T.box o.second).2.1, thing := ((X.place ((Turn.pickL (T.box o.second).1.w (T.box o.second).1.own o.nth o.name o.all_).getD k.toNat 0) 1 (T.box o.second).2.1).w.things.at ((Turn.pickL (T.box o.second).1.w (T.box o.second).1.own o.nth o.name o.all_).getD k.toNat 0)).name } (by assumption) hbX (show (T.box o.second).2.1 < 6 by omega) (show X.out.length ≤ 100000 by omega)) (fun v36 B hv => ?_)
    obtain ⟨y37, rfl, y38, rfl⟩ := hv
    refine GL_nil ?_
    refine GQ_sub (.cons (k := 0) rfl (.cons (k := 3) rfl (.cons (k := 4) rfl (.cons (k := 47) rfl (.cons (k := 48) rfl (.cons (k := 49) rfl (.nil _))))))) ?_
    refine GQ_block ?_
    refine GQ_block ?_
    refine GQ_then ?_
    refine G_region ?_
    refine GL_step rfl (PS_add rfl rfl (IntWalk.i64_in _ (by first | omega | exact hb.1 | exact hb.2 | exact hbX.1 | exact hbX.2 | (dsimp only; omega)))) ?_
    refine GL_step rfl (PS_move rfl) ?_
    refine GL_nil ?_
    refine GQ_sub (.cons (k := 0) rfl (.cons (k := 3) rfl (.cons (k := 4) rfl (.cons (k := 47) rfl (.cons (k := 48) rfl (.cons (k := 49) rfl (.nil _))))))) ?_
    refine GQ_next3_ (k + 1) _ _ ?_ ?_ (.cons (k := 49) rfl (.cons (k := 0) rfl (.cons (k := 3) rfl (.cons (k := 4) rfl (.cons (k := 47) rfl (.cons (k := 48) rfl (.nil _))))))) (.refl _)
    · have hq : X.letOne o.verb (T.box o.second).2.1 ((Turn.pickL (T.box o.second).1.w (T.box o.second).1.own o.nth o.name o.all_).getD k.toNat 0) = _ := ((if_f c10).trans ((if_f c11).trans (if_t c12)))
      have hol := Turn.letOne_out X o.verb (T.box o.second).2.1 ((Turn.pickL (T.box o.second).1.w (T.box o.second).1.own o.nth o.name o.all_).getD k.toNat 0)
      have hob := Turn.letOne_b X o.verb (T.box o.second).2.1 ((Turn.pickL (T.box o.second).1.w (T.box o.second).1.own o.nth o.name o.all_).getD k.toNat 0)
      (try rw [Turn.place_name hx.1 hx.2] at *)
      (try rw [Turn.place_name' hx.1 hx.2 (show 0 ≤ (T.box o.second).2.1 by omega)] at *)
      exact ⟨by omega, by omega, by rw [hI13, Turn.letAll_step hI11 (by omega), hq]; (try rfl), (by rw [hq] at hob; exact hob.trans hI14), (by rw [hq] at hol; first | omega | (simp only [Turn.tell_len] at *; omega)), by assumption, hI17⟩
    · omega
   have c12p := kz c12
   refine G_seq ?_
   refine G_region ?_
   refine GL_step rfl (PS_move rfl) ?_
   refine GL_step rfl (PS_nilCheck rfl) ?_
   refine GL_step rfl (PS_fieldAddr fa55_0 rfl) ?_
   refine GL_step rfl (PS_loadA rfl tya34 (.head _) TurnV.l0 rfl) ?_
   refine GL_step rfl (PS_move rfl) ?_
   refine GL_step rfl (PS_move rfl) ?_
   refine GL_pure rfl cf45 (.cons rfl (.cons rfl (.cons rfl .nil))) (fun w hS => land_Inside_spec _ _ _ w) ?_
   refine GL_step rfl (PS_assign rfl) ?_
   refine GL_nil ?_
   refine GQ_sub (.cons (k := 0) rfl (.cons (k := 3) rfl (.cons (k := 4) rfl (.cons (k := 9) rfl (.cons (k := 47) rfl (.cons (k := 48) rfl (.cons (k := 49) rfl (.cons (k := 138) rfl (.nil _))))))))) ?_
   refine GQ_then ?_
   refine G_cond rfl (fun c13 => ?_) (fun c13 => ?_)
   ·
    have c13p := kz c13
    refine G_region ?_
    refine GL_step rfl (PS_move rfl) ?_
    refine GL_callL rfl cf32 (.cons rfl (.cons rfl .nil)) (.cons .head (.cons .head .nil)) (rules_turn_tell_spec _ X _ _ (by assumption) (by rw [hI14]; exact hb) (by omega)) (fun v39 B hv => ?_)
    obtain ⟨y40, rfl, y41, rfl⟩ := hv
    refine GL_nil ?_
    refine GQ_sub (.cons (k := 0) rfl (.cons (k := 3) rfl (.cons (k := 4) rfl (.cons (k := 47) rfl (.cons (k := 48) rfl (.cons (k := 49) rfl (.nil _))))))) ?_
    refine GQ_block ?_
    refine GQ_block ?_
    refine GQ_then ?_
    refine G_region ?_
    refine GL_step rfl (PS_add rfl rfl (IntWalk.i64_in _ (by first | omega | exact hb.1 | exact hb.2 | exact hbX.1 | exact hbX.2 | (dsimp only; omega)))) ?_
    refine GL_step rfl (PS_move rfl) ?_
    refine GL_nil ?_
    refine GQ_sub (.cons (k := 0) rfl (.cons (k := 3) rfl (.cons (k := 4) rfl (.cons (k := 47) rfl (.cons (k := 48) rfl (.cons (k := 49) rfl (.nil _))))))) ?_
    refine GQ_next3_ (k + 1) _ _ ?_ ?_ (.cons (k := 49) rfl (.cons (k := 0) rfl (.cons (k := 3) rfl (.cons (k := 4) rfl (.cons (k := 47) rfl (.cons (k := 48) rfl (.nil _))))))) (.refl _)
    · have hq : X.letOne o.verb (T.box o.second).2.1 ((Turn.pickL (T.box o.second).1.w (T.box o.second).1.own o.nth o.name o.all_).getD k.toNat 0) = _ := ((if_f c10).trans ((if_f c11).trans ((if_f c12).trans (if_t c13))))
      have hol := Turn.letOne_out X o.verb (T.box o.second).2.1 ((Turn.pickL (T.box o.second).1.w (T.box o.second).1.own o.nth o.name o.all_).getD k.toNat 0)
      have hob := Turn.letOne_b X o.verb (T.box o.second).2.1 ((Turn.pickL (T.box o.second).1.w (T.box o.second).1.own o.nth o.name o.all_).getD k.toNat 0)
      (try rw [Turn.place_name hx.1 hx.2] at *)
      (try rw [Turn.place_name' hx.1 hx.2 (show 0 ≤ (T.box o.second).2.1 by omega)] at *)
      exact ⟨by omega, by omega, by rw [hI13, Turn.letAll_step hI11 (by omega), hq]; (try rfl), (by rw [hq] at hob; exact hob.trans hI14), (by rw [hq] at hol; first | omega | (simp only [Turn.tell_len] at *; omega)), by assumption, hI17⟩
    · omega
   have c13p := kz c13
   refine G_seq ?_
   refine G_region ?_
   refine GL_step rfl (PS_move rfl) ?_
   refine GL_step rfl (PS_move rfl) ?_
   refine GL_step rfl (PS_move rfl) ?_
   refine GL_step rfl (PS_nilCheck rfl) ?_
   refine GL_step rfl (PS_fieldAddr fa28_2 rfl) ?_
   refine GL_unit (PU_store (((TurnV.l0.comp Land.l1).comp (Lens.arr (n := 9) Thing.fl (by first | omega | exact hb.1 | exact hb.2 | exact hbX.1 | exact hbX.2 | (dsimp only; omega)) (by first | omega | exact hb.1 | exact hb.2 | exact hbX.1 | exact hbX.2 | (dsimp only; omega)))).comp Thing.l2) rfl rfl rfl sz3 rfl .head) ?_
   refine GL_step rfl (PS_nilCheck rfl) ?_
   refine GL_step rfl (PS_fieldAddr fa28_3 rfl) ?_
   refine GL_unit (PU_store (((TurnV.l0.comp Land.l1).comp (Lens.arr (n := 9) Thing.fl (by first | omega | exact hb.1 | exact hb.2 | exact hbX.1 | exact hbX.2 | (dsimp only; omega)) (by first | omega | exact hb.1 | exact hb.2 | exact hbX.1 | exact hbX.2 | (dsimp only; omega)))).comp Thing.l3) rfl rfl rfl sz3 rfl .head) ?_
   refine GL_nil ?_
   refine GQ_sub (.cons (k := 0) rfl (.cons (k := 3) rfl (.cons (k := 4) rfl (.cons (k := 9) rfl (.cons (k := 47) rfl (.cons (k := 48) rfl (.cons (k := 49) rfl (.nil _)))))))) ?_
   refine GQ_then ?_
   refine G_swap (fun _ => .head) (congrArg (fun q => TurnV.enc ⟨q, _, _⟩) (Turn.place_eq X hx.1 hx.2 2 (T.box o.second).2.1)) ?_
   refine G_planN (N := 15) [0, 0, 2, 6, 14, 0, 0, 32, 160, 416, 992, 2016, 4064, 8190, 16383] mix (by kernel_rfl) rfl ?_
   refine Plan_float 0 rfl rfl (by kernel_rfl) (OK_s (EX_s (PS_move rfl))) ?_
   refine Plan_float 1 rfl rfl (by kernel_rfl) (OK_s (EX_s (PS_move rfl))) ?_
   refine Plan_float 2 rfl rfl (by kernel_rfl) (OK_s (EX_s (PS_nilCheck rfl))) ?_
   refine Plan_float 3 rfl rfl (by kernel_rfl) (OK_s (EX_s (PS_fieldAddr fa28_0 rfl))) ?_
   refine Plan_float 4 rfl rfl (by kernel_rfl) (OK_s (EX_s (PS_load rfl tys9 (.head _) (((TurnV.l0.comp Land.l1).comp (Lens.arr (n := 9) Thing.fl (by first | omega | exact hb.1 | exact hb.2 | exact hbX.1 | exact hbX.2 | (dsimp only; omega)) (by first | omega | exact hb.1 | exact hb.2 | exact hbX.1 | exact hbX.2 | (dsimp only; omega)))).comp Thing.l0) rfl rfl))) ?_
   refine Plan_float 5 rfl rfl (by kernel_rfl) (OK_s (EX_s (PS_move rfl))) ?_
   refine Plan_float 6 rfl rfl (by kernel_rfl) (OK_s (EX_s (PS_move rfl))) ?_
   refine Plan_float 7 rfl rfl (by kernel_rfl) (OK_s (EX_s (PS_nilCheck rfl))) ?_
   refine Plan_float 8 rfl rfl (by kernel_rfl) (OK_s (EX_s (PS_fieldAddr fa55_0 rfl))) ?_
   refine Plan_float 9 rfl rfl (by kernel_rfl) (OK_s (EX_s (PS_fieldAddr fa34_1 rfl))) ?_
   refine Plan_float 10 rfl rfl (by kernel_rfl) (OK_s (EX_s (PS_indexAddr ia29 rfl rfl (by first | omega | exact hb.1 | exact hb.2 | exact hbX.1 | exact hbX.2 | (dsimp only; omega)) (by first | omega | exact hb.1 | exact hb.2 | exact hbX.1 | exact hbX.2 | (dsimp only; omega))))) ?_
   refine Plan_float 11 rfl rfl (by kernel_rfl) (OK_s (EX_s (PS_fieldAddr fa28_0 rfl))) ?_
   refine Plan_float 12 rfl rfl (by kernel_rfl) (OK_s (EX_s (PS_load rfl tys9 (.head _) (((TurnV.l0.comp Land.l1).comp (Lens.arr (n := 9) Thing.fl (by first | omega | exact hb.1 | exact hb.2 | exact hbX.1 | exact hbX.2 | (dsimp only; omega)) (by first | omega | exact hb.1 | exact hb.2 | exact hbX.1 | exact hbX.2 | (dsimp only; omega)))).comp Thing.l0) rfl rfl))) ?_
   refine Plan_float 13 rfl rfl (by kernel_rfl) (OK_s (EX_s (PS_build pl48 zv48 rfl (.cons Ing.Event.l0 rfl rfl rfl (.cons Ing.Event.l3 rfl rfl rfl (.cons Ing.Event.l8 rfl rfl rfl (.cons Ing.Event.l9 rfl rfl rfl .nil))))))) ?_
   refine Plan_chain 14 rfl (by kernel_rfl) ?_
   refine GL_callL rfl cf17 (.cons rfl (.cons rfl .nil)) (.cons .head (.cons .head .nil)) (rules_turn_happens_spec _ (X.place ((Turn.pickL (T.box o.second).1.w (T.box o.second).1.own o.nth o.name o.all_).getD k.toNat 0) 2 (T.box o.second).2.1) _ { Turn.evk 5 with thing := ((X.place ((Turn.pickL (T.box o.second).1.w (T.box o.second).1.own o.nth o.name o.all_).getD k.toNat 0) 2 (T.box o.second).2.1).w.things.at ((Turn.pickL (T.box o.second).1.w (T.box o.second).1.own o.nth o.name o.all_).getD k.toNat 0)).name, text := ((X.place ((Turn.pickL (T.box o.second).1.w (T.box o.second).1.own o.nth o.name o.all_).getD k.toNat 0) 2 (T.box o.second).2.1).w.things.at (T.box o.second).2.1).name } (by assumption) hbX (show (-1 : Int) < 6 by decide) (show X.out.length ≤ 100000 by omega)) (fun v42 B hv => ?_)
   obtain ⟨y43, rfl, y44, rfl⟩ := hv
   refine GL_hand rfl ⟨?_, ?_⟩
   · exact (Pend_skip (by kernel_rfl) (Pend_skip (by kernel_rfl) (Pend_skip (by kernel_rfl) (Pend_skip (by kernel_rfl) (Pend_skip (by kernel_rfl) (Pend_skip (by kernel_rfl) (Pend_skip (by kernel_rfl) (Pend_skip (by kernel_rfl) (Pend_skip (by kernel_rfl) (Pend_skip (by kernel_rfl) (Pend_skip (by kernel_rfl) (Pend_skip (by kernel_rfl) (Pend_skip (by kernel_rfl) (Pend_skip (by kernel_rfl) Pend_nil))))))))))))))
   refine Plan_end (by kernel_rfl) ?_
   refine GQ_sub (.cons (k := 0) rfl (.cons (k := 3) rfl (.cons (k := 4) rfl (.cons (k := 47) rfl (.cons (k := 48) rfl (.cons (k := 49) rfl (.nil _))))))) ?_
   refine GQ_block ?_
   refine GQ_block ?_
   refine GQ_then ?_
   refine G_region ?_
   refine GL_step rfl (PS_add rfl rfl (IntWalk.i64_in _ (by first | omega | exact hb.1 | exact hb.2 | exact hbX.1 | exact hbX.2 | (dsimp only; omega)))) ?_
   refine GL_step rfl (PS_move rfl) ?_
   refine GL_nil ?_
   refine GQ_sub (.cons (k := 0) rfl (.cons (k := 3) rfl (.cons (k := 4) rfl (.cons (k := 47) rfl (.cons (k := 48) rfl (.cons (k := 49) rfl (.nil _))))))) ?_
   refine GQ_next3_ (k + 1) _ _ ?_ ?_ (.cons (k := 49) rfl (.cons (k := 0) rfl (.cons (k := 3) rfl (.cons (k := 4) rfl (.cons (k := 47) rfl (.cons (k := 48) rfl (.nil _))))))) (.refl _)
   · have hq : X.letOne o.verb (T.box o.second).2.1 ((Turn.pickL (T.box o.second).1.w (T.box o.second).1.own o.nth o.name o.all_).getD k.toNat 0) = _ := ((if_f c10).trans ((if_f c11).trans ((if_f c12).trans (if_f c13))))
     have hol := Turn.letOne_out X o.verb (T.box o.second).2.1 ((Turn.pickL (T.box o.second).1.w (T.box o.second).1.own o.nth o.name o.all_).getD k.toNat 0)
     have hob := Turn.letOne_b X o.verb (T.box o.second).2.1 ((Turn.pickL (T.box o.second).1.w (T.box o.second).1.own o.nth o.name o.all_).getD k.toNat 0)
     (try rw [Turn.place_name hx.1 hx.2] at *)
     (try rw [Turn.place_name' hx.1 hx.2 (show 0 ≤ (T.box o.second).2.1 by omega)] at *)
     exact ⟨by omega, by omega, by rw [hI13, Turn.letAll_step hI11 (by omega), hq]; (try rfl), (by rw [hq] at hob; exact hob.trans hI14), (by rw [hq] at hol; first | omega | (simp only [Turn.tell_len] at *; omega)), by assumption, hI17⟩
   · omega
  have c9p := kz c9
  obtain rfl : k = ((Turn.pickL (T.box o.second).1.w (T.box o.second).1.own o.nth o.name o.all_).length : Int) := by omega
  rw [Turn.drop_end] at hI13
  refine G_exit ?_
  refine GQ_then_exit ?_
  refine GQ_then_exit ?_
  refine GQ_block_exit ?_
  refine GQ_end rfl .nil ?_
  intro w1 hS
  have hS := (hS.perm (Pulls.perm (.cons .head (.cons .head .nil)))).headL
  refine ⟨_, ⟨?gq3, rfl, ?hl3, ?hB3⟩, hS⟩
  case hB3 => rw [hI13]; rfl
  case hl3 => rw [hI13]; exact hI16
 have c1p := kz c1
 refine G_seq ?_
 refine G_region ?_
 refine GL_step rfl (PS_eql rfl rfl) ?_
 refine GL_step rfl (PS_assign rfl) ?_
 refine GL_nil ?_
 refine GQ_sub (.cons (k := 0) rfl (.cons (k := 3) rfl (.cons (k := 4) rfl (.cons (k := 5) rfl (.cons (k := 21) rfl (.nil _)))))) ?_
 refine GQ_then ?_
 refine G_cond rfl (fun c14 => ?_) (fun c14 => ?_)
 ·
  have c14p := kz c14
  refine G_region ?_
  refine GL_step rfl (PS_move rfl) ?_
  refine GL_step rfl (PS_fieldAddr fa36_4 rfl) ?_
  refine GL_step rfl (PS_load rfl tys9 (.head _) Order.l4 rfl rfl) ?_
  refine GL_callR rfl cf39 (.cons rfl (.cons rfl .nil)) (.cons (.tail .head) (.cons (.tail .head) .nil)) (rules_turn_somebody_spec _ T _ _ hg hF hu (by omega)) (fun w hS => ⟨gl0.pull gm0 hS (.cons (.tail .head) (.cons (.tail .head) .nil)), gl1.pull gm1 hS (.cons (.tail .head) (.cons (.tail .head) .nil))⟩) (fun v45 B hv => ?_)
  obtain ⟨y46, rfl, y47, rfl⟩ := hv
  refine GL_step rfl (PS_move rfl) ?_
  refine GL_step rfl (PS_extract rfl rfl) ?_
  refine GL_step rfl (PS_extract rfl rfl) ?_
  refine GL_step rfl (PS_assign rfl) ?_
  refine GL_step rfl (PS_assign rfl) ?_
  refine GL_nil ?_
  refine GQ_sub (.cons (k := 0) rfl (.cons (k := 3) rfl (.cons (k := 4) rfl (.cons (k := 5) rfl (.nil _))))) ?_
  refine GQ_block ?_
  refine GQ_then ?_
  refine G_seq ?_
  refine G_seq ?_
  refine G_region ?_
  refine GL_step rfl (PS_move rfl) ?_
  refine GL_step rfl (PS_not rfl) ?_
  refine GL_nil ?_
  refine GQ_sub (.cons (k := 0) rfl (.cons (k := 3) rfl (.cons (k := 4) rfl (.cons (k := 31) rfl (.nil _))))) ?_
  refine GQ_then ?_
  refine G_cond rfl (fun c15 => ?_) (fun c15 => ?_)
  ·
   have c15p := kz c15
   refine G_ret ?_
   refine GQ_then_ret ?_
   refine GQ_ret rfl .nil ?_
   intro w1 hS
   have hS := (hS.perm (Pulls.perm (.cons .head (.cons .head .nil)))).headL
   have ht : T.letTo o = (T.somebody o.second) := (if_f c1).trans (if_t c14)
   have hq : T.letGo o = (T.somebody o.second).1 := (show T.letGo o = (T.letTo o).1 from if_pos (by rw [ht]; exact c15)).trans (by rw [ht])
   refine ⟨_, ⟨?gq4, rfl, ?hl4, ?hB4⟩, hS⟩
   case hB4 => rw [hq]; (try rfl)
   case hl4 => rw [hq]; assumption
  have c15p := kz c15
  refine G_skip ?_
  refine GQ_sub (.cons (k := 0) rfl (.cons (k := 3) rfl (.cons (k := 4) rfl (.nil _)))) ?_
  refine GQ_then ?_
  refine G_seq ?_
  refine G_planN (N := 11) [0, 0, 2, 0, 8, 0, 32, 0, 128, 511, 1023] mix (by kernel_rfl) rfl ?_
  refine Plan_float 0 rfl rfl (by kernel_rfl) (OK_s (EX_s (PS_move rfl))) ?_
  refine Plan_float 1 rfl rfl (by kernel_rfl) (OK_s (EX_s (PS_move rfl))) ?_
  refine Plan_float 3 rfl rfl (by kernel_rfl) (OK_s (EX_s (PS_fieldAddr fa36_1 rfl))) ?_
  refine Plan_float 4 rfl rfl (by kernel_rfl) (OK_s (EX_s (PS_load rfl tys3 (.tail _ (.tail _ (.head _))) Order.l1 rfl rfl))) ?_
  refine Plan_float 5 rfl rfl (by kernel_rfl) (OK_s (EX_s (PS_fieldAddr fa36_3 rfl))) ?_
  refine Plan_float 6 rfl rfl (by kernel_rfl) (OK_s (EX_s (PS_load rfl tys9 (.tail _ (.tail _ (.head _))) Order.l3 rfl rfl))) ?_
  refine Plan_float 7 rfl rfl (by kernel_rfl) (OK_s (EX_s (PS_fieldAddr fa36_2 rfl))) ?_
  refine Plan_float 8 rfl rfl (by kernel_rfl) (OK_s (EX_s (PS_load rfl tys4 (.tail _ (.tail _ (.head _))) Order.l2 rfl rfl))) ?_
  refine Plan_chain 2 rfl (by kernel_rfl) ?_
  refine GL_callL rfl cf44 (.cons rfl .nil) (.cons .head .nil) (rules_turn_own_spec _ (T.somebody o.second).1 _ (hF.of_w (T.somebody_w _).1 (T.somebody_w _).2)) (fun v48 B hv => ?_)
  obtain ⟨y49, rfl, y50, rfl⟩ := hv
  refine GL_hand rfl ⟨?_, ?_⟩
  · exact (Pend_okv rfl (OK_s (EX_s (PS_load rfl tys4 (.tail _ (.tail _ (.tail _ (.head _)))) Order.l2 rfl rfl))) rfl rfl (Pend_okv rfl (OK_s (EX_s (PS_fieldAddr fa36_2 rfl))) rfl rfl (Pend_okv rfl (OK_s (EX_s (PS_load rfl tys9 (.tail _ (.tail _ (.tail _ (.head _)))) Order.l3 rfl rfl))) rfl rfl (Pend_okv rfl (OK_s (EX_s (PS_fieldAddr fa36_3 rfl))) rfl rfl (Pend_okv rfl (OK_s (EX_s (PS_load rfl tys3 (.tail _ (.tail _ (.tail _ (.head _)))) Order.l1 rfl rfl))) rfl rfl (Pend_okv rfl (OK_s (EX_s (PS_fieldAddr fa36_1 rfl))) rfl rfl (Pend_skip (by kernel_rfl) (Pend_okv rfl (OK_s (EX_s (PS_move rfl))) rfl rfl Pend_nil))))))))
  refine Plan_chain 9 rfl (by kernel_rfl) ?_
  refine GL_callL rfl cf42 (.cons rfl (.cons rfl (.cons rfl (.cons rfl (.cons rfl .nil))))) (.cons .head (.cons .head .nil)) (rules_turn_pick_spec _ (T.somebody o.second).1 _ _ (Turn.own (T.somebody o.second).1) _ _ _ (hF.of_w (T.somebody_w _).1 (T.somebody_w _).2) (by assumption) (Nat.le_trans (Turn.own_len (T.somebody o.second).1) (by decide)) (fun i hi => Turn.own_rng hi)) (fun v52 B hv => ?_)
  obtain ⟨y53, rfl, y54, rfl⟩ := hv
  refine GL_hand rfl ⟨?_, ?_⟩
  · exact (Pend_skip (by kernel_rfl) (Pend_skip (by kernel_rfl) (Pend_skip (by kernel_rfl) (Pend_skip (by kernel_rfl) (Pend_skip (by kernel_rfl) (Pend_skip (by kernel_rfl) (Pend_skip (by kernel_rfl) (Pend_skip (by kernel_rfl) Pend_nil))))))))
  refine Plan_float 10 rfl rfl (by kernel_rfl) (OK_s (EX_s (PS_assign rfl))) ?_
  refine Plan_end (by kernel_rfl) ?_
  refine GQ_sub (.cons (k := 0) rfl (.cons (k := 3) rfl (.cons (k := 4) rfl (.cons (k := 6) rfl (.nil _))))) ?_
  refine GQ_then ?_
  refine G_seq ?_
  refine G_seq ?_
  refine G_region ?_
  refine GL_step rfl (PS_move rfl) ?_
  refine GL_step rfl (PS_len_slice rfl Tryd.underlying58 rfl) ?_
  refine GL_step rfl (PS_eql rfl rfl) ?_
  refine GL_nil ?_
  refine GQ_sub (.cons (k := 0) rfl (.cons (k := 3) rfl (.cons (k := 4) rfl (.cons (k := 6) rfl (.cons (k := 44) rfl (.nil _)))))) ?_
  refine GQ_then ?_
  refine G_cond rfl (fun c16 => ?_) (fun c16 => ?_)
  ·
   have c16p := kz c16
   rw [y54] at c16
   refine G_region ?_
   refine GL_step rfl (PS_move rfl) ?_
   refine GL_callL rfl cf32 (.cons rfl (.cons rfl .nil)) (.cons .head (.cons (.tail (.tail .head)) .nil)) (rules_turn_tell_spec _ (T.somebody o.second).1 _ _ (by assumption) (by rw [(T.somebody_w _).2]; exact hb) (by have := T.box_out o.second; have := T.somebody_out o.second; omega)) (fun v56 B hv => ?_)
   obtain ⟨y57, rfl, y58, rfl⟩ := hv
   refine GL_nil ?_
   refine GQ_sub (.cons (k := 0) rfl (.cons (k := 3) rfl (.cons (k := 4) rfl (.cons (k := 6) rfl (.nil _))))) ?_
   refine GQ_then ?_
   refine G_seq ?_
   refine G_region ?_
   refine GL_step rfl (PS_move rfl) ?_
   refine GL_step rfl (PS_len_slice rfl Tryd.underlying58 rfl) ?_
   refine GL_step rfl (PS_move rfl) ?_
   refine GL_nil ?_
   refine GQ_sub (.cons (k := 0) rfl (.cons (k := 3) rfl (.cons (k := 4) rfl (.cons (k := 47) rfl (.cons (k := 48) rfl (.cons (k := 49) rfl (.nil _))))))) ?_
   refine GQ_then ?_
   refine G_block ?_
   refine G_subF (.cons (k := 49) rfl (.cons (k := 0) rfl (.cons (k := 3) rfl (.cons (k := 4) rfl (.cons (k := 47) rfl (.cons (k := 48) rfl (.nil _))))))) ?_
   refine G_pull (.tail .head) ?_
   refine G_pull (.tail .head) ?_
   refine G_loop3_ (fun (k : Int) (X : Turn) (h : Hd) => 0 ≤ k ∧ k ≤ ((Turn.pickL (T.somebody o.second).1.w (T.somebody o.second).1.own o.nth o.name o.all_).length : Int) ∧ T.letGo o = X.letAll o.verb (T.somebody o.second).2.1 ((Turn.pickL (T.somebody o.second).1.w (T.somebody o.second).1.own o.nth o.name o.all_).drop k.toNat) ∧ X.b = T.b ∧ (X.out.length : Int) ≤ T.out.length + 2 + k ∧ h.len = X.out.length ∧ ((Turn.pickL (T.somebody o.second).1.w (T.somebody o.second).1.own o.nth o.name o.all_).length : Int) ≤ 9) (fun (k : Int) (X : Turn) (h : Hd) => (((Turn.pickL (T.somebody o.second).1.w (T.somebody o.second).1.own o.nth o.name o.all_).length : Int) - k).toNat) (fun (k : Int) (X : Turn) (h : Hd) => [(49, .int .i64 k)]) (fun (k : Int) (X : Turn) (h : Hd) => [Res.box b 55 (TurnV.enc ⟨X.w, X.b, h⟩), Res.own h 48 16 (X.out.flatMap Ing.Event.enc)]) (0) (_) (_) ?_ rfl rfl (fun k X h hI1 => ?_)
   · have ht : T.letTo o = (T.somebody o.second) := (if_f c1).trans (if_t c14)
     have hgo : T.letGo o = (T.somebody o.second).1.letL (T.somebody o.second).2.1 o := (show T.letGo o = (T.letTo o).1.letL (T.letTo o).2.1 o from if_neg (by rw [ht]; simpa using c15)).trans (by rw [ht])
     exact ⟨by omega, by omega, hgo.trans (congrArg (fun q => Turn.letAll q _ _ _) (if_t c16)), (T.somebody_w _).2, by have := T.box_out o.second; have := T.somebody_out o.second; (try simp only [Turn.tell_len]); omega, by assumption, by have := (Turn.pickL_sub (T.somebody o.second).1.w (T.somebody o.second).1.own o.nth o.name o.all_).length_le; have := Turn.own_len (T.somebody o.second).1; omega⟩
   obtain ⟨hI11, hI12, hI13, hI14, hI15, hI16, hI17⟩ := hI1
   refine G_seq ?_
   refine G_region ?_
   refine GL_step rfl (PS_lss rfl rfl) ?_
   refine GL_nil ?_
   refine GQ_then ?_
   refine G_seq ?_
   refine G_cond rfl (fun c17 => ?_) (fun c17 => ?_)
   ·
    have c17p := kz c17
    have hx : 0 ≤ (Turn.pickL (T.somebody o.second).1.w (T.somebody o.second).1.own o.nth o.name o.all_).getD k.toNat 0 ∧ (Turn.pickL (T.somebody o.second).1.w (T.somebody o.second).1.own o.nth o.name o.all_).getD k.toNat 0 < 9 := Turn.own_rng (Turn.pickL_mem (Line.getD_memI (xs := (Turn.pickL (T.somebody o.second).1.w (T.somebody o.second).1.own o.nth o.name o.all_)) (i := k.toNat) (by omega)))
    have hbX : 0 ≤ X.b ∧ X.b < 6 := by rw [hI14]; exact hb
    refine G_skip ?_
    refine GQ_sub (.cons (k := 0) rfl (.cons (k := 3) rfl (.cons (k := 4) rfl (.cons (k := 47) rfl (.cons (k := 48) rfl (.cons (k := 49) rfl (.nil _))))))) ?_
    refine GQ_then ?_
    refine G_seq ?_
    refine G_block ?_
    refine G_seq ?_
    refine G_region ?_
    refine GL_step rfl (PS_idxS is58 (by decide) (Kn.own (.tail _ (.tail _ (.tail _ (.head _))))) rfl rfl (by omega) (by omega)) ?_
    refine GL_step rfl (PS_ldInt rfl tys3 (Kn.own (.tail _ (.tail _ (.tail _ (.head _))))) (by omega)) ?_
    refine GL_step rfl (PS_assign rfl) ?_
    refine GL_nil ?_
    refine GQ_sub (.cons (k := 0) rfl (.cons (k := 3) rfl (.cons (k := 4) rfl (.cons (k := 8) rfl (.cons (k := 47) rfl (.cons (k := 48) rfl (.cons (k := 49) rfl (.nil _)))))))) ?_
    refine GQ_then ?_
    refine G_seq ?_
    refine G_region ?_
    refine GL_step rfl (PS_move rfl) ?_
    refine GL_step rfl (PS_move rfl) ?_
    refine GL_step rfl (PS_nilCheck rfl) ?_
    refine GL_step rfl (PS_fieldAddr fa55_0 rfl) ?_
    refine GL_step rfl (PS_fieldAddr fa34_1 rfl) ?_
    refine GL_step rfl (PS_indexAddr ia29 rfl rfl (by first | omega | exact hb.1 | exact hb.2 | exact hbX.1 | exact hbX.2 | (dsimp only; omega)) (by first | omega | exact hb.1 | exact hb.2 | exact hbX.1 | exact hbX.2 | (dsimp only; omega))) ?_
    refine GL_step rfl (PS_assign rfl) ?_
    refine GL_nil ?_
    refine GQ_sub (.cons (k := 0) rfl (.cons (k := 3) rfl (.cons (k := 4) rfl (.cons (k := 8) rfl (.cons (k := 9) rfl (.cons (k := 47) rfl (.cons (k := 48) rfl (.cons (k := 49) rfl (.nil _))))))))) ?_
    refine GQ_then ?_
    refine G_block ?_
    refine G_seq ?_
    refine G_region ?_
    refine GL_step rfl (PS_move rfl) ?_
    refine GL_step rfl (PS_nilCheck rfl) ?_
    refine GL_step rfl (PS_fieldAddr fa28_1 rfl) ?_
    refine GL_step rfl (PS_load rfl tys3 (.head _) (((TurnV.l0.comp Land.l1).comp (Lens.arr (n := 9) Thing.fl (by first | omega | exact hb.1 | exact hb.2 | exact hbX.1 | exact hbX.2 | (dsimp only; omega)) (by first | omega | exact hb.1 | exact hb.2 | exact hbX.1 | exact hbX.2 | (dsimp only; omega)))).comp Thing.l1) rfl rfl) ?_
    refine GL_step rfl (PS_eql rfl rfl) ?_
    refine GL_step rfl (PS_move rfl) ?_
    refine GL_gt (t := 87) rfl rfl rfl (fun q => PS_move rfl) ?_
    refine GL_gt (t := 87) rfl rfl rfl (fun q => PS_nilCheck (cvE rfl q)) ?_
    refine GL_gt (t := 87) rfl rfl rfl (fun q => PS_fieldAddr fa28_4 (cvE rfl q)) ?_
    refine GL_gt (t := 87) rfl rfl rfl (fun q => by have q1 := q; (try simp at q1); exact PS_load (cvE rfl q) tys4 (.head _) (((TurnV.l0.comp Land.l1).comp (Lens.arr (n := 9) Thing.fl (by first | omega | exact hb.1 | exact hb.2 | exact hbX.1 | exact hbX.2 | (dsimp only; omega)) (by first | omega | exact hb.1 | exact hb.2 | exact hbX.1 | exact hbX.2 | (dsimp only; omega)))).comp Thing.l4) rfl rfl) ?_
    refine GL_step rfl (PS_and rfl rfl (fun h => h)) ?_
    refine GL_step rfl (PS_assign rfl) ?_
    refine GL_nil ?_
    refine GQ_sub (.cons (k := 0) rfl (.cons (k := 3) rfl (.cons (k := 4) rfl (.cons (k := 8) rfl (.cons (k := 9) rfl (.cons (k := 47) rfl (.cons (k := 48) rfl (.cons (k := 49) rfl (.cons (k := 81) rfl (.nil _)))))))))) ?_
    refine GQ_then ?_
    refine G_cond rfl (fun c18 => ?_) (fun c18 => ?_)
    ·
     have c18p := kz c18
     refine G_region ?_
     refine GL_step rfl (PS_move rfl) ?_
     refine GL_callL rfl cf32 (.cons rfl (.cons rfl .nil)) (.cons .head (.cons .head .nil)) (rules_turn_tell_spec _ X _ _ (by assumption) (by rw [hI14]; exact hb) (by omega)) (fun v59 B hv => ?_)
     obtain ⟨y60, rfl, y61, rfl⟩ := hv
     refine GL_nil ?_
     refine GQ_sub (.cons (k := 0) rfl (.cons (k := 3) rfl (.cons (k := 4) rfl (.cons (k := 47) rfl (.cons (k := 48) rfl (.cons (k := 49) rfl (.nil _))))))) ?_
     refine GQ_block ?_
     refine GQ_block ?_
     refine GQ_then ?_
     refine G_region ?_
     refine GL_step rfl (PS_add rfl rfl (IntWalk.i64_in _ (by first | omega | exact hb.1 | exact hb.2 | exact hbX.1 | exact hbX.2 | (dsimp only; omega)))) ?_
     refine GL_step rfl (PS_move rfl) ?_
     refine GL_nil ?_
     refine GQ_sub (.cons (k := 0) rfl (.cons (k := 3) rfl (.cons (k := 4) rfl (.cons (k := 47) rfl (.cons (k := 48) rfl (.cons (k := 49) rfl (.nil _))))))) ?_
     refine GQ_next3_ (k + 1) _ _ ?_ ?_ (.cons (k := 49) rfl (.cons (k := 0) rfl (.cons (k := 3) rfl (.cons (k := 4) rfl (.cons (k := 47) rfl (.cons (k := 48) rfl (.nil _))))))) (.refl _)
     · have hq : X.letOne o.verb (T.somebody o.second).2.1 ((Turn.pickL (T.somebody o.second).1.w (T.somebody o.second).1.own o.nth o.name o.all_).getD k.toNat 0) = _ := (if_t c18)
       have hol := Turn.letOne_out X o.verb (T.somebody o.second).2.1 ((Turn.pickL (T.somebody o.second).1.w (T.somebody o.second).1.own o.nth o.name o.all_).getD k.toNat 0)
       have hob := Turn.letOne_b X o.verb (T.somebody o.second).2.1 ((Turn.pickL (T.somebody o.second).1.w (T.somebody o.second).1.own o.nth o.name o.all_).getD k.toNat 0)
       (try rw [Turn.place_name hx.1 hx.2] at *)
       (try rw [Turn.place_name' hx.1 hx.2 (show 0 ≤ (T.somebody o.second).2.1 by omega)] at *)
       exact ⟨by omega, by omega, by rw [hI13, Turn.letAll_step hI11 (by omega), hq]; (try rfl), (by rw [hq] at hob; exact hob.trans hI14), (by rw [hq] at hol; first | omega | (simp only [Turn.tell_len] at *; omega)), by assumption, hI17⟩
     · omega
    have c18p := kz c18
    refine G_seq ?_
    refine G_region ?_
    refine GL_step rfl (PS_fieldAddr fa36_0 rfl) ?_
    refine GL_step rfl (PS_load rfl tys3 (.tail _ (.tail _ (.tail _ (.tail _ (.head _))))) Order.l0 rfl rfl) ?_
    refine GL_step rfl (PS_eql rfl rfl) ?_
    refine GL_step rfl (PS_assign rfl) ?_
    refine GL_nil ?_
    refine GQ_sub (.cons (k := 0) rfl (.cons (k := 3) rfl (.cons (k := 4) rfl (.cons (k := 8) rfl (.cons (k := 9) rfl (.cons (k := 47) rfl (.cons (k := 48) rfl (.cons (k := 49) rfl (.cons (k := 95) rfl (.nil _)))))))))) ?_
    refine GQ_then ?_
    refine G_cond rfl (fun c19 => ?_) (fun c19 => ?_)
    ·
     have c19p := kz c19
     refine G_seq ?_
     refine G_planN (N := 19) [0, 0, 0, 0, 8, 24, 56, 4, 132, 388, 1020, 2044, 4092, 8189, 16381, 32765, 65535, 131071, 262143] mix (by kernel_rfl) rfl ?_
     refine Plan_float 0 rfl rfl (by kernel_rfl) (OK_s (EX_s (PS_move rfl))) ?_
     refine Plan_float 1 rfl rfl (by kernel_rfl) (OK_s (EX_s (PS_move rfl))) ?_
     refine Plan_float 2 rfl rfl (by kernel_rfl) (OK_s (EX_s (PS_move rfl))) ?_
     refine Plan_float 3 rfl rfl (by kernel_rfl) (OK_s (EX_s (PS_move rfl))) ?_
     refine Plan_float 4 rfl rfl (by kernel_rfl) (OK_s (EX_s (PS_nilCheck rfl))) ?_
     refine Plan_float 5 rfl rfl (by kernel_rfl) (OK_s (EX_s (PS_fieldAddr fa55_1 rfl))) ?_
     refine Plan_float 6 rfl rfl (by kernel_rfl) (OK_s (EX_s (PS_load rfl tys3 (.head _) TurnV.l1 rfl rfl))) ?_
     refine Plan_float 7 rfl rfl (by kernel_rfl) (OK_s (EX_s (PS_nilCheck rfl))) ?_
     refine Plan_float 8 rfl rfl (by kernel_rfl) (OK_s (EX_s (PS_fieldAddr fa55_0 rfl))) ?_
     refine Plan_float 9 rfl rfl (by kernel_rfl) (OK_s (EX_s (PS_fieldAddr fa34_2 rfl))) ?_
     refine Plan_float 10 rfl rfl (by kernel_rfl) (OK_s (EX_s (PS_indexAddr ia32 rfl rfl (by first | omega | exact hb.1 | exact hb.2 | exact hbX.1 | exact hbX.2 | (dsimp only; omega)) (by first | omega | exact hb.1 | exact hb.2 | exact hbX.1 | exact hbX.2 | (dsimp only; omega))))) ?_
     refine Plan_float 11 rfl rfl (by kernel_rfl) (OK_s (EX_s (PS_fieldAddr fa31_3 rfl))) ?_
     refine Plan_float 12 rfl rfl (by kernel_rfl) (OK_s (EX_s (PS_load rfl tys3 (.head _) (((TurnV.l0.comp Land.l2).comp (Lens.arr (n := 6) Being.fl (by first | omega | exact hb.1 | exact hb.2 | exact hbX.1 | exact hbX.2 | (dsimp only; omega)) (by first | omega | exact hb.1 | exact hb.2 | exact hbX.1 | exact hbX.2 | (dsimp only; omega)))).comp Being.l3) rfl rfl))) ?_
     refine Plan_float 13 rfl rfl (by kernel_rfl) (OK_s (EX_s (PS_nilCheck rfl))) ?_
     refine Plan_float 14 rfl rfl (by kernel_rfl) (OK_s (EX_s (PS_fieldAddr fa28_2 rfl))) ?_
     refine Plan_chain 15 rfl (by kernel_rfl) ?_
     refine GL_unit (PU_store (((TurnV.l0.comp Land.l1).comp (Lens.arr (n := 9) Thing.fl (by first | omega | exact hb.1 | exact hb.2 | exact hbX.1 | exact hbX.2 | (dsimp only; omega)) (by first | omega | exact hb.1 | exact hb.2 | exact hbX.1 | exact hbX.2 | (dsimp only; omega)))).comp Thing.l2) rfl rfl rfl sz3 rfl .head) ?_
     refine GL_hand0 rfl ⟨?_, ?_⟩
     · exact (Pend_skip (by kernel_rfl) (Pend_skip (by kernel_rfl) (Pend_skip (by kernel_rfl) (Pend_skip (by kernel_rfl) (Pend_skip (by kernel_rfl) (Pend_skip (by kernel_rfl) (Pend_skip (by kernel_rfl) (Pend_skip (by kernel_rfl) (Pend_skip (by kernel_rfl) (Pend_skip (by kernel_rfl) (Pend_skip (by kernel_rfl) (Pend_skip (by kernel_rfl) (Pend_skip (by kernel_rfl) (Pend_okv rfl (OK_s (EX_s (PS_move rfl))) rfl rfl (Pend_skip (by kernel_rfl) Pend_nil)))))))))))))))
     refine Plan_float 16 rfl rfl (by kernel_rfl) (OK_s (EX_s (PS_nilCheck rfl))) ?_
     refine Plan_float 17 rfl rfl (by kernel_rfl) (OK_s (EX_s (PS_fieldAddr fa28_3 rfl))) ?_
     refine Plan_chain 18 rfl (by kernel_rfl) ?_
     refine GL_unit (PU_store (((TurnV.l0.comp Land.l1).comp (Lens.arr (n := 9) Thing.fl (by first | omega | exact hb.1 | exact hb.2 | exact hbX.1 | exact hbX.2 | (dsimp only; omega)) (by first | omega | exact hb.1 | exact hb.2 | exact hbX.1 | exact hbX.2 | (dsimp only; omega)))).comp Thing.l3) rfl rfl rfl sz3 rfl .head) ?_
     refine GL_hand0 rfl ⟨?_, ?_⟩
     · exact (Pend_skip (by kernel_rfl) (Pend_skip (by kernel_rfl) (Pend_skip (by kernel_rfl) (Pend_skip (by kernel_rfl) (Pend_skip (by kernel_rfl) (Pend_skip (by kernel_rfl) (Pend_skip (by kernel_rfl) (Pend_skip (by kernel_rfl) (Pend_skip (by kernel_rfl) (Pend_skip (by kernel_rfl) (Pend_skip (by kernel_rfl) (Pend_skip (by kernel_rfl) (Pend_skip (by kernel_rfl) (Pend_skip (by kernel_rfl) (Pend_skip (by kernel_rfl) (Pend_skip (by kernel_rfl) (Pend_skip (by kernel_rfl) Pend_nil)))))))))))))))))
     refine Plan_end (by kernel_rfl) ?_
     refine GQ_sub (.cons (k := 0) rfl (.cons (k := 3) rfl (.cons (k := 4) rfl (.cons (k := 8) rfl (.cons (k := 47) rfl (.cons (k := 48) rfl (.cons (k := 49) rfl (.nil _)))))))) ?_
     refine GQ_then ?_
     refine G_swap (fun _ => .head) (congrArg (fun q => TurnV.enc ⟨q, _, _⟩) (Turn.place_eq X hx.1 hx.2 0 (X.w.beings.at X.b).room)) ?_
     refine G_region ?_
     refine GL_step rfl (PS_move rfl) ?_
     refine GL_step rfl (PS_move rfl) ?_
     refine GL_callL rfl cf43 (.cons rfl (.cons rfl (.cons rfl .nil))) (.cons .head (.cons .head .nil)) (rules_turn_thing_spec _ (X.place ((Turn.pickL (T.somebody o.second).1.w (T.somebody o.second).1.own o.nth o.name o.all_).getD k.toNat 0) 0 X.me.room) _ 4 ((Turn.pickL (T.somebody o.second).1.w (T.somebody o.second).1.own o.nth o.name o.all_).getD k.toNat 0) (by assumption) hbX hx (show X.out.length ≤ 100000 by omega)) (fun v62 B hv => ?_)
     obtain ⟨y63, rfl, y64, rfl⟩ := hv
     refine GL_nil ?_
     refine GQ_sub (.cons (k := 0) rfl (.cons (k := 3) rfl (.cons (k := 4) rfl (.cons (k := 47) rfl (.cons (k := 48) rfl (.cons (k := 49) rfl (.nil _))))))) ?_
     refine GQ_block ?_
     refine GQ_block ?_
     refine GQ_then ?_
     refine G_region ?_
     refine GL_step rfl (PS_add rfl rfl (IntWalk.i64_in _ (by first | omega | exact hb.1 | exact hb.2 | exact hbX.1 | exact hbX.2 | (dsimp only; omega)))) ?_
     refine GL_step rfl (PS_move rfl) ?_
     refine GL_nil ?_
     refine GQ_sub (.cons (k := 0) rfl (.cons (k := 3) rfl (.cons (k := 4) rfl (.cons (k := 47) rfl (.cons (k := 48) rfl (.cons (k := 49) rfl (.nil _))))))) ?_
     refine GQ_next3_ (k + 1) _ _ ?_ ?_ (.cons (k := 49) rfl (.cons (k := 0) rfl (.cons (k := 3) rfl (.cons (k := 4) rfl (.cons (k := 47) rfl (.cons (k := 48) rfl (.nil _))))))) (.refl _)
     · have hq : X.letOne o.verb (T.somebody o.second).2.1 ((Turn.pickL (T.somebody o.second).1.w (T.somebody o.second).1.own o.nth o.name o.all_).getD k.toNat 0) = _ := ((if_f c18).trans (if_t c19))
       have hol := Turn.letOne_out X o.verb (T.somebody o.second).2.1 ((Turn.pickL (T.somebody o.second).1.w (T.somebody o.second).1.own o.nth o.name o.all_).getD k.toNat 0)
       have hob := Turn.letOne_b X o.verb (T.somebody o.second).2.1 ((Turn.pickL (T.somebody o.second).1.w (T.somebody o.second).1.own o.nth o.name o.all_).getD k.toNat 0)
       (try rw [Turn.place_name hx.1 hx.2] at *)
       (try rw [Turn.place_name' hx.1 hx.2 (show 0 ≤ (T.somebody o.second).2.1 by omega)] at *)
       exact ⟨by omega, by omega, by rw [hI13, Turn.letAll_step hI11 (by omega), hq]; (try rfl), (by rw [hq] at hob; exact hob.trans hI14), (by rw [hq] at hol; first | omega | (simp only [Turn.tell_len] at *; omega)), by assumption, hI17⟩
     · omega
    have c19p := kz c19
    refine G_seq ?_
    refine G_region ?_
    refine GL_step rfl (PS_fieldAddr fa36_0 rfl) ?_
    refine GL_step rfl (PS_load rfl tys3 (.tail _ (.tail _ (.tail _ (.tail _ (.head _))))) Order.l0 rfl rfl) ?_
    refine GL_step rfl (PS_eql rfl rfl) ?_
    refine GL_step rfl (PS_assign rfl) ?_
    refine GL_nil ?_
    refine GQ_sub (.cons (k := 0) rfl (.cons (k := 3) rfl (.cons (k := 4) rfl (.cons (k := 8) rfl (.cons (k := 9) rfl (.cons (k := 47) rfl (.cons (k := 48) rfl (.cons (k := 49) rfl (.cons (k := 119) rfl (.nil _)))))))))) ?_
    refine GQ_then ?_
    refine G_cond rfl (fun c20 => ?_) (fun c20 => ?_)
    ·
     have c20p := kz c20
     refine G_seq ?_
     refine G_region ?_
     refine GL_step rfl (PS_move rfl) ?_
     refine GL_step rfl (PS_move rfl) ?_
     refine GL_step rfl (PS_move rfl) ?_
     refine GL_step rfl (PS_nilCheck rfl) ?_
     refine GL_step rfl (PS_fieldAddr fa28_2 rfl) ?_
     refine GL_unit (PU_store (((TurnV.l0.comp Land.l1).comp (Lens.arr (n := 9) Thing.fl (by first | omega | exact hb.1 | exact hb.2 | exact hbX.1 | exact hbX.2 | (dsimp only; omega)) (by first | omega | exact hb.1 | exact hb.2 | exact hbX.1 | exact hbX.2 | (dsimp only; omega)))).comp Thing.l2) rfl rfl rfl sz3 rfl .head) ?_
     refine GL_step rfl (PS_nilCheck rfl) ?_
     refine GL_step rfl (PS_fieldAddr fa28_3 rfl) ?_
     refine GL_unit (PU_store (((TurnV.l0.comp Land.l1).comp (Lens.arr (n := 9) Thing.fl (by first | omega | exact hb.1 | exact hb.2 | exact hbX.1 | exact hbX.2 | (dsimp only; omega)) (by first | omega | exact hb.1 | exact hb.2 | exact hbX.1 | exact hbX.2 | (dsimp only; omega)))).comp Thing.l3) rfl rfl rfl sz3 rfl .head) ?_
     refine GL_nil ?_
     refine GQ_sub (.cons (k := 0) rfl (.cons (k := 3) rfl (.cons (k := 4) rfl (.cons (k := 9) rfl (.cons (k := 47) rfl (.cons (k := 48) rfl (.cons (k := 49) rfl (.nil _)))))))) ?_
     refine GQ_then ?_
     refine G_swap (fun _ => .head) (congrArg (fun q => TurnV.enc ⟨q, _, _⟩) (Turn.place_eq X hx.1 hx.2 1 (T.somebody o.second).2.1)) ?_
     refine G_region ?_
     refine GL_step rfl (PS_move rfl) ?_
     refine GL_step rfl (PS_move rfl) ?_
     refine GL_step rfl (PS_move rfl) ?_
     refine GL_step rfl (PS_nilCheck rfl) ?_
     refine GL_step rfl (PS_fieldAddr fa28_0 rfl) ?_
     refine GL_step rfl (PS_load rfl tys9 (.head _) (((TurnV.l0.comp Land.l1).comp (Lens.arr (n := 9) Thing.fl (by first | omega | exact hb.1 | exact hb.2 | exact hbX.1 | exact hbX.2 | (dsimp only; omega)) (by first | omega | exact hb.1 | exact hb.2 | exact hbX.1 | exact hbX.2 | (dsimp only; omega)))).comp Thing.l0) rfl rfl) ?_
     refine GL_step rfl (PS_build pl48 zv48 rfl (.cons Ing.Event.l0 rfl rfl rfl (.cons Ing.Event.l3 rfl rfl rfl (.cons Ing.Event.l8 rfl rfl rfl .nil)))) ?_
     refine GL_callL rfl cf17 (.cons rfl (.cons rfl .nil)) (.cons .head (.cons .head .nil)) (rules_turn_happens_spec _ (X.place ((Turn.pickL (T.somebody o.second).1.w (T.somebody o.second).1.own o.nth o.name o.all_).getD k.toNat 0) 1 (T.somebody o.second).2.1) _ { Turn.evk 6 with other := (T.somebody o.second).2.1, thing := ((X.place ((Turn.pickL (T.somebody o.second).1.w (T.somebody o.second).1.own o.nth o.name o.all_).getD k.toNat 0) 1 (T.somebody o.second).2.1).w.things.at ((Turn.pickL (T.somebody o.second).1.w (T.somebody o.second).1.own o.nth o.name o.all_).getD k.toNat 0)).name } (by assumption) hbX (show (T.somebody o.second).2.1 < 6 by omega) (show X.out.length ≤ 100000 by omega)) (fun v65 B hv => ?_)
     obtain ⟨y66, rfl, y67, rfl⟩ := hv
     refine GL_nil ?_
     refine GQ_sub (.cons (k := 0) rfl (.cons (k := 3) rfl (.cons (k := 4) rfl (.cons (k := 47) rfl (.cons (k := 48) rfl (.cons (k := 49) rfl (.nil _))))))) ?_
     refine GQ_block ?_
     refine GQ_block ?_
     refine GQ_then ?_
     refine G_region ?_
     refine GL_step rfl (PS_add rfl rfl (IntWalk.i64_in _ (by first | omega | exact hb.1 | exact hb.2 | exact hbX.1 | exact hbX.2 | (dsimp only; omega)))) ?_
     refine GL_step rfl (PS_move rfl) ?_
     refine GL_nil ?_
     refine GQ_sub (.cons (k := 0) rfl (.cons (k := 3) rfl (.cons (k := 4) rfl (.cons (k := 47) rfl (.cons (k := 48) rfl (.cons (k := 49) rfl (.nil _))))))) ?_
     refine GQ_next3_ (k + 1) _ _ ?_ ?_ (.cons (k := 49) rfl (.cons (k := 0) rfl (.cons (k := 3) rfl (.cons (k := 4) rfl (.cons (k := 47) rfl (.cons (k := 48) rfl (.nil _))))))) (.refl _)
     · have hq : X.letOne o.verb (T.somebody o.second).2.1 ((Turn.pickL (T.somebody o.second).1.w (T.somebody o.second).1.own o.nth o.name o.all_).getD k.toNat 0) = _ := ((if_f c18).trans ((if_f c19).trans (if_t c20)))
       have hol := Turn.letOne_out X o.verb (T.somebody o.second).2.1 ((Turn.pickL (T.somebody o.second).1.w (T.somebody o.second).1.own o.nth o.name o.all_).getD k.toNat 0)
       have hob := Turn.letOne_b X o.verb (T.somebody o.second).2.1 ((Turn.pickL (T.somebody o.second).1.w (T.somebody o.second).1.own o.nth o.name o.all_).getD k.toNat 0)
       (try rw [Turn.place_name hx.1 hx.2] at *)
       (try rw [Turn.place_name' hx.1 hx.2 (show 0 ≤ (T.somebody o.second).2.1 by omega)] at *)
       exact ⟨by omega, by omega, by rw [hI13, Turn.letAll_step hI11 (by omega), hq]; (try rfl), (by rw [hq] at hob; exact hob.trans hI14), (by rw [hq] at hol; first | omega | (simp only [Turn.tell_len] at *; omega)), by assumption, hI17⟩
     · omega
    have c20p := kz c20
    refine G_seq ?_
    refine G_region ?_
    refine GL_step rfl (PS_move rfl) ?_
    refine GL_step rfl (PS_nilCheck rfl) ?_
    refine GL_step rfl (PS_fieldAddr fa55_0 rfl) ?_
    refine GL_step rfl (PS_loadA rfl tya34 (.head _) TurnV.l0 rfl) ?_
    refine GL_step rfl (PS_move rfl) ?_
    refine GL_step rfl (PS_move rfl) ?_
    refine GL_pure rfl cf45 (.cons rfl (.cons rfl (.cons rfl .nil))) (fun w hS => land_Inside_spec _ _ _ w) ?_
    refine GL_step rfl (PS_assign rfl) ?_
    refine GL_nil ?_
    refine GQ_sub (.cons (k := 0) rfl (.cons (k := 3) rfl (.cons (k := 4) rfl (.cons (k := 9) rfl (.cons (k := 47) rfl (.cons (k := 48) rfl (.cons (k := 49) rfl (.cons (k := 138) rfl (.nil _))))))))) ?_
    refine GQ_then ?_
    refine G_cond rfl (fun c21 => ?_) (fun c21 => ?_)
    ·
     have c21p := kz c21
     refine G_region ?_
     refine GL_step rfl (PS_move rfl) ?_
     refine GL_callL rfl cf32 (.cons rfl (.cons rfl .nil)) (.cons .head (.cons .head .nil)) (rules_turn_tell_spec _ X _ _ (by assumption) (by rw [hI14]; exact hb) (by omega)) (fun v68 B hv => ?_)
     obtain ⟨y69, rfl, y70, rfl⟩ := hv
     refine GL_nil ?_
     refine GQ_sub (.cons (k := 0) rfl (.cons (k := 3) rfl (.cons (k := 4) rfl (.cons (k := 47) rfl (.cons (k := 48) rfl (.cons (k := 49) rfl (.nil _))))))) ?_
     refine GQ_block ?_
     refine GQ_block ?_
     refine GQ_then ?_
     refine G_region ?_
     refine GL_step rfl (PS_add rfl rfl (IntWalk.i64_in _ (by first | omega | exact hb.1 | exact hb.2 | exact hbX.1 | exact hbX.2 | (dsimp only; omega)))) ?_
     refine GL_step rfl (PS_move rfl) ?_
     refine GL_nil ?_
     refine GQ_sub (.cons (k := 0) rfl (.cons (k := 3) rfl (.cons (k := 4) rfl (.cons (k := 47) rfl (.cons (k := 48) rfl (.cons (k := 49) rfl (.nil _))))))) ?_
     refine GQ_next3_ (k + 1) _ _ ?_ ?_ (.cons (k := 49) rfl (.cons (k := 0) rfl (.cons (k := 3) rfl (.cons (k := 4) rfl (.cons (k := 47) rfl (.cons (k := 48) rfl (.nil _))))))) (.refl _)
     · have hq : X.letOne o.verb (T.somebody o.second).2.1 ((Turn.pickL (T.somebody o.second).1.w (T.somebody o.second).1.own o.nth o.name o.all_).getD k.toNat 0) = _ := ((if_f c18).trans ((if_f c19).trans ((if_f c20).trans (if_t c21))))
       have hol := Turn.letOne_out X o.verb (T.somebody o.second).2.1 ((Turn.pickL (T.somebody o.second).1.w (T.somebody o.second).1.own o.nth o.name o.all_).getD k.toNat 0)
       have hob := Turn.letOne_b X o.verb (T.somebody o.second).2.1 ((Turn.pickL (T.somebody o.second).1.w (T.somebody o.second).1.own o.nth o.name o.all_).getD k.toNat 0)
       (try rw [Turn.place_name hx.1 hx.2] at *)
       (try rw [Turn.place_name' hx.1 hx.2 (show 0 ≤ (T.somebody o.second).2.1 by omega)] at *)
       exact ⟨by omega, by omega, by rw [hI13, Turn.letAll_step hI11 (by omega), hq]; (try rfl), (by rw [hq] at hob; exact hob.trans hI14), (by rw [hq] at hol; first | omega | (simp only [Turn.tell_len] at *; omega)), by assumption, hI17⟩
     · omega
    have c21p := kz c21
    refine G_seq ?_
    refine G_region ?_
    refine GL_step rfl (PS_move rfl) ?_
    refine GL_step rfl (PS_move rfl) ?_
    refine GL_step rfl (PS_move rfl) ?_
    refine GL_step rfl (PS_nilCheck rfl) ?_
    refine GL_step rfl (PS_fieldAddr fa28_2 rfl) ?_
    refine GL_unit (PU_store (((TurnV.l0.comp Land.l1).comp (Lens.arr (n := 9) Thing.fl (by first | omega | exact hb.1 | exact hb.2 | exact hbX.1 | exact hbX.2 | (dsimp only; omega)) (by first | omega | exact hb.1 | exact hb.2 | exact hbX.1 | exact hbX.2 | (dsimp only; omega)))).comp Thing.l2) rfl rfl rfl sz3 rfl .head) ?_
    refine GL_step rfl (PS_nilCheck rfl) ?_
    refine GL_step rfl (PS_fieldAddr fa28_3 rfl) ?_
    refine GL_unit (PU_store (((TurnV.l0.comp Land.l1).comp (Lens.arr (n := 9) Thing.fl (by first | omega | exact hb.1 | exact hb.2 | exact hbX.1 | exact hbX.2 | (dsimp only; omega)) (by first | omega | exact hb.1 | exact hb.2 | exact hbX.1 | exact hbX.2 | (dsimp only; omega)))).comp Thing.l3) rfl rfl rfl sz3 rfl .head) ?_
    refine GL_nil ?_
    refine GQ_sub (.cons (k := 0) rfl (.cons (k := 3) rfl (.cons (k := 4) rfl (.cons (k := 9) rfl (.cons (k := 47) rfl (.cons (k := 48) rfl (.cons (k := 49) rfl (.nil _)))))))) ?_
    refine GQ_then ?_
    refine G_swap (fun _ => .head) (congrArg (fun q => TurnV.enc ⟨q, _, _⟩) (Turn.place_eq X hx.1 hx.2 2 (T.somebody o.second).2.1)) ?_
    refine G_planN (N := 15) [0, 0, 2, 6, 14, 0, 0, 32, 160, 416, 992, 2016, 4064, 8190, 16383] mix (by kernel_rfl) rfl ?_
    refine Plan_float 0 rfl rfl (by kernel_rfl) (OK_s (EX_s (PS_move rfl))) ?_
    refine Plan_float 1 rfl rfl (by kernel_rfl) (OK_s (EX_s (PS_move rfl))) ?_
    refine Plan_float 2 rfl rfl (by kernel_rfl) (OK_s (EX_s (PS_nilCheck rfl))) ?_
    refine Plan_float 3 rfl rfl (by kernel_rfl) (OK_s (EX_s (PS_fieldAddr fa28_0 rfl))) ?_
    refine Plan_float 4 rfl rfl (by kernel_rfl) (OK_s (EX_s (PS_load rfl tys9 (.head _) (((TurnV.l0.comp Land.l1).comp (Lens.arr (n := 9) Thing.fl (by first | omega | exact hb.1 | exact hb.2 | exact hbX.1 | exact hbX.2 | (dsimp only; omega)) (by first | omega | exact hb.1 | exact hb.2 | exact hbX.1 | exact hbX.2 | (dsimp only; omega)))).comp Thing.l0) rfl rfl))) ?_
    refine Plan_float 5 rfl rfl (by kernel_rfl) (OK_s (EX_s (PS_move rfl))) ?_
    refine Plan_float 6 rfl rfl (by kernel_rfl) (OK_s (EX_s (PS_move rfl))) ?_
    refine Plan_float 7 rfl rfl (by kernel_rfl) (OK_s (EX_s (PS_nilCheck rfl))) ?_
    refine Plan_float 8 rfl rfl (by kernel_rfl) (OK_s (EX_s (PS_fieldAddr fa55_0 rfl))) ?_
    refine Plan_float 9 rfl rfl (by kernel_rfl) (OK_s (EX_s (PS_fieldAddr fa34_1 rfl))) ?_
    refine Plan_float 10 rfl rfl (by kernel_rfl) (OK_s (EX_s (PS_indexAddr ia29 rfl rfl (by first | omega | exact hb.1 | exact hb.2 | exact hbX.1 | exact hbX.2 | (dsimp only; omega)) (by first | omega | exact hb.1 | exact hb.2 | exact hbX.1 | exact hbX.2 | (dsimp only; omega))))) ?_
    refine Plan_float 11 rfl rfl (by kernel_rfl) (OK_s (EX_s (PS_fieldAddr fa28_0 rfl))) ?_
    refine Plan_float 12 rfl rfl (by kernel_rfl) (OK_s (EX_s (PS_load rfl tys9 (.head _) (((TurnV.l0.comp Land.l1).comp (Lens.arr (n := 9) Thing.fl (by first | omega | exact hb.1 | exact hb.2 | exact hbX.1 | exact hbX.2 | (dsimp only; omega)) (by first | omega | exact hb.1 | exact hb.2 | exact hbX.1 | exact hbX.2 | (dsimp only; omega)))).comp Thing.l0) rfl rfl))) ?_
    refine Plan_float 13 rfl rfl (by kernel_rfl) (OK_s (EX_s (PS_build pl48 zv48 rfl (.cons Ing.Event.l0 rfl rfl rfl (.cons Ing.Event.l3 rfl rfl rfl (.cons Ing.Event.l8 rfl rfl rfl (.cons Ing.Event.l9 rfl rfl rfl .nil))))))) ?_
    refine Plan_chain 14 rfl (by kernel_rfl) ?_
    refine GL_callL rfl cf17 (.cons rfl (.cons rfl .nil)) (.cons .head (.cons .head .nil)) (rules_turn_happens_spec _ (X.place ((Turn.pickL (T.somebody o.second).1.w (T.somebody o.second).1.own o.nth o.name o.all_).getD k.toNat 0) 2 (T.somebody o.second).2.1) _ { Turn.evk 5 with thing := ((X.place ((Turn.pickL (T.somebody o.second).1.w (T.somebody o.second).1.own o.nth o.name o.all_).getD k.toNat 0) 2 (T.somebody o.second).2.1).w.things.at ((Turn.pickL (T.somebody o.second).1.w (T.somebody o.second).1.own o.nth o.name o.all_).getD k.toNat 0)).name, text := ((X.place ((Turn.pickL (T.somebody o.second).1.w (T.somebody o.second).1.own o.nth o.name o.all_).getD k.toNat 0) 2 (T.somebody o.second).2.1).w.things.at (T.somebody o.second).2.1).name } (by assumption) hbX (show (-1 : Int) < 6 by decide) (show X.out.length ≤ 100000 by omega)) (fun v71 B hv => ?_)
    obtain ⟨y72, rfl, y73, rfl⟩ := hv
    refine GL_hand rfl ⟨?_, ?_⟩
    · exact (Pend_skip (by kernel_rfl) (Pend_skip (by kernel_rfl) (Pend_skip (by kernel_rfl) (Pend_skip (by kernel_rfl) (Pend_skip (by kernel_rfl) (Pend_skip (by kernel_rfl) (Pend_skip (by kernel_rfl) (Pend_skip (by kernel_rfl) (Pend_skip (by kernel_rfl) (Pend_skip (by kernel_rfl) (Pend_skip (by kernel_rfl) (Pend_skip (by kernel_rfl) (Pend_skip (by kernel_rfl) (Pend_skip (by kernel_rfl) Pend_nil))))))))))))))
    refine Plan_end (by kernel_rfl) ?_
    refine GQ_sub (.cons (k := 0) rfl (.cons (k := 3) rfl (.cons (k := 4) rfl (.cons (k := 47) rfl (.cons (k := 48) rfl (.cons (k := 49) rfl (.nil _))))))) ?_
    refine GQ_block ?_
    refine GQ_block ?_
    refine GQ_then ?_
    refine G_region ?_
    refine GL_step rfl (PS_add rfl rfl (IntWalk.i64_in _ (by first | omega | exact hb.1 | exact hb.2 | exact hbX.1 | exact hbX.2 | (dsimp only; omega)))) ?_
    refine GL_step rfl (PS_move rfl) ?_
    refine GL_nil ?_
    refine GQ_sub (.cons (k := 0) rfl (.cons (k := 3) rfl (.cons (k := 4) rfl (.cons (k := 47) rfl (.cons (k := 48) rfl (.cons (k := 49) rfl (.nil _))))))) ?_
    refine GQ_next3_ (k + 1) _ _ ?_ ?_ (.cons (k := 49) rfl (.cons (k := 0) rfl (.cons (k := 3) rfl (.cons (k := 4) rfl (.cons (k := 47) rfl (.cons (k := 48) rfl (.nil _))))))) (.refl _)
    · have hq : X.letOne o.verb (T.somebody o.second).2.1 ((Turn.pickL (T.somebody o.second).1.w (T.somebody o.second).1.own o.nth o.name o.all_).getD k.toNat 0) = _ := ((if_f c18).trans ((if_f c19).trans ((if_f c20).trans (if_f c21))))
      have hol := Turn.letOne_out X o.verb (T.somebody o.second).2.1 ((Turn.pickL (T.somebody o.second).1.w (T.somebody o.second).1.own o.nth o.name o.all_).getD k.toNat 0)
      have hob := Turn.letOne_b X o.verb (T.somebody o.second).2.1 ((Turn.pickL (T.somebody o.second).1.w (T.somebody o.second).1.own o.nth o.name o.all_).getD k.toNat 0)
      (try rw [Turn.place_name hx.1 hx.2] at *)
      (try rw [Turn.place_name' hx.1 hx.2 (show 0 ≤ (T.somebody o.second).2.1 by omega)] at *)
      exact ⟨by omega, by omega, by rw [hI13, Turn.letAll_step hI11 (by omega), hq]; (try rfl), (by rw [hq] at hob; exact hob.trans hI14), (by rw [hq] at hol; first | omega | (simp only [Turn.tell_len] at *; omega)), by assumption, hI17⟩
    · omega
   have c17p := kz c17
   obtain rfl : k = ((Turn.pickL (T.somebody o.second).1.w (T.somebody o.second).1.own o.nth o.name o.all_).length : Int) := by omega
   rw [Turn.drop_end] at hI13
   refine G_exit ?_
   refine GQ_then_exit ?_
   refine GQ_then_exit ?_
   refine GQ_block_exit ?_
   refine GQ_end rfl .nil ?_
   intro w1 hS
   have hS := (hS.perm (Pulls.perm (.cons .head (.cons .head .nil)))).headL
   refine ⟨_, ⟨?gq5, rfl, ?hl5, ?hB5⟩, hS⟩
   case hB5 => rw [hI13]; rfl
   case hl5 => rw [hI13]; exact hI16
  have c16p := kz c16
  rw [y54] at c16
  refine G_skip ?_
  refine GQ_sub (.cons (k := 0) rfl (.cons (k := 3) rfl (.cons (k := 4) rfl (.cons (k := 6) rfl (.nil _))))) ?_
  refine GQ_then ?_
  refine G_seq ?_
  refine G_region ?_
  refine GL_step rfl (PS_move rfl) ?_
  refine GL_step rfl (PS_len_slice rfl Tryd.underlying58 rfl) ?_
  refine GL_step rfl (PS_move rfl) ?_
  refine GL_nil ?_
  refine GQ_sub (.cons (k := 0) rfl (.cons (k := 3) rfl (.cons (k := 4) rfl (.cons (k := 47) rfl (.cons (k := 48) rfl (.cons (k := 49) rfl (.nil _))))))) ?_
  refine GQ_then ?_
  refine G_block ?_
  refine G_subF (.cons (k := 49) rfl (.cons (k := 0) rfl (.cons (k := 3) rfl (.cons (k := 4) rfl (.cons (k := 47) rfl (.cons (k := 48) rfl (.nil _))))))) ?_
  refine G_pull (.tail (.tail (.tail .head))) ?_
  refine G_pull (.tail .head) ?_
  refine G_loop3_ (fun (k : Int) (X : Turn) (h : Hd) => 0 ≤ k ∧ k ≤ ((Turn.pickL (T.somebody o.second).1.w (T.somebody o.second).1.own o.nth o.name o.all_).length : Int) ∧ T.letGo o = X.letAll o.verb (T.somebody o.second).2.1 ((Turn.pickL (T.somebody o.second).1.w (T.somebody o.second).1.own o.nth o.name o.all_).drop k.toNat) ∧ X.b = T.b ∧ (X.out.length : Int) ≤ T.out.length + 2 + k ∧ h.len = X.out.length ∧ ((Turn.pickL (T.somebody o.second).1.w (T.somebody o.second).1.own o.nth o.name o.all_).length : Int) ≤ 9) (fun (k : Int) (X : Turn) (h : Hd) => (((Turn.pickL (T.somebody o.second).1.w (T.somebody o.second).1.own o.nth o.name o.all_).length : Int) - k).toNat) (fun (k : Int) (X : Turn) (h : Hd) => [(49, .int .i64 k)]) (fun (k : Int) (X : Turn) (h : Hd) => [Res.box b 55 (TurnV.enc ⟨X.w, X.b, h⟩), Res.own h 48 16 (X.out.flatMap Ing.Event.enc)]) (0) (_) (_) ?_ rfl rfl (fun k X h hI1 => ?_)
  · have ht : T.letTo o = (T.somebody o.second) := (if_f c1).trans (if_t c14)
    have hgo : T.letGo o = (T.somebody o.second).1.letL (T.somebody o.second).2.1 o := (show T.letGo o = (T.letTo o).1.letL (T.letTo o).2.1 o from if_neg (by rw [ht]; simpa using c15)).trans (by rw [ht])
    exact ⟨by omega, by omega, hgo.trans (congrArg (fun q => Turn.letAll q _ _ _) (if_f c16)), (T.somebody_w _).2, by have := T.box_out o.second; have := T.somebody_out o.second; (try simp only [Turn.tell_len]); omega, by assumption, by have := (Turn.pickL_sub (T.somebody o.second).1.w (T.somebody o.second).1.own o.nth o.name o.all_).length_le; have := Turn.own_len (T.somebody o.second).1; omega⟩
  obtain ⟨hI11, hI12, hI13, hI14, hI15, hI16, hI17⟩ := hI1
  refine G_seq ?_
  refine G_region ?_
  refine GL_step rfl (PS_lss rfl rfl) ?_
  refine GL_nil ?_
  refine GQ_then ?_
  refine G_seq ?_
  refine G_cond rfl (fun c22 => ?_) (fun c22 => ?_)
  ·
   have c22p := kz c22
   have hx : 0 ≤ (Turn.pickL (T.somebody o.second).1.w (T.somebody o.second).1.own o.nth o.name o.all_).getD k.toNat 0 ∧ (Turn.pickL (T.somebody o.second).1.w (T.somebody o.second).1.own o.nth o.name o.all_).getD k.toNat 0 < 9 := Turn.own_rng (Turn.pickL_mem (Line.getD_memI (xs := (Turn.pickL (T.somebody o.second).1.w (T.somebody o.second).1.own o.nth o.name o.all_)) (i := k.toNat) (by omega)))
   have hbX : 0 ≤ X.b ∧ X.b < 6 := by rw [hI14]; exact hb
   refine G_skip ?_
   refine GQ_sub (.cons (k := 0) rfl (.cons (k := 3) rfl (.cons (k := 4) rfl (.cons (k := 47) rfl (.cons (k := 48) rfl (.cons (k := 49) rfl (.nil _))))))) ?_
   refine GQ_then ?_
   refine G_seq ?_
   refine G_block ?_
   refine G_seq ?_
   refine G_region ?_
   refine GL_step rfl (PS_idxS is58 (by decide) (Kn.own (.tail _ (.tail _ (.tail _ (.head _))))) rfl rfl (by omega) (by omega)) ?_
   refine GL_step rfl (PS_ldInt rfl tys3 (Kn.own (.tail _ (.tail _ (.tail _ (.head _))))) (by omega)) ?_
   refine GL_step rfl (PS_assign rfl) ?_
   refine GL_nil ?_
   refine GQ_sub (.cons (k := 0) rfl (.cons (k := 3) rfl (.cons (k := 4) rfl (.cons (k := 8) rfl (.cons (k := 47) rfl (.cons (k := 48) rfl (.cons (k := 49) rfl (.nil _)))))))) ?_
   refine GQ_then ?_
   refine G_seq ?_
   refine G_region ?_
   refine GL_step rfl (PS_move rfl) ?_
   refine GL_step rfl (PS_move rfl) ?_
   refine GL_step rfl (PS_nilCheck rfl) ?_
   refine GL_step rfl (PS_fieldAddr fa55_0 rfl) ?_
   refine GL_step rfl (PS_fieldAddr fa34_1 rfl) ?_
   refine GL_step rfl (PS_indexAddr ia29 rfl rfl (by first | omega | exact hb.1 | exact hb.2 | exact hbX.1 | exact hbX.2 | (dsimp only; omega)) (by first | omega | exact hb.1 | exact hb.2 | exact hbX.1 | exact hbX.2 | (dsimp only; omega))) ?_
   refine GL_step rfl (PS_assign rfl) ?_
   refine GL_nil ?_
   refine GQ_sub (.cons (k := 0) rfl (.cons (k := 3) rfl (.cons (k := 4) rfl (.cons (k := 8) rfl (.cons (k := 9) rfl (.cons (k := 47) rfl (.cons (k := 48) rfl (.cons (k := 49) rfl (.nil _))))))))) ?_
   refine GQ_then ?_
   refine G_block ?_
   refine G_seq ?_
   refine G_region ?_
   refine GL_step rfl (PS_move rfl) ?_
   refine GL_step rfl (PS_nilCheck rfl) ?_
   refine GL_step rfl (PS_fieldAddr fa28_1 rfl) ?_
   refine GL_step rfl (PS_load rfl tys3 (.head _) (((TurnV.l0.comp Land.l1).comp (Lens.arr (n := 9) Thing.fl (by first | omega | exact hb.1 | exact hb.2 | exact hbX.1 | exact hbX.2 | (dsimp only; omega)) (by first | omega | exact hb.1 | exact hb.2 | exact hbX.1 | exact hbX.2 | (dsimp only; omega)))).comp Thing.l1) rfl rfl) ?_
   refine GL_step rfl (PS_eql rfl rfl) ?_
   refine GL_step rfl (PS_move rfl) ?_
   refine GL_gt (t := 87) rfl rfl rfl (fun q => PS_move rfl) ?_
   refine GL_gt (t := 87) rfl rfl rfl (fun q => PS_nilCheck (cvE rfl q)) ?_
   refine GL_gt (t := 87) rfl rfl rfl (fun q => PS_fieldAddr fa28_4 (cvE rfl q)) ?_
   refine GL_gt (t := 87) rfl rfl rfl (fun q => by have q1 := q; (try simp at q1); exact PS_load (cvE rfl q) tys4 (.head _) (((TurnV.l0.comp Land.l1).comp (Lens.arr (n := 9) Thing.fl (by first | omega | exact hb.1 | exact hb.2 | exact hbX.1 | exact hbX.2 | (dsimp only; omega)) (by first | omega | exact hb.1 | exact hb.2 | exact hbX.1 | exact hbX.2 | (dsimp only; omega)))).comp Thing.l4) rfl rfl) ?_
   refine GL_step rfl (PS_and rfl rfl (fun h => h)) ?_
   refine GL_step rfl (PS_assign rfl) ?_
   refine GL_nil ?_
   refine GQ_sub (.cons (k := 0) rfl (.cons (k := 3) rfl (.cons (k := 4) rfl (.cons (k := 8) rfl (.cons (k := 9) rfl (.cons (k := 47) rfl (.cons (k := 48) rfl (.cons (k := 49) rfl (.cons (k := 81) rfl (.nil _)))))))))) ?_
   refine GQ_then ?_
   refine G_cond rfl (fun c23 => ?_) (fun c23 => ?_)
   ·
    have c23p := kz c23
    refine G_region ?_
    refine GL_step rfl (PS_move rfl) ?_
    refine GL_callL rfl cf32 (.cons rfl (.cons rfl .nil)) (.cons .head (.cons .head .nil)) (rules_turn_tell_spec _ X _ _ (by assumption) (by rw [hI14]; exact hb) (by omega)) (fun v74 B hv => ?_)
    obtain ⟨y75, rfl, y76, rfl⟩ := hv
    refine GL_nil ?_
    refine GQ_sub (.cons (k := 0) rfl (.cons (k := 3) rfl (.cons (k := 4) rfl (.cons (k := 47) rfl (.cons (k := 48) rfl (.cons (k := 49) rfl (.nil _))))))) ?_
    refine GQ_block ?_
    refine GQ_block ?_
    refine GQ_then ?_
    refine G_region ?_
    refine GL_step rfl (PS_add rfl rfl (IntWalk.i64_in _ (by first | omega | exact hb.1 | exact hb.2 | exact hbX.1 | exact hbX.2 | (dsimp only; omega)))) ?_
    refine GL_step rfl (PS_move rfl) ?_
    refine GL_nil ?_
    refine GQ_sub (.cons (k := 0) rfl (.cons (k := 3) rfl (.cons (k := 4) rfl (.cons (k := 47) rfl (.cons (k := 48) rfl (.cons (k := 49) rfl (.nil _))))))) ?_
    refine GQ_next3_ (k + 1) _ _ ?_ ?_ (.cons (k := 49) rfl (.cons (k := 0) rfl (.cons (k := 3) rfl (.cons (k := 4) rfl (.cons (k := 47) rfl (.cons (k := 48) rfl (.nil _))))))) (.refl _)
    · have hq : X.letOne o.verb (T.somebody o.second).2.1 ((Turn.pickL (T.somebody o.second).1.w (T.somebody o.second).1.own o.nth o.name o.all_).getD k.toNat 0) = _ := (if_t c23)
      have hol := Turn.letOne_out X o.verb (T.somebody o.second).2.1 ((Turn.pickL (T.somebody o.second).1.w (T.somebody o.second).1.own o.nth o.name o.all_).getD k.toNat 0)
      have hob := Turn.letOne_b X o.verb (T.somebody o.second).2.1 ((Turn.pickL (T.somebody o.second).1.w (T.somebody o.second).1.own o.nth o.name o.all_).getD k.toNat 0)
      (try rw [Turn.place_name hx.1 hx.2] at *)
      (try rw [Turn.place_name' hx.1 hx.2 (show 0 ≤ (T.somebody o.second).2.1 by omega)] at *)
      exact ⟨by omega, by omega, by rw [hI13, Turn.letAll_step hI11 (by omega), hq]; (try rfl), (by rw [hq] at hob; exact hob.trans hI14), (by rw [hq] at hol; first | omega | (simp only [Turn.tell_len] at *; omega)), by assumption, hI17⟩
    · omega
   have c23p := kz c23
   refine G_seq ?_
   refine G_region ?_
   refine GL_step rfl (PS_fieldAddr fa36_0 rfl) ?_
   refine GL_step rfl (PS_load rfl tys3 (.tail _ (.tail _ (.tail _ (.tail _ (.head _))))) Order.l0 rfl rfl) ?_
   refine GL_step rfl (PS_eql rfl rfl) ?_
   refine GL_step rfl (PS_assign rfl) ?_
   refine GL_nil ?_
   refine GQ_sub (.cons (k := 0) rfl (.cons (k := 3) rfl (.cons (k := 4) rfl (.cons (k := 8) rfl (.cons (k := 9) rfl (.cons (k := 47) rfl (.cons (k := 48) rfl (.cons (k := 49) rfl (.cons (k := 95) rfl (.nil _)))))))))) ?_
   refine GQ_then ?_
   refine G_cond rfl (fun c24 => ?_) (fun c24 => ?_)
   ·
    have c24p := kz c24
    refine G_seq ?_
    refine G_planN (N := 19) [0, 0, 0, 0, 8, 24, 56, 4, 132, 388, 1020, 2044, 4092, 8189, 16381, 32765, 65535, 131071, 262143] mix (by kernel_rfl) rfl ?_
    refine Plan_float 0 rfl rfl (by kernel_rfl) (OK_s (EX_s (PS_move rfl))) ?_
    refine Plan_float 1 rfl rfl (by kernel_rfl) (OK_s (EX_s (PS_move rfl))) ?_
    refine Plan_float 2 rfl rfl (by kernel_rfl) (OK_s (EX_s (PS_move rfl))) ?_
    refine Plan_float 3 rfl rfl (by kernel_rfl) (OK_s (EX_s (PS_move rfl))) ?_
    refine Plan_float 4 rfl rfl (by kernel_rfl) (OK_s (EX_s (PS_nilCheck rfl))) ?_
    refine Plan_float 5 rfl rfl (by kernel_rfl) (OK_s (EX_s (PS_fieldAddr fa55_1 rfl))) ?_
    refine Plan_float 6 rfl rfl (by kernel_rfl) (OK_s (EX_s (PS_load rfl tys3 (.head _) TurnV.l1 rfl rfl))) ?_
    refine Plan_float 7 rfl rfl (by kernel_rfl) (OK_s (EX_s (PS_nilCheck rfl))) ?_
    refine Plan_float 8 rfl rfl (by kernel_rfl) (OK_s (EX_s (PS_fieldAddr fa55_0 rfl))) ?_
    refine Plan_float 9 rfl rfl (by kernel_rfl) (OK_s (EX_s (PS_fieldAddr fa34_2 rfl))) ?_
    refine Plan_float 10 rfl rfl (by kernel_rfl) (OK_s (EX_s (PS_indexAddr ia32 rfl rfl (by first | omega | exact hb.1 | exact hb.2 | exact hbX.1 | exact hbX.2 | (dsimp only; omega)) (by first | omega | exact hb.1 | exact hb.2 | exact hbX.1 | exact hbX.2 | (dsimp only; omega))))) ?_
    refine Plan_float 11 rfl rfl (by kernel_rfl) (OK_s (EX_s (PS_fieldAddr fa31_3 rfl))) ?_
    refine Plan_float 12 rfl rfl (by kernel_rfl) (OK_s (EX_s (PS_load rfl tys3 (.head _) (((TurnV.l0.comp Land.l2).comp (Lens.arr (n := 6) Being.fl (by first | omega | exact hb.1 | exact hb.2 | exact hbX.1 | exact hbX.2 | (dsimp only; omega)) (by first | omega | exact hb.1 | exact hb.2 | exact hbX.1 | exact hbX.2 | (dsimp only; omega)))).comp Being.l3) rfl rfl))) ?_
    refine Plan_float 13 rfl rfl (by kernel_rfl) (OK_s (EX_s (PS_nilCheck rfl))) ?_
    refine Plan_float 14 rfl rfl (by kernel_rfl) (OK_s (EX_s (PS_fieldAddr fa28_2 rfl))) ?_
    refine Plan_chain 15 rfl (by kernel_rfl) ?_
    refine GL_unit (PU_store (((TurnV.l0.comp Land.l1).comp (Lens.arr (n := 9) Thing.fl (by first | omega | exact hb.1 | exact hb.2 | exact hbX.1 | exact hbX.2 | (dsimp only; omega)) (by first | omega | exact hb.1 | exact hb.2 | exact hbX.1 | exact hbX.2 | (dsimp only; omega)))).comp Thing.l2) rfl rfl rfl sz3 rfl .head) ?_
    refine GL_hand0 rfl ⟨?_, ?_⟩
    · exact (Pend_skip (by kernel_rfl) (Pend_skip (by kernel_rfl) (Pend_skip (by kernel_rfl) (Pend_skip (by kernel_rfl) (Pend_skip (by kernel_rfl) (Pend_skip (by kernel_rfl) (Pend_skip (by kernel_rfl) (Pend_skip (by kernel_rfl) (Pend_skip (by kernel_rfl) (Pend_skip (by kernel_rfl) (Pend_skip (by kernel_rfl) (Pend_skip (by kernel_rfl) (Pend_skip (by kernel_rfl) (Pend_okv rfl (OK_s (EX_s (PS_move rfl))) rfl rfl (Pend_skip (by kernel_rfl) Pend_nil)))))))))))))))
    refine Plan_float 16 rfl rfl (by kernel_rfl) (OK_s (EX_s (PS_nilCheck rfl))) ?_
    refine Plan_float 17 rfl rfl (by kernel_rfl) (OK_s (EX_s (PS_fieldAddr fa28_3 rfl))) ?_
    refine Plan_chain 18 rfl (by kernel_rfl) ?_
    refine GL_unit (PU_store (((TurnV.l0.comp Land.l1).comp (Lens.arr (n := 9) Thing.fl (by first | omega | exact hb.1 | exact hb.2 | exact hbX.1 | exact hbX.2 | (dsimp only; omega)) (by first | omega | exact hb.1 | exact hb.2 | exact hbX.1 | exact hbX.2 | (dsimp only; omega)))).comp Thing.l3) rfl rfl rfl sz3 rfl .head) ?_
    refine GL_hand0 rfl ⟨?_, ?_⟩
    · exact (Pend_skip (by kernel_rfl) (Pend_skip (by kernel_rfl) (Pend_skip (by kernel_rfl) (Pend_skip (by kernel_rfl) (Pend_skip (by kernel_rfl) (Pend_skip (by kernel_rfl) (Pend_skip (by kernel_rfl) (Pend_skip (by kernel_rfl) (Pend_skip (by kernel_rfl) (Pend_skip (by kernel_rfl) (Pend_skip (by kernel_rfl) (Pend_skip (by kernel_rfl) (Pend_skip (by kernel_rfl) (Pend_skip (by kernel_rfl) (Pend_skip (by kernel_rfl) (Pend_skip (by kernel_rfl) (Pend_skip (by kernel_rfl) Pend_nil)))))))))))))))))
    refine Plan_end (by kernel_rfl) ?_
    refine GQ_sub (.cons (k := 0) rfl (.cons (k := 3) rfl (.cons (k := 4) rfl (.cons (k := 8) rfl (.cons (k := 47) rfl (.cons (k := 48) rfl (.cons (k := 49) rfl (.nil _)))))))) ?_
    refine GQ_then ?_
    refine G_swap (fun _ => .head) (congrArg (fun q => TurnV.enc ⟨q, _, _⟩) (Turn.place_eq X hx.1 hx.2 0 (X.w.beings.at X.b).room)) ?_
    refine G_region ?_
    refine GL_step rfl (PS_move rfl) ?_
    refine GL_step rfl (PS_move rfl) ?_
    refine GL_callL rfl cf43 (.cons rfl (.cons rfl (.cons rfl .nil))) (.cons .head (.cons .head .nil)) (rules_turn_thing_spec _ (X.place ((Turn.pickL (T.somebody o.second).1.w (T.somebody o.second).1.own o.nth o.name o.all_).getD k.toNat 0) 0 X.me.room) _ 4 ((Turn.pickL (T.somebody o.second).1.w (T.somebody o.second).1.own o.nth o.name o.all_).getD k.toNat 0) (by assumption) hbX hx (show X.out.length ≤ 100000 by omega)) (fun v77 B hv => ?_)
    obtain ⟨y78, rfl, y79, rfl⟩ := hv
    refine GL_nil ?_
    refine GQ_sub (.cons (k := 0) rfl (.cons (k := 3) rfl (.cons (k := 4) rfl (.cons (k := 47) rfl (.cons (k := 48) rfl (.cons (k := 49) rfl (.nil _))))))) ?_
    refine GQ_block ?_
    refine GQ_block ?_
    refine GQ_then ?_
    refine G_region ?_
    refine GL_step rfl (PS_add rfl rfl (IntWalk.i64_in _ (by first | omega | exact hb.1 | exact hb.2 | exact hbX.1 | exact hbX.2 | (dsimp only; omega)))) ?_
    refine GL_step rfl (PS_move rfl) ?_
    refine GL_nil ?_
    refine GQ_sub (.cons (k := 0) rfl (.cons (k := 3) rfl (.cons (k := 4) rfl (.cons (k := 47) rfl (.cons (k := 48) rfl (.cons (k := 49) rfl (.nil _))))))) ?_
    refine GQ_next3_ (k + 1) _ _ ?_ ?_ (.cons (k := 49) rfl (.cons (k := 0) rfl (.cons (k := 3) rfl (.cons (k := 4) rfl (.cons (k := 47) rfl (.cons (k := 48) rfl (.nil _))))))) (.refl _)
    · have hq : X.letOne o.verb (T.somebody o.second).2.1 ((Turn.pickL (T.somebody o.second).1.w (T.somebody o.second).1.own o.nth o.name o.all_).getD k.toNat 0) = _ := ((if_f c23).trans (if_t c24))
      have hol := Turn.letOne_out X o.verb (T.somebody o.second).2.1 ((Turn.pickL (T.somebody o.second).1.w (T.somebody o.second).1.own o.nth o.name o.all_).getD k.toNat 0)
      have hob := Turn.letOne_b X o.verb (T.somebody o.second).2.1 ((Turn.pickL (T.somebody o.second).1.w (T.somebody o.second).1.own o.nth o.name o.all_).getD k.toNat 0)
      (try rw [Turn.place_name hx.1 hx.2] at *)
      (try rw [Turn.place_name' hx.1 hx.2 (show 0 ≤ (T.somebody o.second).2.1 by omega)] at *)
      exact ⟨by omega, by omega, by rw [hI13, Turn.letAll_step hI11 (by omega), hq]; (try rfl), (by rw [hq] at hob; exact hob.trans hI14), (by rw [hq] at hol; first | omega | (simp only [Turn.tell_len] at *; omega)), by assumption, hI17⟩
    · omega
   have c24p := kz c24
   refine G_seq ?_
   refine G_region ?_
   refine GL_step rfl (PS_fieldAddr fa36_0 rfl) ?_
   refine GL_step rfl (PS_load rfl tys3 (.tail _ (.tail _ (.tail _ (.tail _ (.head _))))) Order.l0 rfl rfl) ?_
   refine GL_step rfl (PS_eql rfl rfl) ?_
   refine GL_step rfl (PS_assign rfl) ?_
   refine GL_nil ?_
   refine GQ_sub (.cons (k := 0) rfl (.cons (k := 3) rfl (.cons (k := 4) rfl (.cons (k := 8) rfl (.cons (k := 9) rfl (.cons (k := 47) rfl (.cons (k := 48) rfl (.cons (k := 49) rfl (.cons (k := 119) rfl (.nil _)))))))))) ?_
   refine GQ_then ?_
   refine G_cond rfl (fun c25 => ?_) (fun c25 => ?_)
   ·
    have c25p := kz c25
    refine G_seq ?_
    refine G_region ?_
    refine GL_step rfl (PS_move rfl) ?_
    refine GL_step rfl (PS_move rfl) ?_
    refine GL_step rfl (PS_move rfl) ?_
    refine GL_step rfl (PS_nilCheck rfl) ?_
    refine GL_step rfl (PS_fieldAddr fa28_2 rfl) ?_
    refine GL_unit (PU_store (((TurnV.l0.comp Land.l1).comp (Lens.arr (n := 9) Thing.fl (by first | omega | exact hb.1 | exact hb.2 | exact hbX.1 | exact hbX.2 | (dsimp only; omega)) (by first | omega | exact hb.1 | exact hb.2 | exact hbX.1 | exact hbX.2 | (dsimp only; omega)))).comp Thing.l2) rfl rfl rfl sz3 rfl .head) ?_
    refine GL_step rfl (PS_nilCheck rfl) ?_
    refine GL_step rfl (PS_fieldAddr fa28_3 rfl) ?_
    refine GL_unit (PU_store (((TurnV.l0.comp Land.l1).comp (Lens.arr (n := 9) Thing.fl (by first | omega | exact hb.1 | exact hb.2 | exact hbX.1 | exact hbX.2 | (dsimp only; omega)) (by first | omega | exact hb.1 | exact hb.2 | exact hbX.1 | exact hbX.2 | (dsimp only; omega)))).comp Thing.l3) rfl rfl rfl sz3 rfl .head) ?_
    refine GL_nil ?_
    refine GQ_sub (.cons (k := 0) rfl (.cons (k := 3) rfl (.cons (k := 4) rfl (.cons (k := 9) rfl (.cons (k := 47) rfl (.cons (k := 48) rfl (.cons (k := 49) rfl (.nil _)))))))) ?_
    refine GQ_then ?_
    refine G_swap (fun _ => .head) (congrArg (fun q => TurnV.enc ⟨q, _, _⟩) (Turn.place_eq X hx.1 hx.2 1 (T.somebody o.second).2.1)) ?_
    refine G_region ?_
    refine GL_step rfl (PS_move rfl) ?_
    refine GL_step rfl (PS_move rfl) ?_
    refine GL_step rfl (PS_move rfl) ?_
    refine GL_step rfl (PS_nilCheck rfl) ?_
    refine GL_step rfl (PS_fieldAddr fa28_0 rfl) ?_
    refine GL_step rfl (PS_load rfl tys9 (.head _) (((TurnV.l0.comp Land.l1).comp (Lens.arr (n := 9) Thing.fl (by first | omega | exact hb.1 | exact hb.2 | exact hbX.1 | exact hbX.2 | (dsimp only; omega)) (by first | omega | exact hb.1 | exact hb.2 | exact hbX.1 | exact hbX.2 | (dsimp only; omega)))).comp Thing.l0) rfl rfl) ?_
    refine GL_step rfl (PS_build pl48 zv48 rfl (.cons Ing.Event.l0 rfl rfl rfl (.cons Ing.Event.l3 rfl rfl rfl (.cons Ing.Event.l8 rfl rfl rfl .nil)))) ?_
    refine GL_callL rfl cf17 (.cons rfl (.cons rfl .nil)) (.cons .head (.cons .head .nil)) (rules_turn_happens_spec _ (X.place ((Turn.pickL (T.somebody o.second).1.w (T.somebody o.second).1.own o.nth o.name o.all_).getD k.toNat 0) 1 (T.somebody o.second).2.1) _ { Turn.evk 6 with other := (T.somebody o.second).2.1, thing := ((X.place ((Turn.pickL (T.somebody o.second).1.w (T.somebody o.second).1.own o.nth o.name o.all_).getD k.toNat 0) 1 (T.somebody o.second).2.1).w.things.at ((Turn.pickL (T.somebody o.second).1.w (T.somebody o.second).1.own o.nth o.name o.all_).getD k.toNat 0)).name } (by assumption) hbX (show (T.somebody o.second).2.1 < 6 by omega) (show X.out.length ≤ 100000 by omega)) (fun v80 B hv => ?_)
    obtain ⟨y81, rfl, y82, rfl⟩ := hv
    refine GL_nil ?_
    refine GQ_sub (.cons (k := 0) rfl (.cons (k := 3) rfl (.cons (k := 4) rfl (.cons (k := 47) rfl (.cons (k := 48) rfl (.cons (k := 49) rfl (.nil _))))))) ?_
    refine GQ_block ?_
    refine GQ_block ?_
    refine GQ_then ?_
    refine G_region ?_
    refine GL_step rfl (PS_add rfl rfl (IntWalk.i64_in _ (by first | omega | exact hb.1 | exact hb.2 | exact hbX.1 | exact hbX.2 | (dsimp only; omega)))) ?_
    refine GL_step rfl (PS_move rfl) ?_
    refine GL_nil ?_
    refine GQ_sub (.cons (k := 0) rfl (.cons (k := 3) rfl (.cons (k := 4) rfl (.cons (k := 47) rfl (.cons (k := 48) rfl (.cons (k := 49) rfl (.nil _))))))) ?_
    refine GQ_next3_ (k + 1) _ _ ?_ ?_ (.cons (k := 49) rfl (.cons (k := 0) rfl (.cons (k := 3) rfl (.cons (k := 4) rfl (.cons (k := 47) rfl (.cons (k := 48) rfl (.nil _))))))) (.refl _)
    · have hq : X.letOne o.verb (T.somebody o.second).2.1 ((Turn.pickL (T.somebody o.second).1.w (T.somebody o.second).1.own o.nth o.name o.all_).getD k.toNat 0) = _ := ((if_f c23).trans ((if_f c24).trans (if_t c25)))
      have hol := Turn.letOne_out X o.verb (T.somebody o.second).2.1 ((Turn.pickL (T.somebody o.second).1.w (T.somebody o.second).1.own o.nth o.name o.all_).getD k.toNat 0)
      have hob := Turn.letOne_b X o.verb (T.somebody o.second).2.1 ((Turn.pickL (T.somebody o.second).1.w (T.somebody o.second).1.own o.nth o.name o.all_).getD k.toNat 0)
      (try rw [Turn.place_name hx.1 hx.2] at *)
      (try rw [Turn.place_name' hx.1 hx.2 (show 0 ≤ (T.somebody o.second).2.1 by omega)] at *)
      exact ⟨by omega, by omega, by rw [hI13, Turn.letAll_step hI11 (by omega), hq]; (try rfl), (by rw [hq] at hob; exact hob.trans hI14), (by rw [hq] at hol; first | omega | (simp only [Turn.tell_len] at *; omega)), by assumption, hI17⟩
    · omega
   have c25p := kz c25
   refine G_seq ?_
   refine G_region ?_
   refine GL_step rfl (PS_move rfl) ?_
   refine GL_step rfl (PS_nilCheck rfl) ?_
   refine GL_step rfl (PS_fieldAddr fa55_0 rfl) ?_
   refine GL_step rfl (PS_loadA rfl tya34 (.head _) TurnV.l0 rfl) ?_
   refine GL_step rfl (PS_move rfl) ?_
   refine GL_step rfl (PS_move rfl) ?_
   refine GL_pure rfl cf45 (.cons rfl (.cons rfl (.cons rfl .nil))) (fun w hS => land_Inside_spec _ _ _ w) ?_
   refine GL_step rfl (PS_assign rfl) ?_
   refine GL_nil ?_
   refine GQ_sub (.cons (k := 0) rfl (.cons (k := 3) rfl (.cons (k := 4) rfl (.cons (k := 9) rfl (.cons (k := 47) rfl (.cons (k := 48) rfl (.cons (k := 49) rfl (.cons (k := 138) rfl (.nil _))))))))) ?_
   refine GQ_then ?_
   refine G_cond rfl (fun c26 => ?_) (fun c26 => ?_)
   ·
    have c26p := kz c26
    refine G_region ?_
    refine GL_step rfl (PS_move rfl) ?_
    refine GL_callL rfl cf32 (.cons rfl (.cons rfl .nil)) (.cons .head (.cons .head .nil)) (rules_turn_tell_spec _ X _ _ (by assumption) (by rw [hI14]; exact hb) (by omega)) (fun v83 B hv => ?_)
    obtain ⟨y84, rfl, y85, rfl⟩ := hv
    refine GL_nil ?_
    refine GQ_sub (.cons (k := 0) rfl (.cons (k := 3) rfl (.cons (k := 4) rfl (.cons (k := 47) rfl (.cons (k := 48) rfl (.cons (k := 49) rfl (.nil _))))))) ?_
    refine GQ_block ?_
    refine GQ_block ?_
    refine GQ_then ?_
    refine G_region ?_
    refine GL_step rfl (PS_add rfl rfl (IntWalk.i64_in _ (by first | omega | exact hb.1 | exact hb.2 | exact hbX.1 | exact hbX.2 | (dsimp only; omega)))) ?_
    refine GL_step rfl (PS_move rfl) ?_
    refine GL_nil ?_
    refine GQ_sub (.cons (k := 0) rfl (.cons (k := 3) rfl (.cons (k := 4) rfl (.cons (k := 47) rfl (.cons (k := 48) rfl (.cons (k := 49) rfl (.nil _))))))) ?_
    refine GQ_next3_ (k + 1) _ _ ?_ ?_ (.cons (k := 49) rfl (.cons (k := 0) rfl (.cons (k := 3) rfl (.cons (k := 4) rfl (.cons (k := 47) rfl (.cons (k := 48) rfl (.nil _))))))) (.refl _)
    · have hq : X.letOne o.verb (T.somebody o.second).2.1 ((Turn.pickL (T.somebody o.second).1.w (T.somebody o.second).1.own o.nth o.name o.all_).getD k.toNat 0) = _ := ((if_f c23).trans ((if_f c24).trans ((if_f c25).trans (if_t c26))))
      have hol := Turn.letOne_out X o.verb (T.somebody o.second).2.1 ((Turn.pickL (T.somebody o.second).1.w (T.somebody o.second).1.own o.nth o.name o.all_).getD k.toNat 0)
      have hob := Turn.letOne_b X o.verb (T.somebody o.second).2.1 ((Turn.pickL (T.somebody o.second).1.w (T.somebody o.second).1.own o.nth o.name o.all_).getD k.toNat 0)
      (try rw [Turn.place_name hx.1 hx.2] at *)
      (try rw [Turn.place_name' hx.1 hx.2 (show 0 ≤ (T.somebody o.second).2.1 by omega)] at *)
      exact ⟨by omega, by omega, by rw [hI13, Turn.letAll_step hI11 (by omega), hq]; (try rfl), (by rw [hq] at hob; exact hob.trans hI14), (by rw [hq] at hol; first | omega | (simp only [Turn.tell_len] at *; omega)), by assumption, hI17⟩
    · omega
   have c26p := kz c26
   refine G_seq ?_
   refine G_region ?_
   refine GL_step rfl (PS_move rfl) ?_
   refine GL_step rfl (PS_move rfl) ?_
   refine GL_step rfl (PS_move rfl) ?_
   refine GL_step rfl (PS_nilCheck rfl) ?_
   refine GL_step rfl (PS_fieldAddr fa28_2 rfl) ?_
   refine GL_unit (PU_store (((TurnV.l0.comp Land.l1).comp (Lens.arr (n := 9) Thing.fl (by first | omega | exact hb.1 | exact hb.2 | exact hbX.1 | exact hbX.2 | (dsimp only; omega)) (by first | omega | exact hb.1 | exact hb.2 | exact hbX.1 | exact hbX.2 | (dsimp only; omega)))).comp Thing.l2) rfl rfl rfl sz3 rfl .head) ?_
   refine GL_step rfl (PS_nilCheck rfl) ?_
   refine GL_step rfl (PS_fieldAddr fa28_3 rfl) ?_
   refine GL_unit (PU_store (((TurnV.l0.comp Land.l1).comp (Lens.arr (n := 9) Thing.fl (by first | omega | exact hb.1 | exact hb.2 | exact hbX.1 | exact hbX.2 | (dsimp only; omega)) (by first | omega | exact hb.1 | exact hb.2 | exact hbX.1 | exact hbX.2 | (dsimp only; omega)))).comp Thing.l3) rfl rfl rfl sz3 rfl .head) ?_
   refine GL_nil ?_
   refine GQ_sub (.cons (k := 0) rfl (.cons (k := 3) rfl (.cons (k := 4) rfl (.cons (k := 9) rfl (.cons (k := 47) rfl (.cons (k := 48) rfl (.cons (k := 49) rfl (.nil _)))))))) ?_
   refine GQ_then ?_
   refine G_swap (fun _ => .head) (congrArg (fun q => TurnV.enc ⟨q, _, _⟩) (Turn.place_eq X hx.1 hx.2 2 (T.somebody o.second).2.1)) ?_
   refine G_planN (N := 15) [0, 0, 2, 6, 14, 0, 0, 32, 160, 416, 992, 2016, 4064, 8190, 16383] mix (by kernel_rfl) rfl ?_
   refine Plan_float 0 rfl rfl (by kernel_rfl) (OK_s (EX_s (PS_move rfl))) ?_
   refine Plan_float 1 rfl rfl (by kernel_rfl) (OK_s (EX_s (PS_move rfl))) ?_
   refine Plan_float 2 rfl rfl (by kernel_rfl) (OK_s (EX_s (PS_nilCheck rfl))) ?_
   refine Plan_float 3 rfl rfl (by kernel_rfl) (OK_s (EX_s (PS_fieldAddr fa28_0 rfl))) ?_
   refine Plan_float 4 rfl rfl (by kernel_rfl) (OK_s (EX_s (PS_load rfl tys9 (.head _) (((TurnV.l0.comp Land.l1).comp (Lens.arr (n := 9) Thing.fl (by first | omega | exact hb.1 | exact hb.2 | exact hbX.1 | exact hbX.2 | (dsimp only; omega)) (by first | omega | exact hb.1 | exact hb.2 | exact hbX.1 | exact hbX.2 | (dsimp only; omega)))).comp Thing.l0) rfl rfl))) ?_
   refine Plan_float 5 rfl rfl (by kernel_rfl) (OK_s (EX_s (PS_move rfl))) ?_
   refine Plan_float 6 rfl rfl (by kernel_rfl) (OK_s (EX_s (PS_move rfl))) ?_
   refine Plan_float 7 rfl rfl (by kernel_rfl) (OK_s (EX_s (PS_nilCheck rfl))) ?_
   refine Plan_float 8 rfl rfl (by kernel_rfl) (OK_s (EX_s (PS_fieldAddr fa55_0 rfl))) ?_
   refine Plan_float 9 rfl rfl (by kernel_rfl) (OK_s (EX_s (PS_fieldAddr fa34_1 rfl))) ?_
   refine Plan_float 10 rfl rfl (by kernel_rfl) (OK_s (EX_s (PS_indexAddr ia29 rfl rfl (by first | omega | exact hb.1 | exact hb.2 | exact hbX.1 | exact hbX.2 | (dsimp only; omega)) (by first | omega | exact hb.1 | exact hb.2 | exact hbX.1 | exact hbX.2 | (dsimp only; omega))))) ?_
   refine Plan_float 11 rfl rfl (by kernel_rfl) (OK_s (EX_s (PS_fieldAddr fa28_0 rfl))) ?_
   refine Plan_float 12 rfl rfl (by kernel_rfl) (OK_s (EX_s (PS_load rfl tys9 (.head _) (((TurnV.l0.comp Land.l1).comp (Lens.arr (n := 9) Thing.fl (by first | omega | exact hb.1 | exact hb.2 | exact hbX.1 | exact hbX.2 | (dsimp only; omega)) (by first | omega | exact hb.1 | exact hb.2 | exact hbX.1 | exact hbX.2 | (dsimp only; omega)))).comp Thing.l0) rfl rfl))) ?_
   refine Plan_float 13 rfl rfl (by kernel_rfl) (OK_s (EX_s (PS_build pl48 zv48 rfl (.cons Ing.Event.l0 rfl rfl rfl (.cons Ing.Event.l3 rfl rfl rfl (.cons Ing.Event.l8 rfl rfl rfl (.cons Ing.Event.l9 rfl rfl rfl .nil))))))) ?_
   refine Plan_chain 14 rfl (by kernel_rfl) ?_
   refine GL_callL rfl cf17 (.cons rfl (.cons rfl .nil)) (.cons .head (.cons .head .nil)) (rules_turn_happens_spec _ (X.place ((Turn.pickL (T.somebody o.second).1.w (T.somebody o.second).1.own o.nth o.name o.all_).getD k.toNat 0) 2 (T.somebody o.second).2.1) _ { Turn.evk 5 with thing := ((X.place ((Turn.pickL (T.somebody o.second).1.w (T.somebody o.second).1.own o.nth o.name o.all_).getD k.toNat 0) 2 (T.somebody o.second).2.1).w.things.at ((Turn.pickL (T.somebody o.second).1.w (T.somebody o.second).1.own o.nth o.name o.all_).getD k.toNat 0)).name, text := ((X.place ((Turn.pickL (T.somebody o.second).1.w (T.somebody o.second).1.own o.nth o.name o.all_).getD k.toNat 0) 2 (T.somebody o.second).2.1).w.things.at (T.somebody o.second).2.1).name } (by assumption) hbX (show (-1 : Int) < 6 by decide) (show X.out.length ≤ 100000 by omega)) (fun v86 B hv => ?_)
   obtain ⟨y87, rfl, y88, rfl⟩ := hv
   refine GL_hand rfl ⟨?_, ?_⟩
   · exact (Pend_skip (by kernel_rfl) (Pend_skip (by kernel_rfl) (Pend_skip (by kernel_rfl) (Pend_skip (by kernel_rfl) (Pend_skip (by kernel_rfl) (Pend_skip (by kernel_rfl) (Pend_skip (by kernel_rfl) (Pend_skip (by kernel_rfl) (Pend_skip (by kernel_rfl) (Pend_skip (by kernel_rfl) (Pend_skip (by kernel_rfl) (Pend_skip (by kernel_rfl) (Pend_skip (by kernel_rfl) (Pend_skip (by kernel_rfl) Pend_nil))))))))))))))
   refine Plan_end (by kernel_rfl) ?_
   refine GQ_sub (.cons (k := 0) rfl (.cons (k := 3) rfl (.cons (k := 4) rfl (.cons (k := 47) rfl (.cons (k := 48) rfl (.cons (k := 49) rfl (.nil _))))))) ?_
   refine GQ_block ?_
   refine GQ_block ?_
   refine GQ_then ?_
   refine G_region ?_
   refine GL_step rfl (PS_add rfl rfl (IntWalk.i64_in _ (by first | omega | exact hb.1 | exact hb.2 | exact hbX.1 | exact hbX.2 | (dsimp only; omega)))) ?_
   refine GL_step rfl (PS_move rfl) ?_
   refine GL_nil ?_
   refine GQ_sub (.cons (k := 0) rfl (.cons (k := 3) rfl (.cons (k := 4) rfl (.cons (k := 47) rfl (.cons (k := 48) rfl (.cons (k := 49) rfl (.nil _))))))) ?_
   refine GQ_next3_ (k + 1) _ _ ?_ ?_ (.cons (k := 49) rfl (.cons (k := 0) rfl (.cons (k := 3) rfl (.cons (k := 4) rfl (.cons (k := 47) rfl (.cons (k := 48) rfl (.nil _))))))) (.refl _)
   · have hq : X.letOne o.verb (T.somebody o.second).2.1 ((Turn.pickL (T.somebody o.second).1.w (T.somebody o.second).1.own o.nth o.name o.all_).getD k.toNat 0) = _ := ((if_f c23).trans ((if_f c24).trans ((if_f c25).trans (if_f c26))))
     have hol := Turn.letOne_out X o.verb (T.somebody o.second).2.1 ((Turn.pickL (T.somebody o.second).1.w (T.somebody o.second).1.own o.nth o.name o.all_).getD k.toNat 0)
     have hob := Turn.letOne_b X o.verb (T.somebody o.second).2.1 ((Turn.pickL (T.somebody o.second).1.w (T.somebody o.second).1.own o.nth o.name o.all_).getD k.toNat 0)
     (try rw [Turn.place_name hx.1 hx.2] at *)
     (try rw [Turn.place_name' hx.1 hx.2 (show 0 ≤ (T.somebody o.second).2.1 by omega)] at *)
     exact ⟨by omega, by omega, by rw [hI13, Turn.letAll_step hI11 (by omega), hq]; (try rfl), (by rw [hq] at hob; exact hob.trans hI14), (by rw [hq] at hol; first | omega | (simp only [Turn.tell_len] at *; omega)), by assumption, hI17⟩
   · omega
  have c22p := kz c22
  obtain rfl : k = ((Turn.pickL (T.somebody o.second).1.w (T.somebody o.second).1.own o.nth o.name o.all_).length : Int) := by omega
  rw [Turn.drop_end] at hI13
  refine G_exit ?_
  refine GQ_then_exit ?_
  refine GQ_then_exit ?_
  refine GQ_block_exit ?_
  refine GQ_end rfl .nil ?_
  intro w1 hS
  have hS := (hS.perm (Pulls.perm (.cons .head (.cons .head .nil)))).headL
  refine ⟨_, ⟨?gq6, rfl, ?hl6, ?hB6⟩, hS⟩
  case hB6 => rw [hI13]; rfl
  case hl6 => rw [hI13]; exact hI16
 have c14p := kz c14
 refine G_skip ?_
 refine GQ_sub (.cons (k := 0) rfl (.cons (k := 3) rfl (.cons (k := 4) rfl (.cons (k := 5) rfl (.nil _))))) ?_
 refine GQ_block ?_
 refine GQ_then ?_
 refine G_seq ?_
 refine G_seq ?_
 refine G_region ?_
 refine GL_step rfl (PS_move rfl) ?_
 refine GL_step rfl (PS_not rfl) ?_
 refine GL_nil ?_
 refine GQ_sub (.cons (k := 0) rfl (.cons (k := 3) rfl (.cons (k := 4) rfl (.cons (k := 31) rfl (.nil _))))) ?_
 refine GQ_then ?_
 refine G_false rfl rfl ?_
 refine G_skip ?_
 refine GQ_sub (.cons (k := 0) rfl (.cons (k := 3) rfl (.cons (k := 4) rfl (.nil _)))) ?_
 refine GQ_then ?_
 refine G_seq ?_
 refine G_planN (N := 11) [0, 0, 2, 0, 8, 0, 32, 0, 128, 511, 1023] mix (by kernel_rfl) rfl ?_
 refine Plan_float 0 rfl rfl (by kernel_rfl) (OK_s (EX_s (PS_move rfl))) ?_
 refine Plan_float 1 rfl rfl (by kernel_rfl) (OK_s (EX_s (PS_move rfl))) ?_
 refine Plan_float 3 rfl rfl (by kernel_rfl) (OK_s (EX_s (PS_fieldAddr fa36_1 rfl))) ?_
 refine Plan_float 4 rfl rfl (by kernel_rfl) (OK_s (EX_s (PS_load rfl tys3 (.head _) Order.l1 rfl rfl))) ?_
 refine Plan_float 5 rfl rfl (by kernel_rfl) (OK_s (EX_s (PS_fieldAddr fa36_3 rfl))) ?_
 refine Plan_float 6 rfl rfl (by kernel_rfl) (OK_s (EX_s (PS_load rfl tys9 (.head _) Order.l3 rfl rfl))) ?_
 refine Plan_float 7 rfl rfl (by kernel_rfl) (OK_s (EX_s (PS_fieldAddr fa36_2 rfl))) ?_
 refine Plan_float 8 rfl rfl (by kernel_rfl) (OK_s (EX_s (PS_load rfl tys4 (.head _) Order.l2 rfl rfl))) ?_
 refine Plan_chain 2 rfl (by kernel_rfl) ?_
 refine GL_callL rfl cf44 (.cons rfl .nil) (.cons (.tail .head) .nil) (rules_turn_own_spec _ T _ hF) (fun v89 B hv => ?_)
 obtain ⟨y90, rfl, y91, rfl⟩ := hv
 refine GL_hand rfl ⟨?_, ?_⟩
 · exact (Pend_okv rfl (OK_s (EX_s (PS_load rfl tys4 (.tail _ (.tail _ (.head _))) Order.l2 rfl rfl))) rfl rfl (Pend_okv rfl (OK_s (EX_s (PS_fieldAddr fa36_2 rfl))) rfl rfl (Pend_okv rfl (OK_s (EX_s (PS_load rfl tys9 (.tail _ (.tail _ (.head _))) Order.l3 rfl rfl))) rfl rfl (Pend_okv rfl (OK_s (EX_s (PS_fieldAddr fa36_3 rfl))) rfl rfl (Pend_okv rfl (OK_s (EX_s (PS_load rfl tys3 (.tail _ (.tail _ (.head _))) Order.l1 rfl rfl))) rfl rfl (Pend_okv rfl (OK_s (EX_s (PS_fieldAddr fa36_1 rfl))) rfl rfl (Pend_skip (by kernel_rfl) (Pend_okv rfl (OK_s (EX_s (PS_move rfl))) rfl rfl Pend_nil))))))))
 refine Plan_chain 9 rfl (by kernel_rfl) ?_
 refine GL_callL rfl cf42 (.cons rfl (.cons rfl (.cons rfl (.cons rfl (.cons rfl .nil))))) (.cons .head (.cons .head .nil)) (rules_turn_pick_spec _ T _ _ (Turn.own T) _ _ _ hF (by assumption) (Nat.le_trans (Turn.own_len T) (by decide)) (fun i hi => Turn.own_rng hi)) (fun v93 B hv => ?_)
 obtain ⟨y94, rfl, y95, rfl⟩ := hv
 refine GL_hand rfl ⟨?_, ?_⟩
 · exact (Pend_skip (by kernel_rfl) (Pend_skip (by kernel_rfl) (Pend_skip (by kernel_rfl) (Pend_skip (by kernel_rfl) (Pend_skip (by kernel_rfl) (Pend_skip (by kernel_rfl) (Pend_skip (by kernel_rfl) (Pend_skip (by kernel_rfl) Pend_nil))))))))
 refine Plan_float 10 rfl rfl (by kernel_rfl) (OK_s (EX_s (PS_assign rfl))) ?_
 refine Plan_end (by kernel_rfl) ?_
 refine GQ_sub (.cons (k := 0) rfl (.cons (k := 3) rfl (.cons (k := 4) rfl (.cons (k := 6) rfl (.nil _))))) ?_
 refine GQ_then ?_
 refine G_seq ?_
 refine G_seq ?_
 refine G_region ?_
 refine GL_step rfl (PS_move rfl) ?_
 refine GL_step rfl (PS_len_slice rfl Tryd.underlying58 rfl) ?_
 refine GL_step rfl (PS_eql rfl rfl) ?_
 refine GL_nil ?_
 refine GQ_sub (.cons (k := 0) rfl (.cons (k := 3) rfl (.cons (k := 4) rfl (.cons (k := 6) rfl (.cons (k := 44) rfl (.nil _)))))) ?_
 refine GQ_then ?_
 refine G_cond rfl (fun c27 => ?_) (fun c27 => ?_)
 ·
  have c27p := kz c27
  rw [y95] at c27
  refine G_region ?_
  refine GL_step rfl (PS_move rfl) ?_
  refine GL_callL rfl cf32 (.cons rfl (.cons rfl .nil)) (.cons .head (.cons (.tail (.tail (.tail .head))) .nil)) (rules_turn_tell_spec _ T _ _ (by assumption) hb (by have := T.box_out o.second; have := T.somebody_out o.second; omega)) (fun v97 B hv => ?_)
  obtain ⟨y98, rfl, y99, rfl⟩ := hv
  refine GL_nil ?_
  refine GQ_sub (.cons (k := 0) rfl (.cons (k := 3) rfl (.cons (k := 4) rfl (.cons (k := 6) rfl (.nil _))))) ?_
  refine GQ_then ?_
  refine G_seq ?_
  refine G_region ?_
  refine GL_step rfl (PS_move rfl) ?_
  refine GL_step rfl (PS_len_slice rfl Tryd.underlying58 rfl) ?_
  refine GL_step rfl (PS_move rfl) ?_
  refine GL_nil ?_
  refine GQ_sub (.cons (k := 0) rfl (.cons (k := 3) rfl (.cons (k := 4) rfl (.cons (k := 47) rfl (.cons (k := 48) rfl (.cons (k := 49) rfl (.nil _))))))) ?_
  refine GQ_then ?_
  refine G_block ?_
  refine G_subF (.cons (k := 49) rfl (.cons (k := 0) rfl (.cons (k := 3) rfl (.cons (k := 4) rfl (.cons (k := 47) rfl (.cons (k := 48) rfl (.nil _))))))) ?_
  refine G_pull (.tail .head) ?_
  refine G_pull (.tail .head) ?_
  refine G_loop3_ (fun (k : Int) (X : Turn) (h : Hd) => 0 ≤ k ∧ k ≤ ((Turn.pickL T.w T.own o.nth o.name o.all_).length : Int) ∧ T.letGo o = X.letAll o.verb 0 ((Turn.pickL T.w T.own o.nth o.name o.all_).drop k.toNat) ∧ X.b = T.b ∧ (X.out.length : Int) ≤ T.out.length + 2 + k ∧ h.len = X.out.length ∧ ((Turn.pickL T.w T.own o.nth o.name o.all_).length : Int) ≤ 9) (fun (k : Int) (X : Turn) (h : Hd) => (((Turn.pickL T.w T.own o.nth o.name o.all_).length : Int) - k).toNat) (fun (k : Int) (X : Turn) (h : Hd) => [(49, .int .i64 k)]) (fun (k : Int) (X : Turn) (h : Hd) => [Res.box b 55 (TurnV.enc ⟨X.w, X.b, h⟩), Res.own h 48 16 (X.out.flatMap Ing.Event.enc)]) (0) (_) (_) ?_ rfl rfl (fun k X h hI1 => ?_)
  · have ht : T.letTo o = (T, 0, true) := (if_f c1).trans (if_f c14)
    have hgo : T.letGo o = T.letL 0 o := (show T.letGo o = (T.letTo o).1.letL (T.letTo o).2.1 o from if_neg (by rw [ht]; simp)).trans (by rw [ht])
    exact ⟨by omega, by omega, hgo.trans (congrArg (fun q => Turn.letAll q _ _ _) (if_t c27)), rfl, by have := T.box_out o.second; have := T.somebody_out o.second; (try simp only [Turn.tell_len]); omega, by assumption, by have := (Turn.pickL_sub T.w T.own o.nth o.name o.all_).length_le; have := Turn.own_len T; omega⟩
  obtain ⟨hI11, hI12, hI13, hI14, hI15, hI16, hI17⟩ := hI1
  refine G_seq ?_
  refine G_region ?_
  refine GL_step rfl (PS_lss rfl rfl) ?_
  refine GL_nil ?_
  refine GQ_then ?_
  refine G_seq ?_
  refine G_cond rfl (fun c28 => ?_) (fun c28 => ?_)
  ·
   have c28p := kz c28
   have hx : 0 ≤ (Turn.pickL T.w T.own o.nth o.name o.all_).getD k.toNat 0 ∧ (Turn.pickL T.w T.own o.nth o.name o.all_).getD k.toNat 0 < 9 := Turn.own_rng (Turn.pickL_mem (Line.getD_memI (xs := (Turn.pickL T.w T.own o.nth o.name o.all_)) (i := k.toNat) (by omega)))
   have hbX : 0 ≤ X.b ∧ X.b < 6 := by rw [hI14]; exact hb
   refine G_skip ?_
   refine GQ_sub (.cons (k := 0) rfl (.cons (k := 3) rfl (.cons (k := 4) rfl (.cons (k := 47) rfl (.cons (k := 48) rfl (.cons (k := 49) rfl (.nil _))))))) ?_
   refine GQ_then ?_
   refine G_seq ?_
   refine G_block ?_
   refine G_seq ?_
   refine G_region ?_
   refine GL_step rfl (PS_idxS is58 (by decide) (Kn.own (.tail _ (.tail _ (.tail _ (.head _))))) rfl rfl (by omega) (by omega)) ?_
   refine GL_step rfl (PS_ldInt rfl tys3 (Kn.own (.tail _ (.tail _ (.tail _ (.head _))))) (by omega)) ?_
   refine GL_step rfl (PS_assign rfl) ?_
   refine GL_nil ?_
   refine GQ_sub (.cons (k := 0) rfl (.cons (k := 3) rfl (.cons (k := 4) rfl (.cons (k := 8) rfl (.cons (k := 47) rfl (.cons (k := 48) rfl (.cons (k := 49) rfl (.nil _)))))))) ?_
   refine GQ_then ?_
   refine G_seq ?_
   refine G_region ?_
   refine GL_step rfl (PS_move rfl) ?_
   refine GL_step rfl (PS_move rfl) ?_
   refine GL_step rfl (PS_nilCheck rfl) ?_
   refine GL_step rfl (PS_fieldAddr fa55_0 rfl) ?_
   refine GL_step rfl (PS_fieldAddr fa34_1 rfl) ?_
   refine GL_step rfl (PS_indexAddr ia29 rfl rfl (by first | omega | exact hb.1 | exact hb.2 | exact hbX.1 | exact hbX.2 | (dsimp only; omega)) (by first | omega | exact hb.1 | exact hb.2 | exact hbX.1 | exact hbX.2 | (dsimp only; omega))) ?_
   refine GL_step rfl (PS_assign rfl) ?_
   refine GL_nil ?_
   refine GQ_sub (.cons (k := 0) rfl (.cons (k := 3) rfl (.cons (k := 4) rfl (.cons (k := 8) rfl (.cons (k := 9) rfl (.cons (k := 47) rfl (.cons (k := 48) rfl (.cons (k := 49) rfl (.nil _))))))))) ?_
   refine GQ_then ?_
   refine G_block ?_
   refine G_seq ?_
   refine G_region ?_
   refine GL_step rfl (PS_move rfl) ?_
   refine GL_step rfl (PS_nilCheck rfl) ?_
   refine GL_step rfl (PS_fieldAddr fa28_1 rfl) ?_
   refine GL_step rfl (PS_load rfl tys3 (.head _) (((TurnV.l0.comp Land.l1).comp (Lens.arr (n := 9) Thing.fl (by first | omega | exact hb.1 | exact hb.2 | exact hbX.1 | exact hbX.2 | (dsimp only; omega)) (by first | omega | exact hb.1 | exact hb.2 | exact hbX.1 | exact hbX.2 | (dsimp only; omega)))).comp Thing.l1) rfl rfl) ?_
   refine GL_step rfl (PS_eql rfl rfl) ?_
   refine GL_step rfl (PS_move rfl) ?_
   refine GL_gt (t := 87) rfl rfl rfl (fun q => PS_move rfl) ?_
   refine GL_gt (t := 87) rfl rfl rfl (fun q => PS_nilCheck (cvE rfl q)) ?_
   refine GL_gt (t := 87) rfl rfl rfl (fun q => PS_fieldAddr fa28_4 (cvE rfl q)) ?_
   refine GL_gt (t := 87) rfl rfl rfl (fun q => by have q1 := q; (try simp at q1); exact PS_load (cvE rfl q) tys4 (.head _) (((TurnV.l0.comp Land.l1).comp (Lens.arr (n := 9) Thing.fl (by first | omega | exact hb.1 | exact hb.2 | exact hbX.1 | exact hbX.2 | (dsimp only; omega)) (by first | omega | exact hb.1 | exact hb.2 | exact hbX.1 | exact hbX.2 | (dsimp only; omega)))).comp Thing.l4) rfl rfl) ?_
   refine GL_step rfl (PS_and rfl rfl (fun h => h)) ?_
   refine GL_step rfl (PS_assign rfl) ?_
   refine GL_nil ?_
   refine GQ_sub (.cons (k := 0) rfl (.cons (k := 3) rfl (.cons (k := 4) rfl (.cons (k := 8) rfl (.cons (k := 9) rfl (.cons (k := 47) rfl (.cons (k := 48) rfl (.cons (k := 49) rfl (.cons (k := 81) rfl (.nil _)))))))))) ?_
   refine GQ_then ?_
   refine G_cond rfl (fun c29 => ?_) (fun c29 => ?_)
   ·
    have c29p := kz c29
    refine G_region ?_
    refine GL_step rfl (PS_move rfl) ?_
    refine GL_callL rfl cf32 (.cons rfl (.cons rfl .nil)) (.cons .head (.cons .head .nil)) (rules_turn_tell_spec _ X _ _ (by assumption) (by rw [hI14]; exact hb) (by omega)) (fun v100 B hv => ?_)
    obtain ⟨y101, rfl, y102, rfl⟩ := hv
    refine GL_nil ?_
    refine GQ_sub (.cons (k := 0) rfl (.cons (k := 3) rfl (.cons (k := 4) rfl (.cons (k := 47) rfl (.cons (k := 48) rfl (.cons (k := 49) rfl (.nil _))))))) ?_
    refine GQ_block ?_
    refine GQ_block ?_
    refine GQ_then ?_
    refine G_region ?_
    refine GL_step rfl (PS_add rfl rfl (IntWalk.i64_in _ (by first | omega | exact hb.1 | exact hb.2 | exact hbX.1 | exact hbX.2 | (dsimp only; omega)))) ?_
    refine GL_step rfl (PS_move rfl) ?_
    refine GL_nil ?_
    refine GQ_sub (.cons (k := 0) rfl (.cons (k := 3) rfl (.cons (k := 4) rfl (.cons (k := 47) rfl (.cons (k := 48) rfl (.cons (k := 49) rfl (.nil _))))))) ?_
    refine GQ_next3_ (k + 1) _ _ ?_ ?_ (.cons (k := 49) rfl (.cons (k := 0) rfl (.cons (k := 3) rfl (.cons (k := 4) rfl (.cons (k := 47) rfl (.cons (k := 48) rfl (.nil _))))))) (.refl _)
    · have hq : X.letOne o.verb 0 ((Turn.pickL T.w T.own o.nth o.name o.all_).getD k.toNat 0) = _ := (if_t c29)
      have hol := Turn.letOne_out X o.verb 0 ((Turn.pickL T.w T.own o.nth o.name o.all_).getD k.toNat 0)
      have hob := Turn.letOne_b X o.verb 0 ((Turn.pickL T.w T.own o.nth o.name o.all_).getD k.toNat 0)
      (try rw [Turn.place_name hx.1 hx.2] at *)
      (try rw [Turn.place_name' hx.1 hx.2 (show 0 ≤ 0 by omega)] at *)
      exact ⟨by omega, by omega, by rw [hI13, Turn.letAll_step hI11 (by omega), hq]; (try rfl), (by rw [hq] at hob; exact hob.trans hI14), (by rw [hq] at hol; first | omega | (simp only [Turn.tell_len] at *; omega)), by assumption, hI17⟩
    · omega
   have c29p := kz c29
   refine G_seq ?_
   refine G_region ?_
   refine GL_step rfl (PS_fieldAddr fa36_0 rfl) ?_
   refine GL_step rfl (PS_load rfl tys3 (.tail _ (.tail _ (.tail _ (.tail _ (.head _))))) Order.l0 rfl rfl) ?_
   refine GL_step rfl (PS_eql rfl rfl) ?_
   refine GL_step rfl (PS_assign rfl) ?_
   refine GL_nil ?_
   refine GQ_sub (.cons (k := 0) rfl (.cons (k := 3) rfl (.cons (k := 4) rfl (.cons (k := 8) rfl (.cons (k := 9) rfl (.cons (k := 47) rfl (.cons (k := 48) rfl (.cons (k := 49) rfl (.cons (k := 95) rfl (.nil _)))))))))) ?_
   refine GQ_then ?_
   refine G_cond rfl (fun c30 => ?_) (fun c30 => ?_)
   ·
    have c30p := kz c30
    refine G_seq ?_
    refine G_planN (N := 19) [0, 0, 0, 0, 8, 24, 56, 4, 132, 388, 1020, 2044, 4092, 8189, 16381, 32765, 65535, 131071, 262143] mix (by kernel_rfl) rfl ?_
    refine Plan_float 0 rfl rfl (by kernel_rfl) (OK_s (EX_s (PS_move rfl))) ?_
    refine Plan_float 1 rfl rfl (by kernel_rfl) (OK_s (EX_s (PS_move rfl))) ?_
    refine Plan_float 2 rfl rfl (by kernel_rfl) (OK_s (EX_s (PS_move rfl))) ?_
    refine Plan_float 3 rfl rfl (by kernel_rfl) (OK_s (EX_s (PS_move rfl))) ?_
    refine Plan_float 4 rfl rfl (by kernel_rfl) (OK_s (EX_s (PS_nilCheck rfl))) ?_
    refine Plan_float 5 rfl rfl (by kernel_rfl) (OK_s (EX_s (PS_fieldAddr fa55_1 rfl))) ?_
    refine Plan_float 6 rfl rfl (by kernel_rfl) (OK_s (EX_s (PS_load rfl tys3 (.head _) TurnV.l1 rfl rfl))) ?_
    refine Plan_float 7 rfl rfl (by kernel_rfl) (OK_s (EX_s (PS_nilCheck rfl))) ?_
    refine Plan_float 8 rfl rfl (by kernel_rfl) (OK_s (EX_s (PS_fieldAddr fa55_0 rfl))) ?_
    refine Plan_float 9 rfl rfl (by kernel_rfl) (OK_s (EX_s (PS_fieldAddr fa34_2 rfl))) ?_
    refine Plan_float 10 rfl rfl (by kernel_rfl) (OK_s (EX_s (PS_indexAddr ia32 rfl rfl (by first | omega | exact hb.1 | exact hb.2 | exact hbX.1 | exact hbX.2 | (dsimp only; omega)) (by first | omega | exact hb.1 | exact hb.2 | exact hbX.1 | exact hbX.2 | (dsimp only; omega))))) ?_
    refine Plan_float 11 rfl rfl (by kernel_rfl) (OK_s (EX_s (PS_fieldAddr fa31_3 rfl))) ?_
    refine Plan_float 12 rfl rfl (by kernel_rfl) (OK_s (EX_s (PS_load rfl tys3 (.head _) (((TurnV.l0.comp Land.l2).comp (Lens.arr (n := 6) Being.fl (by first | omega | exact hb.1 | exact hb.2 | exact hbX.1 | exact hbX.2 | (dsimp only; omega)) (by first | omega | exact hb.1 | exact hb.2 | exact hbX.1 | exact hbX.2 | (dsimp only; omega)))).comp Being.l3) rfl rfl))) ?_
    refine Plan_float 13 rfl rfl (by kernel_rfl) (OK_s (EX_s (PS_nilCheck rfl))) ?_
    refine Plan_float 14 rfl rfl (by kernel_rfl) (OK_s (EX_s (PS_fieldAddr fa28_2 rfl))) ?_
    refine Plan_chain 15 rfl (by kernel_rfl) ?_
    refine GL_unit (PU_store (((TurnV.l0.comp Land.l1).comp (Lens.arr (n := 9) Thing.fl (by first | omega | exact hb.1 | exact hb.2 | exact hbX.1 | exact hbX.2 | (dsimp only; omega)) (by first | omega | exact hb.1 | exact hb.2 | exact hbX.1 | exact hbX.2 | (dsimp only; omega)))).comp Thing.l2) rfl rfl rfl sz3 rfl .head) ?_
    refine GL_hand0 rfl ⟨?_, ?_⟩
    · exact (Pend_skip (by kernel_rfl) (Pend_skip (by kernel_rfl) (Pend_skip (by kernel_rfl) (Pend_skip (by kernel_rfl) (Pend_skip (by kernel_rfl) (Pend_skip (by kernel_rfl) (Pend_skip (by kernel_rfl) (Pend_skip (by kernel_rfl) (Pend_skip (by kernel_rfl) (Pend_skip (by kernel_rfl) (Pend_skip (by kernel_rfl) (Pend_skip (by kernel_rfl) (Pend_skip (by kernel_rfl) (Pend_okv rfl (OK_s (EX_s (PS_move rfl))) rfl rfl (Pend_skip (by kernel_rfl) Pend_nil)))))))))))))))
    refine Plan_float 16 rfl rfl (by kernel_rfl) (OK_s (EX_s (PS_nilCheck rfl))) ?_
    refine Plan_float 17 rfl rfl (by kernel_rfl) (OK_s (EX_s (PS_fieldAddr fa28_3 rfl))) ?_
    refine Plan_chain 18 rfl (by kernel_rfl) ?_
    refine GL_unit (PU_store (((TurnV.l0.comp Land.l1).comp (Lens.arr (n := 9) Thing.fl (by first | omega | exact hb.1 | exact hb.2 | exact hbX.1 | exact hbX.2 | (dsimp only; omega)) (by first | omega | exact hb.1 | exact hb.2 | exact hbX.1 | exact hbX.2 | (dsimp only; omega)))).comp Thing.l3) rfl rfl rfl sz3 rfl .head) ?_
    refine GL_hand0 rfl ⟨?_, ?_⟩
    · exact (Pend_skip (by kernel_rfl) (Pend_skip (by kernel_rfl) (Pend_skip (by kernel_rfl) (Pend_skip (by kernel_rfl) (Pend_skip (by kernel_rfl) (Pend_skip (by kernel_rfl) (Pend_skip (by kernel_rfl) (Pend_skip (by kernel_rfl) (Pend_skip (by kernel_rfl) (Pend_skip (by kernel_rfl) (Pend_skip (by kernel_rfl) (Pend_skip (by kernel_rfl) (Pend_skip (by kernel_rfl) (Pend_skip (by kernel_rfl) (Pend_skip (by kernel_rfl) (Pend_skip (by kernel_rfl) (Pend_skip (by kernel_rfl) Pend_nil)))))))))))))))))
    refine Plan_end (by kernel_rfl) ?_
    refine GQ_sub (.cons (k := 0) rfl (.cons (k := 3) rfl (.cons (k := 4) rfl (.cons (k := 8) rfl (.cons (k := 47) rfl (.cons (k := 48) rfl (.cons (k := 49) rfl (.nil _)))))))) ?_
    refine GQ_then ?_
    refine G_swap (fun _ => .head) (congrArg (fun q => TurnV.enc ⟨q, _, _⟩) (Turn.place_eq X hx.1 hx.2 0 (X.w.beings.at X.b).room)) ?_
    refine G_region ?_
    refine GL_step rfl (PS_move rfl) ?_
    refine GL_step rfl (PS_move rfl) ?_
    refine GL_callL rfl cf43 (.cons rfl (.cons rfl (.cons rfl .nil))) (.cons .head (.cons .head .nil)) (rules_turn_thing_spec _ (X.place ((Turn.pickL T.w T.own o.nth o.name o.all_).getD k.toNat 0) 0 X.me.room) _ 4 ((Turn.pickL T.w T.own o.nth o.name o.all_).getD k.toNat 0) (by assumption) hbX hx (show X.out.length ≤ 100000 by omega)) (fun v103 B hv => ?_)
    obtain ⟨y104, rfl, y105, rfl⟩ := hv
    refine GL_nil ?_
    refine GQ_sub (.cons (k := 0) rfl (.cons (k := 3) rfl (.cons (k := 4) rfl (.cons (k := 47) rfl (.cons (k := 48) rfl (.cons (k := 49) rfl (.nil _))))))) ?_
    refine GQ_block ?_
    refine GQ_block ?_
    refine GQ_then ?_
    refine G_region ?_
    refine GL_step rfl (PS_add rfl rfl (IntWalk.i64_in _ (by first | omega | exact hb.1 | exact hb.2 | exact hbX.1 | exact hbX.2 | (dsimp only; omega)))) ?_
    refine GL_step rfl (PS_move rfl) ?_
    refine GL_nil ?_
    refine GQ_sub (.cons (k := 0) rfl (.cons (k := 3) rfl (.cons (k := 4) rfl (.cons (k := 47) rfl (.cons (k := 48) rfl (.cons (k := 49) rfl (.nil _))))))) ?_
    refine GQ_next3_ (k + 1) _ _ ?_ ?_ (.cons (k := 49) rfl (.cons (k := 0) rfl (.cons (k := 3) rfl (.cons (k := 4) rfl (.cons (k := 47) rfl (.cons (k := 48) rfl (.nil _))))))) (.refl _)
    · have hq : X.letOne o.verb 0 ((Turn.pickL T.w T.own o.nth o.name o.all_).getD k.toNat 0) = _ := ((if_f c29).trans (if_t c30))
      have hol := Turn.letOne_out X o.verb 0 ((Turn.pickL T.w T.own o.nth o.name o.all_).getD k.toNat 0)
      have hob := Turn.letOne_b X o.verb 0 ((Turn.pickL T.w T.own o.nth o.name o.all_).getD k.toNat 0)
      (try rw [Turn.place_name hx.1 hx.2] at *)
      (try rw [Turn.place_name' hx.1 hx.2 (show 0 ≤ 0 by omega)] at *)
      exact ⟨by omega, by omega, by rw [hI13, Turn.letAll_step hI11 (by omega), hq]; (try rfl), (by rw [hq] at hob; exact hob.trans hI14), (by rw [hq] at hol; first | omega | (simp only [Turn.tell_len] at *; omega)), by assumption, hI17⟩
    · omega
   have c30p := kz c30
   refine G_seq ?_
   refine G_region ?_
   refine GL_step rfl (PS_fieldAddr fa36_0 rfl) ?_
   refine GL_step rfl (PS_load rfl tys3 (.tail _ (.tail _ (.tail _ (.tail _ (.head _))))) Order.l0 rfl rfl) ?_
   refine GL_step rfl (PS_eql rfl rfl) ?_
   refine GL_step rfl (PS_assign rfl) ?_
   refine GL_nil ?_
   refine GQ_sub (.cons (k := 0) rfl (.cons (k := 3) rfl (.cons (k := 4) rfl (.cons (k := 8) rfl (.cons (k := 9) rfl (.cons (k := 47) rfl (.cons (k := 48) rfl (.cons (k := 49) rfl (.cons (k := 119) rfl (.nil _)))))))))) ?_
   refine GQ_then ?_
   refine G_cond rfl (fun c31 => ?_) (fun c31 => ?_)
   ·
    have c31p := kz c31
    refine G_seq ?_
    refine G_region ?_
    refine GL_step rfl (PS_move rfl) ?_
    refine GL_step rfl (PS_move rfl) ?_
    refine GL_step rfl (PS_move rfl) ?_
    refine GL_step rfl (PS_nilCheck rfl) ?_
    refine GL_step rfl (PS_fieldAddr fa28_2 rfl) ?_
    refine GL_unit (PU_store (((TurnV.l0.comp Land.l1).comp (Lens.arr (n := 9) Thing.fl (by first | omega | exact hb.1 | exact hb.2 | exact hbX.1 | exact hbX.2 | (dsimp only; omega)) (by first | omega | exact hb.1 | exact hb.2 | exact hbX.1 | exact hbX.2 | (dsimp only; omega)))).comp Thing.l2) rfl rfl rfl sz3 rfl .head) ?_
    refine GL_step rfl (PS_nilCheck rfl) ?_
    refine GL_step rfl (PS_fieldAddr fa28_3 rfl) ?_
    refine GL_unit (PU_store (((TurnV.l0.comp Land.l1).comp (Lens.arr (n := 9) Thing.fl (by first | omega | exact hb.1 | exact hb.2 | exact hbX.1 | exact hbX.2 | (dsimp only; omega)) (by first | omega | exact hb.1 | exact hb.2 | exact hbX.1 | exact hbX.2 | (dsimp only; omega)))).comp Thing.l3) rfl rfl rfl sz3 rfl .head) ?_
    refine GL_nil ?_
    refine GQ_sub (.cons (k := 0) rfl (.cons (k := 3) rfl (.cons (k := 4) rfl (.cons (k := 9) rfl (.cons (k := 47) rfl (.cons (k := 48) rfl (.cons (k := 49) rfl (.nil _)))))))) ?_
    refine GQ_then ?_
    refine G_swap (fun _ => .head) (congrArg (fun q => TurnV.enc ⟨q, _, _⟩) (Turn.place_eq X hx.1 hx.2 1 0)) ?_
    refine G_region ?_
    refine GL_step rfl (PS_move rfl) ?_
    refine GL_step rfl (PS_move rfl) ?_
    refine GL_step rfl (PS_move rfl) ?_
    refine GL_step rfl (PS_nilCheck rfl) ?_
    refine GL_step rfl (PS_fieldAddr fa28_0 rfl) ?_
    refine GL_step rfl (PS_load rfl tys9 (.head _) (((TurnV.l0.comp Land.l1).comp (Lens.arr (n := 9) Thing.fl (by first | omega | exact hb.1 | exact hb.2 | exact hbX.1 | exact hbX.2 | (dsimp only; omega)) (by first | omega | exact hb.1 | exact hb.2 | exact hbX.1 | exact hbX.2 | (dsimp only; omega)))).comp Thing.l0) rfl rfl) ?_
    refine GL_step rfl (PS_build pl48 zv48 rfl (.cons Ing.Event.l0 rfl rfl rfl (.cons Ing.Event.l3 rfl rfl rfl (.cons Ing.Event.l8 rfl rfl rfl .nil)))) ?_
    refine GL_callL rfl cf17 (.cons rfl (.cons rfl .nil)) (.cons .head (.cons .head .nil)) (rules_turn_happens_spec _ (X.place ((Turn.pickL T.w T.own o.nth o.name o.all_).getD k.toNat 0) 1 0) _ { Turn.evk 6 with other := 0, thing := ((X.place ((Turn.pickL T.w T.own o.nth o.name o.all_).getD k.toNat 0) 1 0).w.things.at ((Turn.pickL T.w T.own o.nth o.name o.all_).getD k.toNat 0)).name } (by assumption) hbX (show 0 < 6 by omega) (show X.out.length ≤ 100000 by omega)) (fun v106 B hv => ?_)
    obtain ⟨y107, rfl, y108, rfl⟩ := hv
    refine GL_nil ?_
    refine GQ_sub (.cons (k := 0) rfl (.cons (k := 3) rfl (.cons (k := 4) rfl (.cons (k := 47) rfl (.cons (k := 48) rfl (.cons (k := 49) rfl (.nil _))))))) ?_
    refine GQ_block ?_
    refine GQ_block ?_
    refine GQ_then ?_
    refine G_region ?_
    refine GL_step rfl (PS_add rfl rfl (IntWalk.i64_in _ (by first | omega | exact hb.1 | exact hb.2 | exact hbX.1 | exact hbX.2 | (dsimp only; omega)))) ?_
    refine GL_step rfl (PS_move rfl) ?_
    refine GL_nil ?_
    refine GQ_sub (.cons (k := 0) rfl (.cons (k := 3) rfl (.cons (k := 4) rfl (.cons (k := 47) rfl (.cons (k := 48) rfl (.cons (k := 49) rfl (.nil _))))))) ?_
    refine GQ_next3_ (k + 1) _ _ ?_ ?_ (.cons (k := 49) rfl (.cons (k := 0) rfl (.cons (k := 3) rfl (.cons (k := 4) rfl (.cons (k := 47) rfl (.cons (k := 48) rfl (.nil _))))))) (.refl _)
    · have hq : X.letOne o.verb 0 ((Turn.pickL T.w T.own o.nth o.name o.all_).getD k.toNat 0) = _ := ((if_f c29).trans ((if_f c30).trans (if_t c31)))
      have hol := Turn.letOne_out X o.verb 0 ((Turn.pickL T.w T.own o.nth o.name o.all_).getD k.toNat 0)
      have hob := Turn.letOne_b X o.verb 0 ((Turn.pickL T.w T.own o.nth o.name o.all_).getD k.toNat 0)
      (try rw [Turn.place_name hx.1 hx.2] at *)
      (try rw [Turn.place_name' hx.1 hx.2 (show 0 ≤ 0 by omega)] at *)
      exact ⟨by omega, by omega, by rw [hI13, Turn.letAll_step hI11 (by omega), hq]; (try rfl), (by rw [hq] at hob; exact hob.trans hI14), (by rw [hq] at hol; first | omega | (simp only [Turn.tell_len] at *; omega)), by assumption, hI17⟩
    · omega
   have c31p := kz c31
   refine G_seq ?_
   refine G_region ?_
   refine GL_step rfl (PS_move rfl) ?_
   refine GL_step rfl (PS_nilCheck rfl) ?_
   refine GL_step rfl (PS_fieldAddr fa55_0 rfl) ?_
   refine GL_step rfl (PS_loadA rfl tya34 (.head _) TurnV.l0 rfl) ?_
   refine GL_step rfl (PS_move rfl) ?_
   refine GL_step rfl (PS_move rfl) ?_
   refine GL_pure rfl cf45 (.cons rfl (.cons rfl (.cons rfl .nil))) (fun w hS => land_Inside_spec _ _ _ w) ?_
   refine GL_step rfl (PS_assign rfl) ?_
   refine GL_nil ?_
   refine GQ_sub (.cons (k := 0) rfl (.cons (k := 3) rfl (.cons (k := 4) rfl (.cons (k := 9) rfl (.cons (k := 47) rfl (.cons (k := 48) rfl (.cons (k := 49) rfl (.cons (k := 138) rfl (.nil _))))))))) ?_
   refine GQ_then ?_
   refine G_cond rfl (fun c32 => ?_) (fun c32 => ?_)
   ·
    have c32p := kz c32
    refine G_region ?_
    refine GL_step rfl (PS_move rfl) ?_
    refine GL_callL rfl cf32 (.cons rfl (.cons rfl .nil)) (.cons .head (.cons .head .nil)) (rules_turn_tell_spec _ X _ _ (by assumption) (by rw [hI14]; exact hb) (by omega)) (fun v109 B hv => ?_)
    obtain ⟨y110, rfl, y111, rfl⟩ := hv
    refine GL_nil ?_
    refine GQ_sub (.cons (k := 0) rfl (.cons (k := 3) rfl (.cons (k := 4) rfl (.cons (k := 47) rfl (.cons (k := 48) rfl (.cons (k := 49) rfl (.nil _))))))) ?_
    refine GQ_block ?_
    refine GQ_block ?_
    refine GQ_then ?_
    refine G_region ?_
    refine GL_step rfl (PS_add rfl rfl (IntWalk.i64_in _ (by first | omega | exact hb.1 | exact hb.2 | exact hbX.1 | exact hbX.2 | (dsimp only; omega)))) ?_
    refine GL_step rfl (PS_move rfl) ?_
    refine GL_nil ?_
    refine GQ_sub (.cons (k := 0) rfl (.cons (k := 3) rfl (.cons (k := 4) rfl (.cons (k := 47) rfl (.cons (k := 48) rfl (.cons (k := 49) rfl (.nil _))))))) ?_
    refine GQ_next3_ (k + 1) _ _ ?_ ?_ (.cons (k := 49) rfl (.cons (k := 0) rfl (.cons (k := 3) rfl (.cons (k := 4) rfl (.cons (k := 47) rfl (.cons (k := 48) rfl (.nil _))))))) (.refl _)
    · have hq : X.letOne o.verb 0 ((Turn.pickL T.w T.own o.nth o.name o.all_).getD k.toNat 0) = _ := ((if_f c29).trans ((if_f c30).trans ((if_f c31).trans (if_t c32))))
      have hol := Turn.letOne_out X o.verb 0 ((Turn.pickL T.w T.own o.nth o.name o.all_).getD k.toNat 0)
      have hob := Turn.letOne_b X o.verb 0 ((Turn.pickL T.w T.own o.nth o.name o.all_).getD k.toNat 0)
      (try rw [Turn.place_name hx.1 hx.2] at *)
      (try rw [Turn.place_name' hx.1 hx.2 (show 0 ≤ 0 by omega)] at *)
      exact ⟨by omega, by omega, by rw [hI13, Turn.letAll_step hI11 (by omega), hq]; (try rfl), (by rw [hq] at hob; exact hob.trans hI14), (by rw [hq] at hol; first | omega | (simp only [Turn.tell_len] at *; omega)), by assumption, hI17⟩
    · omega
   have c32p := kz c32
   refine G_seq ?_
   refine G_region ?_
   refine GL_step rfl (PS_move rfl) ?_
   refine GL_step rfl (PS_move rfl) ?_
   refine GL_step rfl (PS_move rfl) ?_
   refine GL_step rfl (PS_nilCheck rfl) ?_
   refine GL_step rfl (PS_fieldAddr fa28_2 rfl) ?_
   refine GL_unit (PU_store (((TurnV.l0.comp Land.l1).comp (Lens.arr (n := 9) Thing.fl (by first | omega | exact hb.1 | exact hb.2 | exact hbX.1 | exact hbX.2 | (dsimp only; omega)) (by first | omega | exact hb.1 | exact hb.2 | exact hbX.1 | exact hbX.2 | (dsimp only; omega)))).comp Thing.l2) rfl rfl rfl sz3 rfl .head) ?_
   refine GL_step rfl (PS_nilCheck rfl) ?_
   refine GL_step rfl (PS_fieldAddr fa28_3 rfl) ?_
   refine GL_unit (PU_store (((TurnV.l0.comp Land.l1).comp (Lens.arr (n := 9) Thing.fl (by first | omega | exact hb.1 | exact hb.2 | exact hbX.1 | exact hbX.2 | (dsimp only; omega)) (by first | omega | exact hb.1 | exact hb.2 | exact hbX.1 | exact hbX.2 | (dsimp only; omega)))).comp Thing.l3) rfl rfl rfl sz3 rfl .head) ?_
   refine GL_nil ?_
   refine GQ_sub (.cons (k := 0) rfl (.cons (k := 3) rfl (.cons (k := 4) rfl (.cons (k := 9) rfl (.cons (k := 47) rfl (.cons (k := 48) rfl (.cons (k := 49) rfl (.nil _)))))))) ?_
   refine GQ_then ?_
   refine G_swap (fun _ => .head) (congrArg (fun q => TurnV.enc ⟨q, _, _⟩) (Turn.place_eq X hx.1 hx.2 2 0)) ?_
   refine G_planN (N := 15) [0, 0, 2, 6, 14, 0, 0, 32, 160, 416, 992, 2016, 4064, 8190, 16383] mix (by kernel_rfl) rfl ?_
   refine Plan_float 0 rfl rfl (by kernel_rfl) (OK_s (EX_s (PS_move rfl))) ?_
   refine Plan_float 1 rfl rfl (by kernel_rfl) (OK_s (EX_s (PS_move rfl))) ?_
   refine Plan_float 2 rfl rfl (by kernel_rfl) (OK_s (EX_s (PS_nilCheck rfl))) ?_
   refine Plan_float 3 rfl rfl (by kernel_rfl) (OK_s (EX_s (PS_fieldAddr fa28_0 rfl))) ?_
   refine Plan_float 4 rfl rfl (by kernel_rfl) (OK_s (EX_s (PS_load rfl tys9 (.head _) (((TurnV.l0.comp Land.l1).comp (Lens.arr (n := 9) Thing.fl (by first | omega | exact hb.1 | exact hb.2 | exact hbX.1 | exact hbX.2 | (dsimp only; omega)) (by first | omega | exact hb.1 | exact hb.2 | exact hbX.1 | exact hbX.2 | (dsimp only; omega)))).comp Thing.l0) rfl rfl))) ?_
   refine Plan_float 5 rfl rfl (by kernel_rfl) (OK_s (EX_s (PS_move rfl))) ?_
   refine Plan_float 6 rfl rfl (by kernel_rfl) (OK_s (EX_s (PS_move rfl))) ?_
   refine Plan_float 7 rfl rfl (by kernel_rfl) (OK_s (EX_s (PS_nilCheck rfl))) ?_
   refine Plan_float 8 rfl rfl (by kernel_rfl) (OK_s (EX_s (PS_fieldAddr fa55_0 rfl))) ?_
   refine Plan_float 9 rfl rfl (by kernel_rfl) (OK_s (EX_s (PS_fieldAddr fa34_1 rfl))) ?_
   refine Plan_float 10 rfl rfl (by kernel_rfl) (OK_s (EX_s (PS_indexAddr ia29 rfl rfl (by first | omega | exact hb.1 | exact hb.2 | exact hbX.1 | exact hbX.2 | (dsimp only; omega)) (by first | omega | exact hb.1 | exact hb.2 | exact hbX.1 | exact hbX.2 | (dsimp only; omega))))) ?_
   refine Plan_float 11 rfl rfl (by kernel_rfl) (OK_s (EX_s (PS_fieldAddr fa28_0 rfl))) ?_
   refine Plan_float 12 rfl rfl (by kernel_rfl) (OK_s (EX_s (PS_load rfl tys9 (.head _) (((TurnV.l0.comp Land.l1).comp (Lens.arr (n := 9) Thing.fl (by first | omega | exact hb.1 | exact hb.2 | exact hbX.1 | exact hbX.2 | (dsimp only; omega)) (by first | omega | exact hb.1 | exact hb.2 | exact hbX.1 | exact hbX.2 | (dsimp only; omega)))).comp Thing.l0) rfl rfl))) ?_
   refine Plan_float 13 rfl rfl (by kernel_rfl) (OK_s (EX_s (PS_build pl48 zv48 rfl (.cons Ing.Event.l0 rfl rfl rfl (.cons Ing.Event.l3 rfl rfl rfl (.cons Ing.Event.l8 rfl rfl rfl (.cons Ing.Event.l9 rfl rfl rfl .nil))))))) ?_
   refine Plan_chain 14 rfl (by kernel_rfl) ?_
   refine GL_callL rfl cf17 (.cons rfl (.cons rfl .nil)) (.cons .head (.cons .head .nil)) (rules_turn_happens_spec _ (X.place ((Turn.pickL T.w T.own o.nth o.name o.all_).getD k.toNat 0) 2 0) _ { Turn.evk 5 with thing := ((X.place ((Turn.pickL T.w T.own o.nth o.name o.all_).getD k.toNat 0) 2 0).w.things.at ((Turn.pickL T.w T.own o.nth o.name o.all_).getD k.toNat 0)).name, text := ((X.place ((Turn.pickL T.w T.own o.nth o.name o.all_).getD k.toNat 0) 2 0).w.things.at 0).name } (by assumption) hbX (show (-1 : Int) < 6 by decide) (show X.out.length ≤ 100000 by omega)) (fun v112 B hv => ?_)
   obtain ⟨y113, rfl, y114, rfl⟩ := hv
   refine GL_hand rfl ⟨?_, ?_⟩
   · exact (Pend_skip (by kernel_rfl) (Pend_skip (by kernel_rfl) (Pend_skip (by kernel_rfl) (Pend_skip (by kernel_rfl) (Pend_skip (by kernel_rfl) (Pend_skip (by kernel_rfl) (Pend_skip (by kernel_rfl) (Pend_skip (by kernel_rfl) (Pend_skip (by kernel_rfl) (Pend_skip (by kernel_rfl) (Pend_skip (by kernel_rfl) (Pend_skip (by kernel_rfl) (Pend_skip (by kernel_rfl) (Pend_skip (by kernel_rfl) Pend_nil))))))))))))))
   refine Plan_end (by kernel_rfl) ?_
   refine GQ_sub (.cons (k := 0) rfl (.cons (k := 3) rfl (.cons (k := 4) rfl (.cons (k := 47) rfl (.cons (k := 48) rfl (.cons (k := 49) rfl (.nil _))))))) ?_
   refine GQ_block ?_
   refine GQ_block ?_
   refine GQ_then ?_
   refine G_region ?_
   refine GL_step rfl (PS_add rfl rfl (IntWalk.i64_in _ (by first | omega | exact hb.1 | exact hb.2 | exact hbX.1 | exact hbX.2 | (dsimp only; omega)))) ?_
   refine GL_step rfl (PS_move rfl) ?_
   refine GL_nil ?_
   refine GQ_sub (.cons (k := 0) rfl (.cons (k := 3) rfl (.cons (k := 4) rfl (.cons (k := 47) rfl (.cons (k := 48) rfl (.cons (k := 49) rfl (.nil _))))))) ?_
   refine GQ_next3_ (k + 1) _ _ ?_ ?_ (.cons (k := 49) rfl (.cons (k := 0) rfl (.cons (k := 3) rfl (.cons (k := 4) rfl (.cons (k := 47) rfl (.cons (k := 48) rfl (.nil _))))))) (.refl _)
   · have hq : X.letOne o.verb 0 ((Turn.pickL T.w T.own o.nth o.name o.all_).getD k.toNat 0) = _ := ((if_f c29).trans ((if_f c30).trans ((if_f c31).trans (if_f c32))))
     have hol := Turn.letOne_out X o.verb 0 ((Turn.pickL T.w T.own o.nth o.name o.all_).getD k.toNat 0)
     have hob := Turn.letOne_b X o.verb 0 ((Turn.pickL T.w T.own o.nth o.name o.all_).getD k.toNat 0)
     (try rw [Turn.place_name hx.1 hx.2] at *)
     (try rw [Turn.place_name' hx.1 hx.2 (show 0 ≤ 0 by omega)] at *)
     exact ⟨by omega, by omega, by rw [hI13, Turn.letAll_step hI11 (by omega), hq]; (try rfl), (by rw [hq] at hob; exact hob.trans hI14), (by rw [hq] at hol; first | omega | (simp only [Turn.tell_len] at *; omega)), by assumption, hI17⟩
   · omega
  have c28p := kz c28
  obtain rfl : k = ((Turn.pickL T.w T.own o.nth o.name o.all_).length : Int) := by omega
  rw [Turn.drop_end] at hI13
  refine G_exit ?_
  refine GQ_then_exit ?_
  refine GQ_then_exit ?_
  refine GQ_block_exit ?_
  refine GQ_end rfl .nil ?_
  intro w1 hS
  have hS := (hS.perm (Pulls.perm (.cons .head (.cons .head .nil)))).headL
  refine ⟨_, ⟨?gq7, rfl, ?hl7, ?hB7⟩, hS⟩
  case hB7 => rw [hI13]; rfl
  case hl7 => rw [hI13]; exact hI16
 have c27p := kz c27
 rw [y95] at c27
 refine G_skip ?_
 refine GQ_sub (.cons (k := 0) rfl (.cons (k := 3) rfl (.cons (k := 4) rfl (.cons (k := 6) rfl (.nil _))))) ?_
 refine GQ_then ?_
 refine G_seq ?_
 refine G_region ?_
 refine GL_step rfl (PS_move rfl) ?_
 refine GL_step rfl (PS_len_slice rfl Tryd.underlying58 rfl) ?_
 refine GL_step rfl (PS_move rfl) ?_
 refine GL_nil ?_
 refine GQ_sub (.cons (k := 0) rfl (.cons (k := 3) rfl (.cons (k := 4) rfl (.cons (k := 47) rfl (.cons (k := 48) rfl (.cons (k := 49) rfl (.nil _))))))) ?_
 refine GQ_then ?_
 refine G_block ?_
 refine G_subF (.cons (k := 49) rfl (.cons (k := 0) rfl (.cons (k := 3) rfl (.cons (k := 4) rfl (.cons (k := 47) rfl (.cons (k := 48) rfl (.nil _))))))) ?_
 refine G_pull (.tail (.tail (.tail (.tail .head)))) ?_
 refine G_pull (.tail .head) ?_
 refine G_loop3_ (fun (k : Int) (X : Turn) (h : Hd) => 0 ≤ k ∧ k ≤ ((Turn.pickL T.w T.own o.nth o.name o.all_).length : Int) ∧ T.letGo o = X.letAll o.verb 0 ((Turn.pickL T.w T.own o.nth o.name o.all_).drop k.toNat) ∧ X.b = T.b ∧ (X.out.length : Int) ≤ T.out.length + 2 + k ∧ h.len = X.out.length ∧ ((Turn.pickL T.w T.own o.nth o.name o.all_).length : Int) ≤ 9) (fun (k : Int) (X : Turn) (h : Hd) => (((Turn.pickL T.w T.own o.nth o.name o.all_).length : Int) - k).toNat) (fun (k : Int) (X : Turn) (h : Hd) => [(49, .int .i64 k)]) (fun (k : Int) (X : Turn) (h : Hd) => [Res.box b 55 (TurnV.enc ⟨X.w, X.b, h⟩), Res.own h 48 16 (X.out.flatMap Ing.Event.enc)]) (0) (_) (_) ?_ rfl rfl (fun k X h hI1 => ?_)
 · have ht : T.letTo o = (T, 0, true) := (if_f c1).trans (if_f c14)
   have hgo : T.letGo o = T.letL 0 o := (show T.letGo o = (T.letTo o).1.letL (T.letTo o).2.1 o from if_neg (by rw [ht]; simp)).trans (by rw [ht])
   exact ⟨by omega, by omega, hgo.trans (congrArg (fun q => Turn.letAll q _ _ _) (if_f c27)), rfl, by have := T.box_out o.second; have := T.somebody_out o.second; (try simp only [Turn.tell_len]); omega, by assumption, by have := (Turn.pickL_sub T.w T.own o.nth o.name o.all_).length_le; have := Turn.own_len T; omega⟩
 obtain ⟨hI11, hI12, hI13, hI14, hI15, hI16, hI17⟩ := hI1
 refine G_seq ?_
 refine G_region ?_
 refine GL_step rfl (PS_lss rfl rfl) ?_
 refine GL_nil ?_
 refine GQ_then ?_
 refine G_seq ?_
 refine G_cond rfl (fun c33 => ?_) (fun c33 => ?_)
 ·
  have c33p := kz c33
  have hx : 0 ≤ (Turn.pickL T.w T.own o.nth o.name o.all_).getD k.toNat 0 ∧ (Turn.pickL T.w T.own o.nth o.name o.all_).getD k.toNat 0 < 9 := Turn.own_rng (Turn.pickL_mem (Line.getD_memI (xs := (Turn.pickL T.w T.own o.nth o.name o.all_)) (i := k.toNat) (by omega)))
  have hbX : 0 ≤ X.b ∧ X.b < 6 := by rw [hI14]; exact hb
  refine G_skip ?_
  refine GQ_sub (.cons (k := 0) rfl (.cons (k := 3) rfl (.cons (k := 4) rfl (.cons (k := 47) rfl (.cons (k := 48) rfl (.cons (k := 49) rfl (.nil _))))))) ?_
  refine GQ_then ?_
  refine G_seq ?_
  refine G_block ?_
  refine G_seq ?_
  refine G_region ?_
  refine GL_step rfl (PS_idxS is58 (by decide) (Kn.own (.tail _ (.tail _ (.tail _ (.head _))))) rfl rfl (by omega) (by omega)) ?_
  refine GL_step rfl (PS_ldInt rfl tys3 (Kn.own (.tail _ (.tail _ (.tail _ (.head _))))) (by omega)) ?_
  refine GL_step rfl (PS_assign rfl) ?_
  refine GL_nil ?_
  refine GQ_sub (.cons (k := 0) rfl (.cons (k := 3) rfl (.cons (k := 4) rfl (.cons (k := 8) rfl (.cons (k := 47) rfl (.cons (k := 48) rfl (.cons (k := 49) rfl (.nil _)))))))) ?_
  refine GQ_then ?_
  refine G_seq ?_
  refine G_region ?_
  refine GL_step rfl (PS_move rfl) ?_
  refine GL_step rfl (PS_move rfl) ?_
  refine GL_step rfl (PS_nilCheck rfl) ?_
  refine GL_step rfl (PS_fieldAddr fa55_0 rfl) ?_
  refine GL_step rfl (PS_fieldAddr fa34_1 rfl) ?_
  refine GL_step rfl (PS_indexAddr ia29 rfl rfl (by first | omega | exact hb.1 | exact hb.2 | exact hbX.1 | exact hbX.2 | (dsimp only; omega)) (by first | omega | exact hb.1 | exact hb.2 | exact hbX.1 | exact hbX.2 | (dsimp only; omega))) ?_
  refine GL_step rfl (PS_assign rfl) ?_
  refine GL_nil ?_
  refine GQ_sub (.cons (k := 0) rfl (.cons (k := 3) rfl (.cons (k := 4) rfl (.cons (k := 8) rfl (.cons (k := 9) rfl (.cons (k := 47) rfl (.cons (k := 48) rfl (.cons (k := 49) rfl (.nil _))))))))) ?_
  refine GQ_then ?_
  refine G_block ?_
  refine G_seq ?_
  refine G_region ?_
  refine GL_step rfl (PS_move rfl) ?_
  refine GL_step rfl (PS_nilCheck rfl) ?_
  refine GL_step rfl (PS_fieldAddr fa28_1 rfl) ?_
  refine GL_step rfl (PS_load rfl tys3 (.head _) (((TurnV.l0.comp Land.l1).comp (Lens.arr (n := 9) Thing.fl (by first | omega | exact hb.1 | exact hb.2 | exact hbX.1 | exact hbX.2 | (dsimp only; omega)) (by first | omega | exact hb.1 | exact hb.2 | exact hbX.1 | exact hbX.2 | (dsimp only; omega)))).comp Thing.l1) rfl rfl) ?_
  refine GL_step rfl (PS_eql rfl rfl) ?_
  refine GL_step rfl (PS_move rfl) ?_
  refine GL_gt (t := 87) rfl rfl rfl (fun q => PS_move rfl) ?_
  refine GL_gt (t := 87) rfl rfl rfl (fun q => PS_nilCheck (cvE rfl q)) ?_
  refine GL_gt (t := 87) rfl rfl rfl (fun q => PS_fieldAddr fa28_4 (cvE rfl q)) ?_
  refine GL_gt (t := 87) rfl rfl rfl (fun q => by have q1 := q; (try simp at q1); exact PS_load (cvE rfl q) tys4 (.head _) (((TurnV.l0.comp Land.l1).comp (Lens.arr (n := 9) Thing.fl (by first | omega | exact hb.1 | exact hb.2 | exact hbX.1 | exact hbX.2 | (dsimp only; omega)) (by first | omega | exact hb.1 | exact hb.2 | exact hbX.1 | exact hbX.2 | (dsimp only; omega)))).comp Thing.l4) rfl rfl) ?_
  refine GL_step rfl (PS_and rfl rfl (fun h => h)) ?_
  refine GL_step rfl (PS_assign rfl) ?_
  refine GL_nil ?_
  refine GQ_sub (.cons (k := 0) rfl (.cons (k := 3) rfl (.cons (k := 4) rfl (.cons (k := 8) rfl (.cons (k := 9) rfl (.cons (k := 47) rfl (.cons (k := 48) rfl (.cons (k := 49) rfl (.cons (k := 81) rfl (.nil _)))))))))) ?_
  refine GQ_then ?_
  refine G_cond rfl (fun c34 => ?_) (fun c34 => ?_)
  ·
   have c34p := kz c34
   refine G_region ?_
   refine GL_step rfl (PS_move rfl) ?_
   refine GL_callL rfl cf32 (.cons rfl (.cons rfl .nil)) (.cons .head (.cons .head .nil)) (rules_turn_tell_spec _ X _ _ (by assumption) (by rw [hI14]; exact hb) (by omega)) (fun v115 B hv => ?_)
   obtain ⟨y116, rfl, y117, rfl⟩ := hv
   refine GL_nil ?_
   refine GQ_sub (.cons (k := 0) rfl (.cons (k := 3) rfl (.cons (k := 4) rfl (.cons (k := 47) rfl (.cons (k := 48) rfl (.cons (k := 49) rfl (.nil _))))))) ?_
   refine GQ_block ?_
   refine GQ_block ?_
   refine GQ_then ?_
   refine G_region ?_
   refine GL_step rfl (PS_add rfl rfl (IntWalk.i64_in _ (by first | omega | exact hb.1 | exact hb.2 | exact hbX.1 | exact hbX.2 | (dsimp only; omega)))) ?_
   refine GL_step rfl (PS_move rfl) ?_
   refine GL_nil ?_
   refine GQ_sub (.cons (k := 0) rfl (.cons (k := 3) rfl (.cons (k := 4) rfl (.cons (k := 47) rfl (.cons (k := 48) rfl (.cons (k := 49) rfl (.nil _))))))) ?_
   refine GQ_next3_ (k + 1) _ _ ?_ ?_ (.cons (k := 49) rfl (.cons (k := 0) rfl (.cons (k := 3) rfl (.cons (k := 4) rfl (.cons (k := 47) rfl (.cons (k := 48) rfl (.nil _))))))) (.refl _)
   · have hq : X.letOne o.verb 0 ((Turn.pickL T.w T.own o.nth o.name o.all_).getD k.toNat 0) = _ := (if_t c34)
     have hol := Turn.letOne_out X o.verb 0 ((Turn.pickL T.w T.own o.nth o.name o.all_).getD k.toNat 0)
     have hob := Turn.letOne_b X o.verb 0 ((Turn.pickL T.w T.own o.nth o.name o.all_).getD k.toNat 0)
     (try rw [Turn.place_name hx.1 hx.2] at *)
     (try rw [Turn.place_name' hx.1 hx.2 (show 0 ≤ 0 by omega)] at *)
     exact ⟨by omega, by omega, by rw [hI13, Turn.letAll_step hI11 (by omega), hq]; (try rfl), (by rw [hq] at hob; exact hob.trans hI14), (by rw [hq] at hol; first | omega | (simp only [Turn.tell_len] at *; omega)), by assumption, hI17⟩
   · omega
  have c34p := kz c34
  refine G_seq ?_
  refine G_region ?_
  refine GL_step rfl (PS_fieldAddr fa36_0 rfl) ?_
  refine GL_step rfl (PS_load rfl tys3 (.tail _ (.tail _ (.tail _ (.tail _ (.head _))))) Order.l0 rfl rfl) ?_
  refine GL_step rfl (PS_eql rfl rfl) ?_
  refine GL_step rfl (PS_assign rfl) ?_
  refine GL_nil ?_
  refine GQ_sub (.cons (k := 0) rfl (.cons (k := 3) rfl (.cons (k := 4) rfl (.cons (k := 8) rfl (.cons (k := 9) rfl (.cons (k := 47) rfl (.cons (k := 48) rfl (.cons (k := 49) rfl (.cons (k := 95) rfl (.nil _)))))))))) ?_
  refine GQ_then ?_
  refine G_cond rfl (fun c35 => ?_) (fun c35 => ?_)
  ·
   have c35p := kz c35
   refine G_seq ?_
   refine G_planN (N := 19) [0, 0, 0, 0, 8, 24, 56, 4, 132, 388, 1020, 2044, 4092, 8189, 16381, 32765, 65535, 131071, 262143] mix (by kernel_rfl) rfl ?_
   refine Plan_float 0 rfl rfl (by kernel_rfl) (OK_s (EX_s (PS_move rfl))) ?_
   refine Plan_float 1 rfl rfl (by kernel_rfl) (OK_s (EX_s (PS_move rfl))) ?_
   refine Plan_float 2 rfl rfl (by kernel_rfl) (OK_s (EX_s (PS_move rfl))) ?_
   refine Plan_float 3 rfl rfl (by kernel_rfl) (OK_s (EX_s (PS_move rfl))) ?_
   refine Plan_float 4 rfl rfl (by kernel_rfl) (OK_s (EX_s (PS_nilCheck rfl))) ?_
   refine Plan_float 5 rfl rfl (by kernel_rfl) (OK_s (EX_s (PS_fieldAddr fa55_1 rfl))) ?_
   refine Plan_float 6 rfl rfl (by kernel_rfl) (OK_s (EX_s (PS_load rfl tys3 (.head _) TurnV.l1 rfl rfl))) ?_
   refine Plan_float 7 rfl rfl (by kernel_rfl) (OK_s (EX_s (PS_nilCheck rfl))) ?_
   refine Plan_float 8 rfl rfl (by kernel_rfl) (OK_s (EX_s (PS_fieldAddr fa55_0 rfl))) ?_
   refine Plan_float 9 rfl rfl (by kernel_rfl) (OK_s (EX_s (PS_fieldAddr fa34_2 rfl))) ?_
   refine Plan_float 10 rfl rfl (by kernel_rfl) (OK_s (EX_s (PS_indexAddr ia32 rfl rfl (by first | omega | exact hb.1 | exact hb.2 | exact hbX.1 | exact hbX.2 | (dsimp only; omega)) (by first | omega | exact hb.1 | exact hb.2 | exact hbX.1 | exact hbX.2 | (dsimp only; omega))))) ?_
   refine Plan_float 11 rfl rfl (by kernel_rfl) (OK_s (EX_s (PS_fieldAddr fa31_3 rfl))) ?_
   refine Plan_float 12 rfl rfl (by kernel_rfl) (OK_s (EX_s (PS_load rfl tys3 (.head _) (((TurnV.l0.comp Land.l2).comp (Lens.arr (n := 6) Being.fl (by first | omega | exact hb.1 | exact hb.2 | exact hbX.1 | exact hbX.2 | (dsimp only; omega)) (by first | omega | exact hb.1 | exact hb.2 | exact hbX.1 | exact hbX.2 | (dsimp only; omega)))).comp Being.l3) rfl rfl))) ?_
   refine Plan_float 13 rfl rfl (by kernel_rfl) (OK_s (EX_s (PS_nilCheck rfl))) ?_
   refine Plan_float 14 rfl rfl (by kernel_rfl) (OK_s (EX_s (PS_fieldAddr fa28_2 rfl))) ?_
   refine Plan_chain 15 rfl (by kernel_rfl) ?_
   refine GL_unit (PU_store (((TurnV.l0.comp Land.l1).comp (Lens.arr (n := 9) Thing.fl (by first | omega | exact hb.1 | exact hb.2 | exact hbX.1 | exact hbX.2 | (dsimp only; omega)) (by first | omega | exact hb.1 | exact hb.2 | exact hbX.1 | exact hbX.2 | (dsimp only; omega)))).comp Thing.l2) rfl rfl rfl sz3 rfl .head) ?_
   refine GL_hand0 rfl ⟨?_, ?_⟩
   · exact (Pend_skip (by kernel_rfl) (Pend_skip (by kernel_rfl) (Pend_skip (by kernel_rfl) (Pend_skip (by kernel_rfl) (Pend_skip (by kernel_rfl) (Pend_skip (by kernel_rfl) (Pend_skip (by kernel_rfl) (Pend_skip (by kernel_rfl) (Pend_skip (by kernel_rfl) (Pend_skip (by kernel_rfl) (Pend_skip (by kernel_rfl) (Pend_skip (by kernel_rfl) (Pend_skip (by kernel_rfl) (Pend_okv rfl (OK_s (EX_s (PS_move rfl))) rfl rfl (Pend_skip (by kernel_rfl) Pend_nil)))))))))))))))
   refine Plan_float 16 rfl rfl (by kernel_rfl) (OK_s (EX_s (PS_nilCheck rfl))) ?_
   refine Plan_float 17 rfl rfl (by kernel_rfl) (OK_s (EX_s (PS_fieldAddr fa28_3 rfl))) ?_
   refine Plan_chain 18 rfl (by kernel_rfl) ?_
   refine GL_unit (PU_store (((TurnV.l0.comp Land.l1).comp (Lens.arr (n := 9) Thing.fl (by first | omega | exact hb.1 | exact hb.2 | exact hbX.1 | exact hbX.2 | (dsimp only; omega)) (by first | omega | exact hb.1 | exact hb.2 | exact hbX.1 | exact hbX.2 | (dsimp only; omega)))).comp Thing.l3) rfl rfl rfl sz3 rfl .head) ?_
   refine GL_hand0 rfl ⟨?_, ?_⟩
   · exact (Pend_skip (by kernel_rfl) (Pend_skip (by kernel_rfl) (Pend_skip (by kernel_rfl) (Pend_skip (by kernel_rfl) (Pend_skip (by kernel_rfl) (Pend_skip (by kernel_rfl) (Pend_skip (by kernel_rfl) (Pend_skip (by kernel_rfl) (Pend_skip (by kernel_rfl) (Pend_skip (by kernel_rfl) (Pend_skip (by kernel_rfl) (Pend_skip (by kernel_rfl) (Pend_skip (by kernel_rfl) (Pend_skip (by kernel_rfl) (Pend_skip (by kernel_rfl) (Pend_skip (by kernel_rfl) (Pend_skip (by kernel_rfl) Pend_nil)))))))))))))))))
   refine Plan_end (by kernel_rfl) ?_
   refine GQ_sub (.cons (k := 0) rfl (.cons (k := 3) rfl (.cons (k := 4) rfl (.cons (k := 8) rfl (.cons (k := 47) rfl (.cons (k := 48) rfl (.cons (k := 49) rfl (.nil _)))))))) ?_
   refine GQ_then ?_
   refine G_swap (fun _ => .head) (congrArg (fun q => TurnV.enc ⟨q, _, _⟩) (Turn.place_eq X hx.1 hx.2 0 (X.w.beings.at X.b).room)) ?_
   refine G_region ?_
   refine GL_step rfl (PS_move rfl) ?_
   refine GL_step rfl (PS_move rfl) ?_
   refine GL_callL rfl cf43 (.cons rfl (.cons rfl (.cons rfl .nil))) (.cons .head (.cons .head .nil)) (rules_turn_thing_spec _ (X.place ((Turn.pickL T.w T.own o.nth o.name o.all_).getD k.toNat 0) 0 X.me.room) _ 4 ((Turn.pickL T.w T.own o.nth o.name o.all_).getD k.toNat 0) (by assumption) hbX hx (show X.out.length ≤ 100000 by omega)) (fun v118 B hv => ?_)
   obtain ⟨y119, rfl, y120, rfl⟩ := hv
   refine GL_nil ?_
   refine GQ_sub (.cons (k := 0) rfl (.cons (k := 3) rfl (.cons (k := 4) rfl (.cons (k := 47) rfl (.cons (k := 48) rfl (.cons (k := 49) rfl (.nil _))))))) ?_
   refine GQ_block ?_
   refine GQ_block ?_
   refine GQ_then ?_
   refine G_region ?_
   refine GL_step rfl (PS_add rfl rfl (IntWalk.i64_in _ (by first | omega | exact hb.1 | exact hb.2 | exact hbX.1 | exact hbX.2 | (dsimp only; omega)))) ?_
   refine GL_step rfl (PS_move rfl) ?_
   refine GL_nil ?_
   refine GQ_sub (.cons (k := 0) rfl (.cons (k := 3) rfl (.cons (k := 4) rfl (.cons (k := 47) rfl (.cons (k := 48) rfl (.cons (k := 49) rfl (.nil _))))))) ?_
   refine GQ_next3_ (k + 1) _ _ ?_ ?_ (.cons (k := 49) rfl (.cons (k := 0) rfl (.cons (k := 3) rfl (.cons (k := 4) rfl (.cons (k := 47) rfl (.cons (k := 48) rfl (.nil _))))))) (.refl _)
   · have hq : X.letOne o.verb 0 ((Turn.pickL T.w T.own o.nth o.name o.all_).getD k.toNat 0) = _ := ((if_f c34).trans (if_t c35))
     have hol := Turn.letOne_out X o.verb 0 ((Turn.pickL T.w T.own o.nth o.name o.all_).getD k.toNat 0)
     have hob := Turn.letOne_b X o.verb 0 ((Turn.pickL T.w T.own o.nth o.name o.all_).getD k.toNat 0)
     (try rw [Turn.place_name hx.1 hx.2] at *)
     (try rw [Turn.place_name' hx.1 hx.2 (show 0 ≤ 0 by omega)] at *)
     exact ⟨by omega, by omega, by rw [hI13, Turn.letAll_step hI11 (by omega), hq]; (try rfl), (by rw [hq] at hob; exact hob.trans hI14), (by rw [hq] at hol; first | omega | (simp only [Turn.tell_len] at *; omega)), by assumption, hI17⟩
   · omega
  have c35p := kz c35
  refine G_seq ?_
  refine G_region ?_
  refine GL_step rfl (PS_fieldAddr fa36_0 rfl) ?_
  refine GL_step rfl (PS_load rfl tys3 (.tail _ (.tail _ (.tail _ (.tail _ (.head _))))) Order.l0 rfl rfl) ?_
  refine GL_step rfl (PS_eql rfl rfl) ?_
  refine GL_step rfl (PS_assign rfl) ?_
  refine GL_nil ?_
  refine GQ_sub (.cons (k := 0) rfl (.cons (k := 3) rfl (.cons (k := 4) rfl (.cons (k := 8) rfl (.cons (k := 9) rfl (.cons (k := 47) rfl (.cons (k := 48) rfl (.cons (k := 49) rfl (.cons (k := 119) rfl (.nil _)))))))))) ?_
  refine GQ_then ?_
  refine G_cond rfl (fun c36 => ?_) (fun c36 => ?_)
  ·
   have c36p := kz c36
   refine G_seq ?_
   refine G_region ?_
   refine GL_step rfl (PS_move rfl) ?_
   refine GL_step rfl (PS_move rfl) ?_
   refine GL_step rfl (PS_move rfl) ?_
   refine GL_step rfl (PS_nilCheck rfl) ?_
   refine GL_step rfl (PS_fieldAddr fa28_2 rfl) ?_
   refine GL_unit (PU_store (((TurnV.l0.comp Land.l1).comp (Lens.arr (n := 9) Thing.fl (by first | omega | exact hb.1 | exact hb.2 | exact hbX.1 | exact hbX.2 | (dsimp only; omega)) (by first | omega | exact hb.1 | exact hb.2 | exact hbX.1 | exact hbX.2 | (dsimp only; omega)))).comp Thing.l2) rfl rfl rfl sz3 rfl .head) ?_
   refine GL_step rfl (PS_nilCheck rfl) ?_
   refine GL_step rfl (PS_fieldAddr fa28_3 rfl) ?_
   refine GL_unit (PU_store (((TurnV.l0.comp Land.l1).comp (Lens.arr (n := 9) Thing.fl (by first | omega | exact hb.1 | exact hb.2 | exact hbX.1 | exact hbX.2 | (dsimp only; omega)) (by first | omega | exact hb.1 | exact hb.2 | exact hbX.1 | exact hbX.2 | (dsimp only; omega)))).comp Thing.l3) rfl rfl rfl sz3 rfl .head) ?_
   refine GL_nil ?_
   refine GQ_sub (.cons (k := 0) rfl (.cons (k := 3) rfl (.cons (k := 4) rfl (.cons (k := 9) rfl (.cons (k := 47) rfl (.cons (k := 48) rfl (.cons (k := 49) rfl (.nil _)))))))) ?_
   refine GQ_then ?_
   refine G_swap (fun _ => .head) (congrArg (fun q => TurnV.enc ⟨q, _, _⟩) (Turn.place_eq X hx.1 hx.2 1 0)) ?_
   refine G_region ?_
   refine GL_step rfl (PS_move rfl) ?_
   refine GL_step rfl (PS_move rfl) ?_
   refine GL_step rfl (PS_move rfl) ?_
   refine GL_step rfl (PS_nilCheck rfl) ?_
   refine GL_step rfl (PS_fieldAddr fa28_0 rfl) ?_
   refine GL_step rfl (PS_load rfl tys9 (.head _) (((TurnV.l0.comp Land.l1).comp (Lens.arr (n := 9) Thing.fl (by first | omega | exact hb.1 | exact hb.2 | exact hbX.1 | exact hbX.2 | (dsimp only; omega)) (by first | omega | exact hb.1 | exact hb.2 | exact hbX.1 | exact hbX.2 | (dsimp only; omega)))).comp Thing.l0) rfl rfl) ?_
   refine GL_step rfl (PS_build pl48 zv48 rfl (.cons Ing.Event.l0 rfl rfl rfl (.cons Ing.Event.l3 rfl rfl rfl (.cons Ing.Event.l8 rfl rfl rfl .nil)))) ?_
   refine GL_callL rfl cf17 (.cons rfl (.cons rfl .nil)) (.cons .head (.cons .head .nil)) (rules_turn_happens_spec _ (X.place ((Turn.pickL T.w T.own o.nth o.name o.all_).getD k.toNat 0) 1 0) _ { Turn.evk 6 with other := 0, thing := ((X.place ((Turn.pickL T.w T.own o.nth o.name o.all_).getD k.toNat 0) 1 0).w.things.at ((Turn.pickL T.w T.own o.nth o.name o.all_).getD k.toNat 0)).name } (by assumption) hbX (show 0 < 6 by omega) (show X.out.length ≤ 100000 by omega)) (fun v121 B hv => ?_)
   obtain ⟨y122, rfl, y123, rfl⟩ := hv
   refine GL_nil ?_
   refine GQ_sub (.cons (k := 0) rfl (.cons (k := 3) rfl (.cons (k := 4) rfl (.cons (k := 47) rfl (.cons (k := 48) rfl (.cons (k := 49) rfl (.nil _))))))) ?_
   refine GQ_block ?_
   refine GQ_block ?_
   refine GQ_then ?_
   refine G_region ?_
   refine GL_step rfl (PS_add rfl rfl (IntWalk.i64_in _ (by first | omega | exact hb.1 | exact hb.2 | exact hbX.1 | exact hbX.2 | (dsimp only; omega)))) ?_
   refine GL_step rfl (PS_move rfl) ?_
   refine GL_nil ?_
   refine GQ_sub (.cons (k := 0) rfl (.cons (k := 3) rfl (.cons (k := 4) rfl (.cons (k := 47) rfl (.cons (k := 48) rfl (.cons (k := 49) rfl (.nil _))))))) ?_
   refine GQ_next3_ (k + 1) _ _ ?_ ?_ (.cons (k := 49) rfl (.cons (k := 0) rfl (.cons (k := 3) rfl (.cons (k := 4) rfl (.cons (k := 47) rfl (.cons (k := 48) rfl (.nil _))))))) (.refl _)
   · have hq : X.letOne o.verb 0 ((Turn.pickL T.w T.own o.nth o.name o.all_).getD k.toNat 0) = _ := ((if_f c34).trans ((if_f c35).trans (if_t c36)))
     have hol := Turn.letOne_out X o.verb 0 ((Turn.pickL T.w T.own o.nth o.name o.all_).getD k.toNat 0)
     have hob := Turn.letOne_b X o.verb 0 ((Turn.pickL T.w T.own o.nth o.name o.all_).getD k.toNat 0)
     (try rw [Turn.place_name hx.1 hx.2] at *)
     (try rw [Turn.place_name' hx.1 hx.2 (show 0 ≤ 0 by omega)] at *)
     exact ⟨by omega, by omega, by rw [hI13, Turn.letAll_step hI11 (by omega), hq]; (try rfl), (by rw [hq] at hob; exact hob.trans hI14), (by rw [hq] at hol; first | omega | (simp only [Turn.tell_len] at *; omega)), by assumption, hI17⟩
   · omega
  have c36p := kz c36
  refine G_seq ?_
  refine G_region ?_
  refine GL_step rfl (PS_move rfl) ?_
  refine GL_step rfl (PS_nilCheck rfl) ?_
  refine GL_step rfl (PS_fieldAddr fa55_0 rfl) ?_
  refine GL_step rfl (PS_loadA rfl tya34 (.head _) TurnV.l0 rfl) ?_
  refine GL_step rfl (PS_move rfl) ?_
  refine GL_step rfl (PS_move rfl) ?_
  refine GL_pure rfl cf45 (.cons rfl (.cons rfl (.cons rfl .nil))) (fun w hS => land_Inside_spec _ _ _ w) ?_
  refine GL_step rfl (PS_assign rfl) ?_
  refine GL_nil ?_
  refine GQ_sub (.cons (k := 0) rfl (.cons (k := 3) rfl (.cons (k := 4) rfl (.cons (k := 9) rfl (.cons (k := 47) rfl (.cons (k := 48) rfl (.cons (k := 49) rfl (.cons (k := 138) rfl (.nil _))))))))) ?_
  refine GQ_then ?_
  refine G_cond rfl (fun c37 => ?_) (fun c37 => ?_)
  ·
   have c37p := kz c37
   refine G_region ?_
   refine GL_step rfl (PS_move rfl) ?_
   refine GL_callL rfl cf32 (.cons rfl (.cons rfl .nil)) (.cons .head (.cons .head .nil)) (rules_turn_tell_spec _ X _ _ (by assumption) (by rw [hI14]; exact hb) (by omega)) (fun v124 B hv => ?_)
   obtain ⟨y125, rfl, y126, rfl⟩ := hv
   refine GL_nil ?_
   refine GQ_sub (.cons (k := 0) rfl (.cons (k := 3) rfl (.cons (k := 4) rfl (.cons (k := 47) rfl (.cons (k := 48) rfl (.cons (k := 49) rfl (.nil _))))))) ?_
   refine GQ_block ?_
   refine GQ_block ?_
   refine GQ_then ?_
   refine G_region ?_
   refine GL_step rfl (PS_add rfl rfl (IntWalk.i64_in _ (by first | omega | exact hb.1 | exact hb.2 | exact hbX.1 | exact hbX.2 | (dsimp only; omega)))) ?_
   refine GL_step rfl (PS_move rfl) ?_
   refine GL_nil ?_
   refine GQ_sub (.cons (k := 0) rfl (.cons (k := 3) rfl (.cons (k := 4) rfl (.cons (k := 47) rfl (.cons (k := 48) rfl (.cons (k := 49) rfl (.nil _))))))) ?_
   refine GQ_next3_ (k + 1) _ _ ?_ ?_ (.cons (k := 49) rfl (.cons (k := 0) rfl (.cons (k := 3) rfl (.cons (k := 4) rfl (.cons (k := 47) rfl (.cons (k := 48) rfl (.nil _))))))) (.refl _)
   · have hq : X.letOne o.verb 0 ((Turn.pickL T.w T.own o.nth o.name o.all_).getD k.toNat 0) = _ := ((if_f c34).trans ((if_f c35).trans ((if_f c36).trans (if_t c37))))
     have hol := Turn.letOne_out X o.verb 0 ((Turn.pickL T.w T.own o.nth o.name o.all_).getD k.toNat 0)
     have hob := Turn.letOne_b X o.verb 0 ((Turn.pickL T.w T.own o.nth o.name o.all_).getD k.toNat 0)
     (try rw [Turn.place_name hx.1 hx.2] at *)
     (try rw [Turn.place_name' hx.1 hx.2 (show 0 ≤ 0 by omega)] at *)
     exact ⟨by omega, by omega, by rw [hI13, Turn.letAll_step hI11 (by omega), hq]; (try rfl), (by rw [hq] at hob; exact hob.trans hI14), (by rw [hq] at hol; first | omega | (simp only [Turn.tell_len] at *; omega)), by assumption, hI17⟩
   · omega
  have c37p := kz c37
  refine G_seq ?_
  refine G_region ?_
  refine GL_step rfl (PS_move rfl) ?_
  refine GL_step rfl (PS_move rfl) ?_
  refine GL_step rfl (PS_move rfl) ?_
  refine GL_step rfl (PS_nilCheck rfl) ?_
  refine GL_step rfl (PS_fieldAddr fa28_2 rfl) ?_
  refine GL_unit (PU_store (((TurnV.l0.comp Land.l1).comp (Lens.arr (n := 9) Thing.fl (by first | omega | exact hb.1 | exact hb.2 | exact hbX.1 | exact hbX.2 | (dsimp only; omega)) (by first | omega | exact hb.1 | exact hb.2 | exact hbX.1 | exact hbX.2 | (dsimp only; omega)))).comp Thing.l2) rfl rfl rfl sz3 rfl .head) ?_
  refine GL_step rfl (PS_nilCheck rfl) ?_
  refine GL_step rfl (PS_fieldAddr fa28_3 rfl) ?_
  refine GL_unit (PU_store (((TurnV.l0.comp Land.l1).comp (Lens.arr (n := 9) Thing.fl (by first | omega | exact hb.1 | exact hb.2 | exact hbX.1 | exact hbX.2 | (dsimp only; omega)) (by first | omega | exact hb.1 | exact hb.2 | exact hbX.1 | exact hbX.2 | (dsimp only; omega)))).comp Thing.l3) rfl rfl rfl sz3 rfl .head) ?_
  refine GL_nil ?_
  refine GQ_sub (.cons (k := 0) rfl (.cons (k := 3) rfl (.cons (k := 4) rfl (.cons (k := 9) rfl (.cons (k := 47) rfl (.cons (k := 48) rfl (.cons (k := 49) rfl (.nil _)))))))) ?_
  refine GQ_then ?_
  refine G_swap (fun _ => .head) (congrArg (fun q => TurnV.enc ⟨q, _, _⟩) (Turn.place_eq X hx.1 hx.2 2 0)) ?_
  refine G_planN (N := 15) [0, 0, 2, 6, 14, 0, 0, 32, 160, 416, 992, 2016, 4064, 8190, 16383] mix (by kernel_rfl) rfl ?_
  refine Plan_float 0 rfl rfl (by kernel_rfl) (OK_s (EX_s (PS_move rfl))) ?_
  refine Plan_float 1 rfl rfl (by kernel_rfl) (OK_s (EX_s (PS_move rfl))) ?_
  refine Plan_float 2 rfl rfl (by kernel_rfl) (OK_s (EX_s (PS_nilCheck rfl))) ?_
  refine Plan_float 3 rfl rfl (by kernel_rfl) (OK_s (EX_s (PS_fieldAddr fa28_0 rfl))) ?_
  refine Plan_float 4 rfl rfl (by kernel_rfl) (OK_s (EX_s (PS_load rfl tys9 (.head _) (((TurnV.l0.comp Land.l1).comp (Lens.arr (n := 9) Thing.fl (by first | omega | exact hb.1 | exact hb.2 | exact hbX.1 | exact hbX.2 | (dsimp only; omega)) (by first | omega | exact hb.1 | exact hb.2 | exact hbX.1 | exact hbX.2 | (dsimp only; omega)))).comp Thing.l0) rfl rfl))) ?_
  refine Plan_float 5 rfl rfl (by kernel_rfl) (OK_s (EX_s (PS_move rfl))) ?_
  refine Plan_float 6 rfl rfl (by kernel_rfl) (OK_s (EX_s (PS_move rfl))) ?_
  refine Plan_float 7 rfl rfl (by kernel_rfl) (OK_s (EX_s (PS_nilCheck rfl))) ?_
  refine Plan_float 8 rfl rfl (by kernel_rfl) (OK_s (EX_s (PS_fieldAddr fa55_0 rfl))) ?_
  refine Plan_float 9 rfl rfl (by kernel_rfl) (OK_s (EX_s (PS_fieldAddr fa34_1 rfl))) ?_
  refine Plan_float 10 rfl rfl (by kernel_rfl) (OK_s (EX_s (PS_indexAddr ia29 rfl rfl (by first | omega | exact hb.1 | exact hb.2 | exact hbX.1 | exact hbX.2 | (dsimp only; omega)) (by first | omega | exact hb.1 | exact hb.2 | exact hbX.1 | exact hbX.2 | (dsimp only; omega))))) ?_
  refine Plan_float 11 rfl rfl (by kernel_rfl) (OK_s (EX_s (PS_fieldAddr fa28_0 rfl))) ?_
  refine Plan_float 12 rfl rfl (by kernel_rfl) (OK_s (EX_s (PS_load rfl tys9 (.head _) (((TurnV.l0.comp Land.l1).comp (Lens.arr (n := 9) Thing.fl (by first | omega | exact hb.1 | exact hb.2 | exact hbX.1 | exact hbX.2 | (dsimp only; omega)) (by first | omega | exact hb.1 | exact hb.2 | exact hbX.1 | exact hbX.2 | (dsimp only; omega)))).comp Thing.l0) rfl rfl))) ?_
  refine Plan_float 13 rfl rfl (by kernel_rfl) (OK_s (EX_s (PS_build pl48 zv48 rfl (.cons Ing.Event.l0 rfl rfl rfl (.cons Ing.Event.l3 rfl rfl rfl (.cons Ing.Event.l8 rfl rfl rfl (.cons Ing.Event.l9 rfl rfl rfl .nil))))))) ?_
  refine Plan_chain 14 rfl (by kernel_rfl) ?_
  refine GL_callL rfl cf17 (.cons rfl (.cons rfl .nil)) (.cons .head (.cons .head .nil)) (rules_turn_happens_spec _ (X.place ((Turn.pickL T.w T.own o.nth o.name o.all_).getD k.toNat 0) 2 0) _ { Turn.evk 5 with thing := ((X.place ((Turn.pickL T.w T.own o.nth o.name o.all_).getD k.toNat 0) 2 0).w.things.at ((Turn.pickL T.w T.own o.nth o.name o.all_).getD k.toNat 0)).name, text := ((X.place ((Turn.pickL T.w T.own o.nth o.name o.all_).getD k.toNat 0) 2 0).w.things.at 0).name } (by assumption) hbX (show (-1 : Int) < 6 by decide) (show X.out.length ≤ 100000 by omega)) (fun v127 B hv => ?_)
  obtain ⟨y128, rfl, y129, rfl⟩ := hv
  refine GL_hand rfl ⟨?_, ?_⟩
  · exact (Pend_skip (by kernel_rfl) (Pend_skip (by kernel_rfl) (Pend_skip (by kernel_rfl) (Pend_skip (by kernel_rfl) (Pend_skip (by kernel_rfl) (Pend_skip (by kernel_rfl) (Pend_skip (by kernel_rfl) (Pend_skip (by kernel_rfl) (Pend_skip (by kernel_rfl) (Pend_skip (by kernel_rfl) (Pend_skip (by kernel_rfl) (Pend_skip (by kernel_rfl) (Pend_skip (by kernel_rfl) (Pend_skip (by kernel_rfl) Pend_nil))))))))))))))
  refine Plan_end (by kernel_rfl) ?_
  refine GQ_sub (.cons (k := 0) rfl (.cons (k := 3) rfl (.cons (k := 4) rfl (.cons (k := 47) rfl (.cons (k := 48) rfl (.cons (k := 49) rfl (.nil _))))))) ?_
  refine GQ_block ?_
  refine GQ_block ?_
  refine GQ_then ?_
  refine G_region ?_
  refine GL_step rfl (PS_add rfl rfl (IntWalk.i64_in _ (by first | omega | exact hb.1 | exact hb.2 | exact hbX.1 | exact hbX.2 | (dsimp only; omega)))) ?_
  refine GL_step rfl (PS_move rfl) ?_
  refine GL_nil ?_
  refine GQ_sub (.cons (k := 0) rfl (.cons (k := 3) rfl (.cons (k := 4) rfl (.cons (k := 47) rfl (.cons (k := 48) rfl (.cons (k := 49) rfl (.nil _))))))) ?_
  refine GQ_next3_ (k + 1) _ _ ?_ ?_ (.cons (k := 49) rfl (.cons (k := 0) rfl (.cons (k := 3) rfl (.cons (k := 4) rfl (.cons (k := 47) rfl (.cons (k := 48) rfl (.nil _))))))) (.refl _)
  · have hq : X.letOne o.verb 0 ((Turn.pickL T.w T.own o.nth o.name o.all_).getD k.toNat 0) = _ := ((if_f c34).trans ((if_f c35).trans ((if_f c36).trans (if_f c37))))
    have hol := Turn.letOne_out X o.verb 0 ((Turn.pickL T.w T.own o.nth o.name o.all_).getD k.toNat 0)
    have hob := Turn.letOne_b X o.verb 0 ((Turn.pickL T.w T.own o.nth o.name o.all_).getD k.toNat 0)
    (try rw [Turn.place_name hx.1 hx.2] at *)
    (try rw [Turn.place_name' hx.1 hx.2 (show 0 ≤ 0 by omega)] at *)
    exact ⟨by omega, by omega, by rw [hI13, Turn.letAll_step hI11 (by omega), hq]; (try rfl), (by rw [hq] at hob; exact hob.trans hI14), (by rw [hq] at hol; first | omega | (simp only [Turn.tell_len] at *; omega)), by assumption, hI17⟩
  · omega
 have c33p := kz c33
 obtain rfl : k = ((Turn.pickL T.w T.own o.nth o.name o.all_).length : Int) := by omega
 rw [Turn.drop_end] at hI13
 refine G_exit ?_
 refine GQ_then_exit ?_
 refine GQ_then_exit ?_
 refine GQ_block_exit ?_
 refine GQ_end rfl .nil ?_
 intro w1 hS
 have hS := (hS.perm (Pulls.perm (.cons .head (.cons .head .nil)))).headL
 refine ⟨_, ⟨?gq8, rfl, ?hl8, ?hB8⟩, hS⟩
 case hB8 => rw [hI13]; rfl
 case hl8 => rw [hI13]; exact hI16
theorem words_Direction_spec (s : Str) (w : World) (gl0 : GV 0 Land.verbsV w) : Ret Tryd.prog 46 #[vstr s] w fun v w' => v = .tuple #[.int .i64 (Words.dir s).1, .bool (Words.dir s).2] ∧ Keep w w' := by
 refine Ret_body [] [] Tryd.func46 rfl rfl rfl (St.start w []) ?_
 refine G_seq ?_
 refine G_region ?_
 refine GL_step rfl (PS_assign rfl) ?_
 refine GL_step rfl (PS_assign rfl) ?_
 refine GL_nil ?_
 refine GQ_sub (.cons (k := 0) rfl (.nil _)) ?_
 refine GQ_then ?_
 refine G_seq ?_
 refine G_seq ?_
 refine G_region ?_
 refine GL_step rfl (PS_move rfl) ?_
 refine GL_nil ?_
 refine GQ_then ?_
 refine G_block ?_
 refine G_subF (.cons (k := 5) rfl (.cons (k := 0) rfl (.nil _))) ?_
 refine G_loop1_ (fun (k : Int) => 0 ≤ k ∧ k ≤ 6 ∧ Words.dirF s 6 = Words.dirF s (6 - k).toNat) (fun (k : Int) => (6 - k).toNat) (fun (k : Int) => [(5, .int .i64 k)]) (fun (k : Int) => []) (0) ?_ rfl rfl (fun k hI1 => ?_)
 · exact ⟨by omega, by omega, rfl⟩
 obtain ⟨hI11, hI12, hI13⟩ := hI1
 refine G_seq ?_
 refine G_region ?_
 refine GL_step rfl (PS_lss rfl rfl) ?_
 refine GL_nil ?_
 refine GQ_then ?_
 refine G_seq ?_
 refine G_cond rfl (fun c1 => ?_) (fun c1 => ?_)
 ·
  have c1p := kz c1
  rw [Words.dirF_step hI11 (by omega)] at hI13
  refine G_skip ?_
  refine GQ_sub (.cons (k := 0) rfl (.cons (k := 5) rfl (.nil _))) ?_
  refine GQ_then ?_
  refine G_seq ?_
  refine G_block ?_
  refine G_seq ?_
  refine G_region ?_
  refine GL_step rfl (PS_move rfl) ?_
  refine GL_step rfl (PS_assign rfl) ?_
  refine GL_nil ?_
  refine GQ_sub (.cons (k := 0) rfl (.cons (k := 4) rfl (.cons (k := 5) rfl (.nil _)))) ?_
  refine GQ_then ?_
  refine G_seq ?_
  refine G_region ?_
  refine GL_step rfl (PS_move rfl) ?_
  refine GL_step rfl (PS_indexAddr ia92 rfl rfl (by omega) (by omega)) ?_
  refine GL_step rfl (PS_ldGV gl0 rfl tys9 (Land.verbs_at (by omega) (by omega))) ?_
  refine GL_step rfl (PS_move rfl) ?_
  refine GL_step rfl (PS_eql_str rfl rfl) ?_
  refine GL_nil ?_
  refine GQ_sub (.cons (k := 0) rfl (.cons (k := 4) rfl (.cons (k := 5) rfl (.cons (k := 12) rfl (.nil _))))) ?_
  refine GQ_then ?_
  refine G_cond rfl (fun c2 => ?_) (fun c2 => ?_)
  ·
   have c2p := kz c2
   refine G_seq ?_
   refine G_region ?_
   refine GL_step rfl (PS_move rfl) ?_
   refine GL_step rfl (PS_assign rfl) ?_
   refine GL_step rfl (PS_assign rfl) ?_
   refine GL_nil ?_
   refine GQ_sub (.cons (k := 2) rfl (.cons (k := 3) rfl (.nil _))) ?_
   refine GQ_then ?_
   refine G_ret ?_
   refine GQ_block_ret ?_
   refine GQ_then_ret ?_
   refine GQ_then_ret ?_
   refine GQ_block_ret ?_
   refine GQ_then_ret ?_
   refine GQ_ret rfl (.tmp rfl (.tmp rfl .nil)) ?_
   intro w1 hS; refine ⟨?_, hS.toKeep⟩; rw [Words.dir, hI13, if_t c2]; rfl
  have c2p := kz c2
  refine G_skip ?_
  refine GQ_sub (.cons (k := 0) rfl (.cons (k := 5) rfl (.nil _))) ?_
  refine GQ_block ?_
  refine GQ_then ?_
  refine G_region ?_
  refine GL_step rfl (PS_add rfl rfl (IntWalk.i64_in _ (by omega))) ?_
  refine GL_step rfl (PS_move rfl) ?_
  refine GL_nil ?_
  refine GQ_sub (.cons (k := 0) rfl (.cons (k := 5) rfl (.nil _))) ?_
  refine GQ_next1_ (k + 1) ?_ ?_ (.cons (k := 5) rfl (.cons (k := 0) rfl (.nil _))) (.refl _)
  · exact ⟨by omega, by omega, by rw [hI13, if_f c2]⟩
  · omega
 have c1p := kz c1
 obtain rfl : k = 6 := by omega
 refine G_exit ?_
 refine GQ_then_exit ?_
 refine GQ_then_exit ?_
 refine GQ_block_exit ?_
 refine GQ_sub (.nil _) ?_
 refine GQ_then ?_
 refine G_seq ?_
 refine G_region ?_
 refine GL_step rfl (PS_assign rfl) ?_
 refine GL_step rfl (PS_assign rfl) ?_
 refine GL_nil ?_
 refine GQ_then ?_
 refine G_ret ?_
 refine GQ_ret rfl (.tmp rfl (.tmp rfl .nil)) ?_
 intro w1 hS; refine ⟨?_, hS.toKeep⟩; rw [Words.dir, hI13]; rfl
theorem rules_turn_door_spec (b : Nat) (T : Turn) (g : Hd) (d : Int) (p : Bool) (k : Int) (hg : g.len = T.out.length) (hF : T.Fit) (hd : 0 ≤ d ∧ d < 6) (hn : T.out.length ≤ 90000) : Ctr Tryd.prog 47 #[.pointer (some ⟨b, 0, none⟩), .int .i64 d, .bool p, .int .i64 k] [Res.box b 55 (TurnV.enc ⟨T.w, T.b, g⟩), Res.own g 48 16 (T.out.flatMap Ing.Event.enc)] (fun v B => ∃ g' : Hd, v = .tuple #[] ∧ g'.len = (T.door d p k).out.length ∧ B = [Res.box b 55 (TurnV.enc ⟨(T.door d p k).w, (T.door d p k).b, g'⟩), Res.own g' 48 16 ((T.door d p k).out.flatMap Ing.Event.enc)]) := by
 intro w hS0
 have hb := hF.b
 have hr := hF.room
 have hx := hF.exit hd.1 hd.2
 have hop := Land.opposite_rng d
 refine Ret_body _ _ Tryd.func47 rfl rfl rfl (hS0) ?_
 refine G_seq ?_
 refine G_planN (N := 12) [0, 0, 2, 6, 14, 1, 33, 97, 255, 511, 1023, 2047] mix (by kernel_rfl) rfl ?_
 refine Plan_float 0 rfl rfl (by kernel_rfl) (OK_s (EX_s (PS_move rfl))) ?_
 refine Plan_float 1 rfl rfl (by kernel_rfl) (OK_s (EX_s (PS_move rfl))) ?_
 refine Plan_float 2 rfl rfl (by kernel_rfl) (OK_s (EX_s (PS_nilCheck rfl))) ?_
 refine Plan_float 3 rfl rfl (by kernel_rfl) (OK_s (EX_s (PS_fieldAddr fa55_1 rfl))) ?_
 refine Plan_float 4 rfl rfl (by kernel_rfl) (OK_s (EX_s (PS_load rfl tys3 (.head _) TurnV.l1 rfl rfl))) ?_
 refine Plan_float 5 rfl rfl (by kernel_rfl) (OK_s (EX_s (PS_nilCheck rfl))) ?_
 refine Plan_float 6 rfl rfl (by kernel_rfl) (OK_s (EX_s (PS_fieldAddr fa55_0 rfl))) ?_
 refine Plan_float 7 rfl rfl (by kernel_rfl) (OK_s (EX_s (PS_fieldAddr fa34_2 rfl))) ?_
 refine Plan_float 8 rfl rfl (by kernel_rfl) (OK_s (EX_s (PS_indexAddr ia32 rfl rfl (by first | omega | exact hb.1 | exact hb.2 | exact hr.1 | exact hr.2 | (dsimp only; omega)) (by first | omega | exact hb.1 | exact hb.2 | exact hr.1 | exact hr.2 | (dsimp only; omega))))) ?_
 refine Plan_float 9 rfl rfl (by kernel_rfl) (OK_s (EX_s (PS_fieldAddr fa31_3 rfl))) ?_
 refine Plan_float 10 rfl rfl (by kernel_rfl) (OK_s (EX_s (PS_load rfl tys3 (.head _) (((TurnV.l0.comp Land.l2).comp (Lens.arr (n := 6) Being.fl (by first | omega | exact hb.1 | exact hb.2 | exact hr.1 | exact hr.2 | (dsimp only; omega)) (by first | omega | exact hb.1 | exact hb.2 | exact hr.1 | exact hr.2 | (dsimp only; omega)))).comp Being.l3) rfl rfl))) ?_
 refine Plan_float 11 rfl rfl (by kernel_rfl) (OK_s (EX_s (PS_assign rfl))) ?_
 refine Plan_end (by kernel_rfl) ?_
 refine GQ_sub (.cons (k := 0) rfl (.cons (k := 1) rfl (.cons (k := 2) rfl (.cons (k := 3) rfl (.cons (k := 8) rfl (.nil _)))))) ?_
 refine GQ_then ?_
 refine G_seq ?_
 refine G_region ?_
 refine GL_step rfl (PS_move rfl) ?_
 refine GL_step rfl (PS_move rfl) ?_
 refine GL_step rfl (PS_move rfl) ?_
 refine GL_step rfl (PS_nilCheck rfl) ?_
 refine GL_step rfl (PS_fieldAddr fa55_0 rfl) ?_
 refine GL_step rfl (PS_fieldAddr fa34_0 rfl) ?_
 refine GL_step rfl (PS_indexAddr ia26 rfl rfl (by first | omega | exact hb.1 | exact hb.2 | exact hr.1 | exact hr.2 | (dsimp only; omega)) (by first | omega | exact hb.1 | exact hb.2 | exact hr.1 | exact hr.2 | (dsimp only; omega))) ?_
 refine GL_step rfl (PS_fieldAddr fa25_2 rfl) ?_
 refine GL_step rfl (PS_indexAddr ia22 rfl rfl (by first | omega | exact hb.1 | exact hb.2 | exact hr.1 | exact hr.2 | (dsimp only; omega)) (by first | omega | exact hb.1 | exact hb.2 | exact hr.1 | exact hr.2 | (dsimp only; omega))) ?_
 refine GL_step rfl (PS_load rfl tys3 (.head _) ((((TurnV.l0.comp Land.l0).comp (Lens.arr (n := 6) Room.fl (by first | omega | exact hb.1 | exact hb.2 | exact hr.1 | exact hr.2 | (dsimp only; omega)) (by first | omega | exact hb.1 | exact hb.2 | exact hr.1 | exact hr.2 | (dsimp only; omega)))).comp Room.l2).comp (Lens.arr (n := 6) flI (by first | omega | exact hb.1 | exact hb.2 | exact hr.1 | exact hr.2 | (dsimp only; omega)) (by first | omega | exact hb.1 | exact hb.2 | exact hr.1 | exact hr.2 | (dsimp only; omega)))) rfl rfl) ?_
 refine GL_step rfl (PS_sub rfl rfl (IntWalk.i64_in _ (by first | omega | exact hb.1 | exact hb.2 | exact hr.1 | exact hr.2 | (dsimp only; omega)))) ?_
 refine GL_step rfl (PS_assign rfl) ?_
 refine GL_nil ?_
 refine GQ_sub (.cons (k := 0) rfl (.cons (k := 1) rfl (.cons (k := 2) rfl (.cons (k := 3) rfl (.cons (k := 8) rfl (.cons (k := 9) rfl (.nil _))))))) ?_
 refine GQ_then ?_
 refine G_block ?_
 refine G_seq ?_
 refine G_region ?_
 refine GL_step rfl (PS_move rfl) ?_
 refine GL_step rfl (PS_lss rfl rfl) ?_
 refine GL_step rfl (PS_assign rfl) ?_
 refine GL_nil ?_
 refine GQ_sub (.cons (k := 0) rfl (.cons (k := 1) rfl (.cons (k := 2) rfl (.cons (k := 3) rfl (.cons (k := 8) rfl (.cons (k := 9) rfl (.cons (k := 74) rfl (.nil _)))))))) ?_
 refine GQ_then ?_
 refine G_cond rfl (fun c1 => ?_) (fun c1 => ?_)
 ·
  have c1p := kz c1
  refine G_region ?_
  refine GL_step rfl (PS_move rfl) ?_
  refine GL_callL rfl cf32 (.cons rfl (.cons rfl .nil)) (.cons .head (.cons .head .nil)) (rules_turn_tell_spec _ _ _ _ hg hb (by omega)) (fun v1 B hv => ?_)
  obtain ⟨y2, rfl, y3, rfl⟩ := hv
  refine GL_nil ?_
  refine GQ_sub (.nil _) ?_
  refine GQ_block ?_
  refine GQ_end rfl .nil ?_
  intro w1 hS
  have hS := (hS.perm (Pulls.perm (.cons .head (.cons .head .nil)))).headL
  have hq : T.door d p k = _ := (if_t c1)
  refine ⟨_, ⟨?gq1, rfl, ?hl1, ?hB1⟩, hS⟩
  case hB1 => rw [hq]; (try rfl)
  case hl1 => rw [hq]; assumption
 have c1p := kz c1
 refine G_seq ?_
 refine G_region ?_
 refine GL_step rfl (PS_move rfl) ?_
 refine GL_step rfl (PS_move rfl) ?_
 refine GL_step rfl (PS_move rfl) ?_
 refine GL_step rfl (PS_nilCheck rfl) ?_
 refine GL_step rfl (PS_fieldAddr fa55_0 rfl) ?_
 refine GL_step rfl (PS_fieldAddr fa34_0 rfl) ?_
 refine GL_step rfl (PS_indexAddr ia26 rfl rfl (by first | omega | exact hb.1 | exact hb.2 | exact hr.1 | exact hr.2 | (dsimp only; omega)) (by first | omega | exact hb.1 | exact hb.2 | exact hr.1 | exact hr.2 | (dsimp only; omega))) ?_
 refine GL_step rfl (PS_fieldAddr fa25_3 rfl) ?_
 refine GL_step rfl (PS_indexAddr ia23 rfl rfl (by first | omega | exact hb.1 | exact hb.2 | exact hr.1 | exact hr.2 | (dsimp only; omega)) (by first | omega | exact hb.1 | exact hb.2 | exact hr.1 | exact hr.2 | (dsimp only; omega))) ?_
 refine GL_step rfl (PS_load rfl tys4 (.head _) ((((TurnV.l0.comp Land.l0).comp (Lens.arr (n := 6) Room.fl (by first | omega | exact hb.1 | exact hb.2 | exact hr.1 | exact hr.2 | (dsimp only; omega)) (by first | omega | exact hb.1 | exact hb.2 | exact hr.1 | exact hr.2 | (dsimp only; omega)))).comp Room.l3).comp (Lens.arr (n := 6) flB (by first | omega | exact hb.1 | exact hb.2 | exact hr.1 | exact hr.2 | (dsimp only; omega)) (by first | omega | exact hb.1 | exact hb.2 | exact hr.1 | exact hr.2 | (dsimp only; omega)))) rfl rfl) ?_
 refine GL_step rfl (PS_move rfl) ?_
 refine GL_step rfl (PS_neq_bool Tryd.underlying4 rfl rfl) ?_
 refine GL_step rfl (PS_assign rfl) ?_
 refine GL_nil ?_
 refine GQ_sub (.cons (k := 0) rfl (.cons (k := 1) rfl (.cons (k := 2) rfl (.cons (k := 3) rfl (.cons (k := 8) rfl (.cons (k := 9) rfl (.cons (k := 79) rfl (.nil _)))))))) ?_
 refine GQ_then ?_
 refine G_cond rfl (fun c2 => ?_) (fun c2 => ?_)
 ·
  have c2p := kz c2
  refine G_region ?_
  refine GL_step rfl (PS_move rfl) ?_
  refine GL_callL rfl cf32 (.cons rfl (.cons rfl .nil)) (.cons .head (.cons .head .nil)) (rules_turn_tell_spec _ _ _ _ hg hb (by omega)) (fun v4 B hv => ?_)
  obtain ⟨y5, rfl, y6, rfl⟩ := hv
  refine GL_nil ?_
  refine GQ_sub (.nil _) ?_
  refine GQ_block ?_
  refine GQ_end rfl .nil ?_
  intro w1 hS
  have hS := (hS.perm (Pulls.perm (.cons .head (.cons .head .nil)))).headL
  have hq : T.door d p k = _ := ((if_f c1).trans (if_t c2))
  refine ⟨_, ⟨?gq2, rfl, ?hl2, ?hB2⟩, hS⟩
  case hB2 => rw [hq]; (try rfl)
  case hl2 => rw [hq]; assumption
 have c2p := kz c2
 refine G_seq ?_
 refine G_region ?_
 refine GL_step rfl (PS_move rfl) ?_
 refine GL_step rfl (PS_move rfl) ?_
 refine GL_step rfl (PS_move rfl) ?_
 refine GL_step rfl (PS_move rfl) ?_
 refine GL_step rfl (PS_not rfl) ?_
 refine GL_step rfl (PS_nilCheck rfl) ?_
 refine GL_step rfl (PS_fieldAddr fa55_0 rfl) ?_
 refine GL_step rfl (PS_fieldAddr fa34_0 rfl) ?_
 refine GL_step rfl (PS_indexAddr ia26 rfl rfl (by first | omega | exact hb.1 | exact hb.2 | exact hr.1 | exact hr.2 | (dsimp only; omega)) (by first | omega | exact hb.1 | exact hb.2 | exact hr.1 | exact hr.2 | (dsimp only; omega))) ?_
 refine GL_step rfl (PS_fieldAddr fa25_3 rfl) ?_
 refine GL_step rfl (PS_indexAddr ia23 rfl rfl (by first | omega | exact hb.1 | exact hb.2 | exact hr.1 | exact hr.2 | (dsimp only; omega)) (by first | omega | exact hb.1 | exact hb.2 | exact hr.1 | exact hr.2 | (dsimp only; omega))) ?_
 refine GL_unit (PU_store ((((TurnV.l0.comp Land.l0).comp (Lens.arr (n := 6) Room.fl (by first | omega | exact hb.1 | exact hb.2 | exact hr.1 | exact hr.2 | (dsimp only; omega)) (by first | omega | exact hb.1 | exact hb.2 | exact hr.1 | exact hr.2 | (dsimp only; omega)))).comp Room.l3).comp (Lens.arr (n := 6) flB (by first | omega | exact hb.1 | exact hb.2 | exact hr.1 | exact hr.2 | (dsimp only; omega)) (by first | omega | exact hb.1 | exact hb.2 | exact hr.1 | exact hr.2 | (dsimp only; omega)))) rfl rfl rfl sz4 rfl .head) ?_
 refine GL_nil ?_
 refine GQ_sub (.cons (k := 0) rfl (.cons (k := 1) rfl (.cons (k := 2) rfl (.cons (k := 3) rfl (.cons (k := 8) rfl (.cons (k := 9) rfl (.nil _))))))) ?_
 refine GQ_then ?_
 refine G_seq ?_
 refine G_seq ?_
 refine G_region ?_
 refine GL_step rfl (PS_move rfl) ?_
 refine GL_pure rfl cf33 (.cons rfl .nil) (fun w hS => land_Opposite_spec _ w) ?_
 refine GL_step rfl (PS_assign rfl) ?_
 refine GL_nil ?_
 refine GQ_sub (.cons (k := 0) rfl (.cons (k := 2) rfl (.cons (k := 3) rfl (.cons (k := 8) rfl (.cons (k := 9) rfl (.cons (k := 10) rfl (.nil _))))))) ?_
 refine GQ_then ?_
 refine G_seq ?_
 refine G_region ?_
 refine GL_step rfl (PS_move rfl) ?_
 refine GL_step rfl (PS_move rfl) ?_
 refine GL_step rfl (PS_move rfl) ?_
 refine GL_step rfl (PS_nilCheck rfl) ?_
 refine GL_step rfl (PS_fieldAddr fa55_0 rfl) ?_
 refine GL_step rfl (PS_fieldAddr fa34_0 rfl) ?_
 refine GL_step rfl (PS_indexAddr ia26 rfl rfl (by first | omega | exact hb.1 | exact hb.2 | exact hr.1 | exact hr.2 | (dsimp only; omega)) (by first | omega | exact hb.1 | exact hb.2 | exact hr.1 | exact hr.2 | (dsimp only; omega))) ?_
 refine GL_step rfl (PS_fieldAddr fa25_2 rfl) ?_
 refine GL_step rfl (PS_indexAddr ia22 rfl rfl (by first | omega | exact hb.1 | exact hb.2 | exact hr.1 | exact hr.2 | (dsimp only; omega)) (by first | omega | exact hb.1 | exact hb.2 | exact hr.1 | exact hr.2 | (dsimp only; omega))) ?_
 refine GL_step rfl (PS_load rfl tys3 (.head _) ((((TurnV.l0.comp Land.l0).comp (Lens.arr (n := 6) Room.fl (by first | omega | exact hb.1 | exact hb.2 | exact hr.1 | exact hr.2 | (dsimp only; omega)) (by first | omega | exact hb.1 | exact hb.2 | exact hr.1 | exact hr.2 | (dsimp only; omega)))).comp Room.l2).comp (Lens.arr (n := 6) flI (by first | omega | exact hb.1 | exact hb.2 | exact hr.1 | exact hr.2 | (dsimp only; omega)) (by first | omega | exact hb.1 | exact hb.2 | exact hr.1 | exact hr.2 | (dsimp only; omega)))) rfl rfl) ?_
 refine GL_step rfl (PS_move rfl) ?_
 refine GL_step rfl (PS_add rfl rfl (IntWalk.i64_in _ (by first | omega | exact hb.1 | exact hb.2 | exact hr.1 | exact hr.2 | (dsimp only; omega)))) ?_
 refine GL_step rfl (PS_eql rfl rfl) ?_
 refine GL_nil ?_
 refine GQ_sub (.cons (k := 0) rfl (.cons (k := 2) rfl (.cons (k := 3) rfl (.cons (k := 9) rfl (.cons (k := 10) rfl (.cons (k := 58) rfl (.nil _))))))) ?_
 refine GQ_then ?_
 refine G_cond rfl (fun c3 => ?_) (fun c3 => ?_)
 ·
  have c3p := kz c3
  refine G_region ?_
  refine GL_step rfl (PS_move rfl) ?_
  refine GL_step rfl (PS_move rfl) ?_
  refine GL_step rfl (PS_move rfl) ?_
  refine GL_step rfl (PS_move rfl) ?_
  refine GL_step rfl (PS_not rfl) ?_
  refine GL_step rfl (PS_nilCheck rfl) ?_
  refine GL_step rfl (PS_fieldAddr fa55_0 rfl) ?_
  refine GL_step rfl (PS_fieldAddr fa34_0 rfl) ?_
  refine GL_step rfl (PS_indexAddr ia26 rfl rfl (by first | omega | exact hb.1 | exact hb.2 | exact hr.1 | exact hr.2 | (dsimp only; omega)) (by first | omega | exact hb.1 | exact hb.2 | exact hr.1 | exact hr.2 | (dsimp only; omega))) ?_
  refine GL_step rfl (PS_fieldAddr fa25_3 rfl) ?_
  refine GL_step rfl (PS_indexAddr ia23 rfl rfl (by first | omega | exact hb.1 | exact hb.2 | exact hr.1 | exact hr.2 | (dsimp only; omega)) (by first | omega | exact hb.1 | exact hb.2 | exact hr.1 | exact hr.2 | (dsimp only; omega))) ?_
  refine GL_unit (PU_store ((((TurnV.l0.comp Land.l0).comp (Lens.arr (n := 6) Room.fl (by first | omega | exact hb.1 | exact hb.2 | exact hr.1 | exact hr.2 | (dsimp only; omega)) (by first | omega | exact hb.1 | exact hb.2 | exact hr.1 | exact hr.2 | (dsimp only; omega)))).comp Room.l3).comp (Lens.arr (n := 6) flB (by first | omega | exact hb.1 | exact hb.2 | exact hr.1 | exact hr.2 | (dsimp only; omega)) (by first | omega | exact hb.1 | exact hb.2 | exact hr.1 | exact hr.2 | (dsimp only; omega)))) rfl rfl rfl sz4 rfl .head) ?_
  refine GL_nil ?_
  refine GQ_sub (.cons (k := 0) rfl (.cons (k := 3) rfl (.nil _))) ?_
  refine GQ_then ?_
  refine G_region ?_
  refine GL_step rfl (PS_move rfl) ?_
  refine GL_step rfl (PS_move rfl) ?_
  refine GL_step rfl (PS_build pl48 zv48 rfl (.cons Ing.Event.l0 rfl rfl rfl (.cons Ing.Event.l3 rfl rfl rfl (.cons Ing.Event.l8 rfl rfl rfl .nil)))) ?_
  refine GL_callL rfl cf17 (.cons rfl (.cons rfl .nil)) (.cons .head (.cons .head .nil)) (rules_turn_happens_spec _ (Turn.setShut (T.setShut T.me.room d (!p)) ((T.w.rooms.at (T.w.beings.at T.b).room).exits.at d - 1) (Land.opposite d) (!p)) _ { Turn.evk k with thing := Turn.doorT } hg hb (show (-1 : Int) < 6 by decide) (show T.out.length ≤ 100000 by omega)) (fun v7 B hv => ?_)
  obtain ⟨y8, rfl, y9, rfl⟩ := hv
  refine GL_nil ?_
  refine GQ_sub (.nil _) ?_
  refine GQ_block ?_
  refine GQ_end rfl .nil ?_
  intro w1 hS
  have hS := (hS.perm (Pulls.perm (.cons .head (.cons .head .nil)))).headL
  have hq : T.door d p k = _ := (show T.door d p k = _ from (if_f c1).trans (if_f c2)).trans (congrArg (fun q => Turn.happens q { Turn.evk k with thing := Turn.doorT }) (if_t c3))
  refine ⟨_, ⟨?gq3, rfl, ?hl3, ?hB3⟩, hS⟩
  case hB3 => rw [hq]; (try rfl)
  case hl3 => rw [hq]; assumption
 have c3p := kz c3
 refine G_skip ?_
 refine GQ_sub (.cons (k := 0) rfl (.cons (k := 3) rfl (.nil _))) ?_
 refine GQ_then ?_
 refine G_region ?_
 refine GL_step rfl (PS_move rfl) ?_
 refine GL_step rfl (PS_move rfl) ?_
 refine GL_step rfl (PS_build pl48 zv48 rfl (.cons Ing.Event.l0 rfl rfl rfl (.cons Ing.Event.l3 rfl rfl rfl (.cons Ing.Event.l8 rfl rfl rfl .nil)))) ?_
 refine GL_callL rfl cf17 (.cons rfl (.cons rfl .nil)) (.cons .head (.cons .head .nil)) (rules_turn_happens_spec _ (T.setShut T.me.room d (!p)) _ { Turn.evk k with thing := Turn.doorT } hg hb (show (-1 : Int) < 6 by decide) (show T.out.length ≤ 100000 by omega)) (fun v10 B hv => ?_)
 obtain ⟨y11, rfl, y12, rfl⟩ := hv
 refine GL_nil ?_
 refine GQ_sub (.nil _) ?_
 refine GQ_block ?_
 refine GQ_end rfl .nil ?_
 intro w1 hS
 have hS := (hS.perm (Pulls.perm (.cons .head (.cons .head .nil)))).headL
 have hq : T.door d p k = _ := (show T.door d p k = _ from (if_f c1).trans (if_f c2)).trans (congrArg (fun q => Turn.happens q { Turn.evk k with thing := Turn.doorT }) (if_f c3))
 refine ⟨_, ⟨?gq4, rfl, ?hl4, ?hB4⟩, hS⟩
 case hB4 => rw [hq]; (try rfl)
 case hl4 => rw [hq]; assumption
theorem rules_turn_before_spec (b : Nat) (T : Turn) (g : Hd) (a : Bool) (i : Int) (p : Bool) (k : Int) (hg : g.len = T.out.length) (hb : 0 ≤ T.b ∧ T.b < 6) (hi : 0 ≤ i ∧ i < 9) (hn : T.out.length ≤ 90000) : Ctr Tryd.prog 48 #[.pointer (some ⟨b, 0, none⟩), .bool a, .int .i64 i, .bool p, .int .i64 k] [Res.box b 55 (TurnV.enc ⟨T.w, T.b, g⟩), Res.own g 48 16 (T.out.flatMap Ing.Event.enc)] (fun v B => ∃ g' : Hd, v = .tuple #[] ∧ g'.len = (T.before a i p k).out.length ∧ B = [Res.box b 55 (TurnV.enc ⟨(T.before a i p k).w, (T.before a i p k).b, g'⟩), Res.own g' 48 16 ((T.before a i p k).out.flatMap Ing.Event.enc)]) := by
 intro w hS0
 refine Ret_body _ _ Tryd.func48 rfl rfl rfl (hS0) ?_
 refine G_seq ?_
 refine G_seq ?_
 refine G_region ?_
 refine GL_step rfl (PS_move rfl) ?_
 refine GL_nil ?_
 refine GQ_sub (.cons (k := 0) rfl (.cons (k := 2) rfl (.cons (k := 3) rfl (.cons (k := 4) rfl (.cons (k := 10) rfl (.nil _)))))) ?_
 refine GQ_then ?_
 refine G_cond rfl (fun c1 => ?_) (fun c1 => ?_)
 ·
  have c1p := kz c1
  refine G_seq ?_
  refine G_region ?_
  refine GL_step rfl (PS_move rfl) ?_
  refine GL_step rfl (PS_move rfl) ?_
  refine GL_step rfl (PS_move rfl) ?_
  refine GL_step rfl (PS_nilCheck rfl) ?_
  refine GL_step rfl (PS_fieldAddr fa55_0 rfl) ?_
  refine GL_step rfl (PS_fieldAddr fa34_1 rfl) ?_
  refine GL_step rfl (PS_indexAddr ia29 rfl rfl (by first | omega | exact hb.1 | exact hb.2 | (dsimp only; omega)) (by first | omega | exact hb.1 | exact hb.2 | (dsimp only; omega))) ?_
  refine GL_step rfl (PS_fieldAddr fa28_4 rfl) ?_
  refine GL_unit (PU_store (((TurnV.l0.comp Land.l1).comp (Lens.arr (n := 9) Thing.fl (by first | omega | exact hb.1 | exact hb.2 | (dsimp only; omega)) (by first | omega | exact hb.1 | exact hb.2 | (dsimp only; omega)))).comp Thing.l4) rfl rfl rfl sz4 rfl .head) ?_
  refine GL_nil ?_
  refine GQ_sub (.cons (k := 0) rfl (.cons (k := 2) rfl (.cons (k := 4) rfl (.nil _)))) ?_
  refine GQ_then ?_
  refine G_seq ?_
  refine G_region ?_
  refine GL_step rfl (PS_move rfl) ?_
  refine GL_step rfl (PS_move rfl) ?_
  refine GL_step rfl (PS_move rfl) ?_
  refine GL_callL rfl cf43 (.cons rfl (.cons rfl (.cons rfl .nil))) (.cons .head (.cons .head .nil)) (rules_turn_thing_spec _ (T.setThing i { T.w.things.at i with on := p }) _ k i hg hb hi (show T.out.length ≤ 100000 by omega)) (fun v1 B hv => ?_)
  obtain ⟨y2, rfl, y3, rfl⟩ := hv
  refine GL_nil ?_
  refine GQ_sub (.nil _) ?_
  refine GQ_then ?_
  refine G_ret ?_
  refine GQ_then_ret ?_
  refine GQ_ret rfl .nil ?_
  intro w1 hS
  have hS := (hS.perm (Pulls.perm (.cons .head (.cons .head .nil)))).headL
  have hq : T.before a i p k = _ := (if_t c1)
  refine ⟨_, ⟨?gq1, rfl, ?hl1, ?hB1⟩, hS⟩
  case hB1 => rw [hq]; (try rfl)
  case hl1 => rw [hq]; assumption
 have c1p := kz c1
 refine G_skip ?_
 refine GQ_sub (.cons (k := 0) rfl (.cons (k := 2) rfl (.cons (k := 3) rfl (.cons (k := 4) rfl (.nil _))))) ?_
 refine GQ_then ?_
 refine G_seq ?_
 refine G_region ?_
 refine GL_step rfl (PS_move rfl) ?_
 refine GL_step rfl (PS_move rfl) ?_
 refine GL_step rfl (PS_move rfl) ?_
 refine GL_callL rfl cf43 (.cons rfl (.cons rfl (.cons rfl .nil))) (.cons .head (.cons .head .nil)) (rules_turn_thing_spec _ T _ k i hg hb hi (show T.out.length ≤ 100000 by omega)) (fun v4 B hv => ?_)
 obtain ⟨y5, rfl, y6, rfl⟩ := hv
 refine GL_nil ?_
 refine GQ_sub (.cons (k := 0) rfl (.cons (k := 2) rfl (.cons (k := 3) rfl (.nil _)))) ?_
 refine GQ_then ?_
 refine G_region ?_
 refine GL_step rfl (PS_move rfl) ?_
 refine GL_step rfl (PS_move rfl) ?_
 refine GL_step rfl (PS_move rfl) ?_
 refine GL_step rfl (PS_nilCheck rfl) ?_
 refine GL_step rfl (PS_fieldAddr fa55_0 rfl) ?_
 refine GL_step rfl (PS_fieldAddr fa34_1 rfl) ?_
 refine GL_step rfl (PS_indexAddr ia29 rfl rfl (by first | omega | exact hb.1 | exact hb.2 | (dsimp only; omega)) (by first | omega | exact hb.1 | exact hb.2 | (dsimp only; omega))) ?_
 refine GL_step rfl (PS_fieldAddr fa28_4 rfl) ?_
 refine GL_unit (PU_store (((TurnV.l0.comp Land.l1).comp (Lens.arr (n := 9) Thing.fl (by first | omega | exact hb.1 | exact hb.2 | (dsimp only; omega)) (by first | omega | exact hb.1 | exact hb.2 | (dsimp only; omega)))).comp Thing.l4) rfl rfl rfl sz4 rfl .head) ?_
 refine GL_nil ?_
 refine GQ_end rfl .nil ?_
 intro w1 hS
 have hS := (hS.perm (Pulls.perm (.cons .head (.cons .head .nil)))).headL
 have hq : T.before a i p k = _ := (if_f c1)
 refine ⟨_, ⟨?gq2, rfl, ?hl2, ?hB2⟩, hS⟩
 case hB2 => rw [hq]; (try rfl)
 case hl2 => rw [hq]; assumption
end Go.Proofs.YthaobbemigbcgaaDoor
