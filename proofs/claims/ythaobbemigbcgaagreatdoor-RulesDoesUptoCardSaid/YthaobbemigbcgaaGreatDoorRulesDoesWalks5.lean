/- What the functions that the law RulesDoes reaches compute: walks, part 5. No condition. -/
import Derived.Test.YthaobbemigbcgaaGreatDoorCards
import Derived.Test.YthaobbemigbcgaaGreatDoorTie
import Derived.Deep.DeepHandedRow
import Derived.Test.YthaobbemigbcgaaGreatDoorRows
import Derived.Test.YthaobbemigbcgaaGreatDoorRulesDoesEc3
import Derived.Test.YthaobbemigbcgaaGreatDoorRulesDoesRa1
import Derived.Test.YthaobbemigbcgaaGreatDoorRulesDoesRb1
import Derived.Test.YthaobbemigbcgaaGreatDoorRulesDoesWalks
import Derived.Test.YthaobbemigbcgaaGreatDoorRulesDoesWalks2
import Derived.Test.YthaobbemigbcgaaGreatDoorRulesDoesWalks3
import Derived.Test.YthaobbemigbcgaaGreatDoorRulesDoesWalks4
set_option linter.unusedSimpArgs false
set_option linter.unusedVariables false
set_option maxRecDepth 100000
set_option maxHeartbeats 1000000
namespace Go.Proofs.YthaobbemigbcgaaGreatDoor
open Go Go.Ing Go.RowKit Go.ChangeShapes Go.WideShapes Go.ChangeAt
theorem ref_turn_get_spec (b : Nat) (T : Turn) (g : Hd) (o : Order) (hg : g.len = T.out.length) (hF : T.Fit) (hu : o.second.length ≤ 5000000) (hn : T.out.length ≤ 90000) (hz : -9223372036854775808 ≤ o.nth ∧ o.nth ≤ 9223372036854775807) : CtrR Tryz.prog 36 #[.pointer (some ⟨b, 0, none⟩), .agg o.enc.toArray] [Res.box b 57 (TurnV.enc ⟨T.w, T.b, g⟩), Res.own g 60 16 (T.out.flatMap Ing.Event.enc)] (fun w => (GVE 3 w ∧ 3 ∉ feet [Res.box b 57 (TurnV.enc ⟨T.w, T.b, g⟩), Res.own g 60 16 (T.out.flatMap Ing.Event.enc)]) ∧ (GVE 4 w ∧ 4 ∉ feet [Res.box b 57 (TurnV.enc ⟨T.w, T.b, g⟩), Res.own g 60 16 (T.out.flatMap Ing.Event.enc)])) (fun v B => ∃ g' : Hd, v = .tuple #[] ∧ g'.len = (T.get o).out.length ∧ B = [Res.box b 57 (TurnV.enc ⟨(T.get o).w, (T.get o).b, g'⟩), Res.own g' 60 16 ((T.get o).out.flatMap Ing.Event.enc)]) := by
 intro w hS0 hH
 obtain ⟨⟨gl0, gm0⟩, ⟨gl1, gm1⟩⟩ := hH
 have hb := hF.b
 have hr := hF.room
 refine Ret_body _ _ Tryz.func36 rfl rfl rfl (hS0) ?_
 refine Gs ?_
 refine GL_box rfl rfl rfl (fun b1 => ?_)
 refine Gn (.t2 0 3) ?_
 refine Gs ?_
 refine Gm rfl ?_
 refine GL_callL rfl cf52 (.cons rfl .nil) (.cons (.tail .head) .nil) (ref_turn_inSight_spec _ T _ hF) (fun v1 B hv => ?_)
 obtain ⟨y2, rfl, y3, rfl⟩ := hv
 refine Ga rfl ?_
 refine Gn (.t3 0 3 4) ?_
 refine Gss ?_
 refine Gt (PSf fa47_4 rfl) ?_
 refine Gt (PS_load rfl tys9 (.tail _ (.tail _ (.head _))) Order.l4 rfl rfl) ?_
 refine Gt (PS_neq_str rfl rfl) ?_
 refine Gn (.t4 0 3 4 13) ?_
 refine Gc (fun c1 => ?_) (fun c1 => ?_)
 ·
  have c1p := c1; try simp only [kk] at c1p
  refine Gs ?_
  refine Gm rfl (Gt (PSf fa47_4 rfl) ?_)
  refine Gt (PS_load rfl tys9 (.tail _ (.tail _ (.head _))) Order.l4 rfl rfl) ?_
  refine GL_callL rfl cf67 (.cons rfl (.cons rfl .nil)) (.cons .head (.cons (.tail (.tail .head)) .nil)) (ref_turn_boxOf_spec _ T _ _ hg hF hu (by omega)) (fun v5 B hv => ?_)
  obtain ⟨y6, rfl, y7, rfl⟩ := hv
  refine Ga rfl ?_
  refine Gn (.t3 0 3 5) ?_
  refine Gss ?_
  refine Gm rfl ?_
  refine Gt (PS_lss rfl rfl) ?_
  refine Gn (.t4 0 3 5 19) ?_
  refine Gc (fun c2 => ?_) (fun c2 => ?_)
  ·
   have c2p := c2; try simp only [kk] at c2p
   refine G_ret ?_
   refine GQ_then_ret ?_
   refine GQ_then_ret ?_
   refine GQ_ret rfl .nil ?_
   intro w1 hS
   have hS := (hS.perm (Pulls.perm (.cons .head (.cons .head .nil)))).headL
   have hq : T.get o = _ := Turn.get_no c1 c2
   refine ⟨_, ⟨?gq1, rfl, ?hl1, ?hB1⟩, hS⟩
   case hB1 => rw [hq]; (try rfl)
   case hl1 => rw [hq]; assumption
  ·
   have c2p := c2; try simp only [kk] at c2p
   refine G_skip ?_
   refine GQ_sub (.t3 0 3 5) ?_
   refine GQ_then ?_
   refine G_region ?_
   refine Gm rfl (Gt (PSn rfl) (Gt (PSf fa57_0 rfl) ?_))
   refine Gt (PS_loadA rfl tya34 (.head _) TurnV.l0 rfl) ?_
   refine Gm rfl ?_
   refine GL_callL rfl cf68 (.cons rfl (.cons rfl (.cons rfl .nil))) .nil (ref_HasAt_spec _ _ _) (fun v8 B hv => ?_)
   obtain ⟨y9, rfl, y10, rfl⟩ := hv
   refine Ga rfl ?_
   refine Gn (.t3 0 3 4) ?_
   refine Gs ?_
   refine Gm rfl (Gm rfl (Gt (PSf fa47_1 rfl) ?_))
   refine Gt (PS_load rfl tys3 (.tail _ (.tail _ (.tail _ (.tail _ (.head _))))) Order.l1 rfl rfl) ?_
   refine Gt (PSf fa47_3 rfl) ?_
   refine Gt (PS_load rfl tys9 (.tail _ (.tail _ (.tail _ (.tail _ (.head _))))) Order.l3 rfl rfl) ?_
   refine Gt (PSf fa47_2 rfl) ?_
   refine Gt (PS_load rfl tys4 (.tail _ (.tail _ (.tail _ (.tail _ (.head _))))) Order.l2 rfl rfl) ?_
   refine GL_callL rfl cf69 (.cons rfl (.cons rfl (.cons rfl (.cons rfl (.cons rfl .nil))))) (.cons (.tail .head) (.cons .head .nil)) (ref_turn_these_spec _ (T.box o.second).1 _ _ ((T.box o.second).1.w.has 2 (T.boxN o.second)) _ _ _ (hF.of_w (T.box_w _).1 (T.box_w _).2) (by assumption) (Nat.le_trans (Land.has_le _ _ _) (by decide)) (fun i hi => Land.has_mem hi) (by first | exact hz | (dsimp only; exact hz))) (fun v12 B hv => ?_)
   obtain ⟨y13, rfl, y14, rfl⟩ := hv
   refine Ga rfl ?_
   refine Gn (.t2 0 6) ?_
   refine Gss ?_
   refine Gm rfl ?_
   refine Gt (PS_len_slice rfl Tryz.underlying66 rfl) ?_
   refine Gt (PS_eql rfl rfl) ?_
   refine Gn (.t3 0 6 37) ?_
   refine Gc (fun c3 => ?_) (fun c3 => ?_)
   ·
    have c3p := c3; try simp only [kk] at c3p
    rw [y14] at c3
    refine G_region ?_
    refine Gm rfl ?_
    refine GL_callL rfl cf39 (.cons rfl (.cons rfl .nil)) (.cons .head (.cons (.tail (.tail .head)) .nil)) (ref_turn_tell_spec _ (T.box o.second).1 _ _ (by assumption) (by rw [(T.box_w _).2]; exact hb) (by have := T.box_out o.second; omega)) (fun v16 B hv => ?_)
    obtain ⟨y17, rfl, y18, rfl⟩ := hv
    refine Gn (.t2 0 6) ?_
    refine Gs ?_
    refine Gm rfl ?_
    refine Gt (PS_len_slice rfl Tryz.underlying66 rfl) ?_
    refine Gm rfl ?_
    refine Gn (.t4 0 40 41 42) ?_
    refine G_block ?_
    refine G_subF (.t4 42 0 40 41) ?_
    refine G_pull (.tail .head) ?_
    refine G_pull (.tail .head) ?_
    refine G_loop3_ (fun (k : Int) (X : Turn) (h : Hd) => 0 ≤ k ∧ k ≤ ((Turn.pickL (T.box o.second).1.w ((T.box o.second).1.w.has 2 (T.boxN o.second)) o.nth o.name o.all_).length : Int) ∧ T.get o = X.takeAll ((Turn.pickL (T.box o.second).1.w ((T.box o.second).1.w.has 2 (T.boxN o.second)) o.nth o.name o.all_).drop k.toNat) ∧ X.b = T.b ∧ (X.out.length : Int) ≤ T.out.length + 2 + k ∧ h.len = X.out.length ∧ ((Turn.pickL (T.box o.second).1.w ((T.box o.second).1.w.has 2 (T.boxN o.second)) o.nth o.name o.all_).length : Int) ≤ 9) (fun (k : Int) (X : Turn) (h : Hd) => (((Turn.pickL (T.box o.second).1.w ((T.box o.second).1.w.has 2 (T.boxN o.second)) o.nth o.name o.all_).length : Int) - k).toNat) (fun (k : Int) (X : Turn) (h : Hd) => [(42, .int .i64 k)]) (fun (k : Int) (X : Turn) (h : Hd) => [Res.box b 57 (TurnV.enc ⟨X.w, X.b, h⟩), Res.own h 60 16 (X.out.flatMap Ing.Event.enc)]) (0) (_) (_) ?_ rfl rfl (fun k X h hI1 => ?_)
    · exact ⟨by omega, by omega, (Turn.get_box c1 c2).trans (congrArg (fun q => Turn.takeAll q _) (if_t c3)), (T.box_w _).2, by have := T.box_out o.second; (try simp only [Turn.tell_len]); omega, by assumption, by have := (Turn.pickL_sub (T.box o.second).1.w ((T.box o.second).1.w.has 2 (T.boxN o.second)) o.nth o.name o.all_).length_le; have := Land.has_le (T.box o.second).1.w 2 (T.boxN o.second); omega⟩
    obtain ⟨hI11, hI12, hI13, hI14, hI15, hI16, hI17⟩ := hI1
    refine Gs ?_
    refine Gt (PS_lss rfl rfl) ?_
    refine GL_nil ?_
    refine GQ_then ?_
    refine G_seq ?_
    refine Gc (fun c4 => ?_) (fun c4 => ?_)
    ·
     have c4p := c4; try simp only [kk] at c4p
     have hx : 0 ≤ (Turn.pickL (T.box o.second).1.w ((T.box o.second).1.w.has 2 (T.boxN o.second)) o.nth o.name o.all_).getD k.toNat 0 ∧ (Turn.pickL (T.box o.second).1.w ((T.box o.second).1.w.has 2 (T.boxN o.second)) o.nth o.name o.all_).getD k.toNat 0 < 9 := (fun i hi => Land.has_mem (Turn.pickL_mem hi)) _ (Line.getD_memI (xs := (Turn.pickL (T.box o.second).1.w ((T.box o.second).1.w.has 2 (T.boxN o.second)) o.nth o.name o.all_)) (i := k.toNat) (by omega))
     refine G_skip ?_
     refine GQ_sub (.t4 0 40 41 42) ?_
     refine GQ_then ?_
     refine G_seq ?_
     refine G_block ?_
     refine Gs ?_
     refine Gt (PS_idxS is66 (by decide) (Kn.own (.tail _ (.tail _ (.tail _ (.head _))))) rfl rfl (by omega) (by omega)) ?_
     refine Gt (PS_ldInt rfl tys3 (Kn.own (.tail _ (.tail _ (.tail _ (.head _))))) (by omega)) ?_
     refine Ga rfl ?_
     refine Gn (.t5 0 8 40 41 42) ?_
     refine G_seq ?_
     refine G_planN (N := 20) [0, 0, 0, 0, 0, 16, 48, 112, 1, 257, 769, 2035, 4083, 8179, 4, 16388, 49156, 131071, 262143, 524287] mix (by kernel_rfl) rfl ?_
     refine Pf 0 rfl (PS_move rfl) (Pf 1 rfl (PS_move rfl) (Pf 2 rfl (PS_move rfl) (Pf 3 rfl (PS_move rfl) (Pf 4 rfl (PS_move rfl) (Pf 5 rfl (PSn rfl) ?_)))))
     refine Pf 6 rfl (PSf fa57_1 rfl) ?_
     refine Pf 7 rfl (PS_load rfl tys3 (.head _) TurnV.l1 rfl rfl) ?_
     refine Pf 8 rfl (PSn rfl) (Pf 9 rfl (PSf fa57_0 rfl) (Pf 10 rfl (PSf fa34_1 rfl) ?_))
     refine Pf 11 rfl (PS_indexAddr ia29 rfl rfl (by first | omega | exact hb.1 | exact hb.2 | (dsimp only; omega)) (by first | omega | exact hb.1 | exact hb.2 | (dsimp only; omega))) ?_
     refine Pf 12 rfl (PSf fa28_2 rfl) (Pf 14 rfl (PSn rfl) (Pf 15 rfl (PSf fa57_0 rfl) (Pf 16 rfl (PSf fa34_1 rfl) ?_)))
     refine Plan_chain 13 rfl (by kernel_rfl) ?_
     refine GL_unit (PU_store (((TurnV.l0.comp Land.l1).comp (Lens.ar (n := 9) Thing.fl (by first | omega | exact hb | (dsimp only; omega)))).comp Thing.l2) rfl rfl rfl sz3 rfl .head) ?_
     refine GL_hand0 rfl ⟨?_, ?_⟩
     · exact (Po rfl (PSf fa34_1 rfl) rfl rfl (Po rfl (PSf fa57_0 rfl) rfl rfl (Po rfl (PSn rfl) rfl rfl (Pk (Pk (Pk (Pk (Pk (Pk (Pk (Pk (Pk (Po rfl (PS_move rfl) rfl rfl (Po rfl (PS_move rfl) rfl rfl (Pk (Pk Pend_nil))))))))))))))))
     refine Pf 17 rfl (PS_indexAddr ia29 rfl rfl (by first | omega | exact hb.1 | exact hb.2 | (dsimp only; omega)) (by first | omega | exact hb.1 | exact hb.2 | (dsimp only; omega))) ?_
     refine Pf 18 rfl (PSf fa28_3 rfl) ?_
     refine Plan_chain 19 rfl (by kernel_rfl) ?_
     refine GL_unit (PU_store (((TurnV.l0.comp Land.l1).comp (Lens.ar (n := 9) Thing.fl (by first | omega | exact hb | (dsimp only; omega)))).comp Thing.l3) rfl rfl rfl sz3 rfl .head) ?_
     refine GL_hand0 rfl ⟨?_, ?_⟩
     · exact (Pk (Pk (Pk (Pk (Pk (Pk (Pk (Pk (Pk (Pk (Pk (Pk (Pk (Pk (Pk (Pk (Pk (Pk Pend_nil))))))))))))))))))
     refine Plan_end (by kernel_rfl) ?_
     refine GQ_sub (.t5 0 8 40 41 42) ?_
     refine GQ_then ?_
     refine G_swap (fun _ => .head) (congrArg (fun q => TurnV.enc ⟨q, _, _⟩) (Turn.place_eq X hx.1 hx.2 1 X.b)) ?_
     refine G_region ?_
     refine Gm rfl (Gm rfl (Gm rfl (Gt (PSn rfl) (Gt (PSf fa57_0 rfl) (Gt (PSf fa34_1 rfl) ?_)))))
     refine Gt (PS_indexAddr ia29 rfl rfl (by first | omega | exact hb.1 | exact hb.2 | (dsimp only; omega)) (by first | omega | exact hb.1 | exact hb.2 | (dsimp only; omega))) ?_
     refine Gt (PSf fa28_0 rfl) ?_
     refine Gt (PS_load rfl tys9 (.head _) (((TurnV.l0.comp Land.l1).comp (Lens.ar (n := 9) Thing.fl (by first | omega | exact hb | (dsimp only; omega)))).comp Thing.l0) rfl rfl) ?_
     refine GL_callL rfl cf20 (.cons rfl (.cons rfl (.cons rfl (.cons rfl (.cons rfl (.cons rfl (.cons rfl .nil))))))) (.cons .head (.cons .head .nil)) (ref_turn_add_spec _ (X.place ((Turn.pickL (T.box o.second).1.w ((T.box o.second).1.w.has 2 (T.boxN o.second)) o.nth o.name o.all_).getD k.toNat 0) 1 X.b) _ 3 (-1) 0 0 ((X.place ((Turn.pickL (T.box o.second).1.w ((T.box o.second).1.w.has 2 (T.boxN o.second)) o.nth o.name o.all_).getD k.toNat 0) 1 X.b).w.things.at ((Turn.pickL (T.box o.second).1.w ((T.box o.second).1.w.has 2 (T.boxN o.second)) o.nth o.name o.all_).getD k.toNat 0)).name [] (by assumption) (show 0 ≤ X.b ∧ X.b < 6 by rw [hI14]; exact hb) (show (-1 : Int) < 6 by decide) (show X.out.length ≤ 100000 by omega)) (fun v19 B hv => ?_)
     obtain ⟨y20, rfl, y21, rfl⟩ := hv
     refine GL_nil (GQ_sub (.t4 0 40 41 42) ?_)
     refine GQ_block ?_
     refine GQ_then ?_
     refine G_region ?_
     refine Gt (PS_add rfl rfl (IntWalk.i64_in _ (by first | omega | exact hb.1 | exact hb.2 | (dsimp only; omega)))) ?_
     refine Gm rfl ?_
     refine GL_nil (GQ_sub (.t4 0 40 41 42) ?_)
     refine GQ_next3_ (k + 1) _ _ ?_ ?_ (.t4 42 0 40 41) (.refl _)
     · exact ⟨by omega, by omega, by rw [hI13, Turn.takeAll_step hI11 (by omega)]; (try rfl), hI14, (by simp only [Turn.happens_len] at *; show ((X.out.length + 1 : Nat) : Int) ≤ _; omega), by assumption, hI17⟩
     · omega
    ·
     have c4p := c4; try simp only [kk] at c4p
     obtain rfl : k = ((Turn.pickL (T.box o.second).1.w ((T.box o.second).1.w.has 2 (T.boxN o.second)) o.nth o.name o.all_).length : Int) := by omega
     rw [Turn.drop_end] at hI13
     refine G_exit ?_
     refine GQ_then_exit ?_
     refine GQ_then_exit ?_
     refine GQ_block_exit ?_
     refine GQ_end rfl .nil ?_
     intro w1 hS
     have hS := (hS.perm (Pulls.perm (.cons .head (.cons .head .nil)))).headL
     refine ⟨_, ⟨?gq2, rfl, ?hl2, ?hB2⟩, hS⟩
     case hB2 => rw [hI13]; rfl
     case hl2 => rw [hI13]; exact hI16
   ·
    have c3p := c3; try simp only [kk] at c3p
    rw [y14] at c3
    refine G_skip ?_
    refine GQ_sub (.t2 0 6) ?_
    refine GQ_then ?_
    refine Gs ?_
    refine Gm rfl ?_
    refine Gt (PS_len_slice rfl Tryz.underlying66 rfl) ?_
    refine Gm rfl ?_
    refine Gn (.t4 0 40 41 42) ?_
    refine G_block ?_
    refine G_subF (.t4 42 0 40 41) ?_
    refine G_pull (.tail (.tail (.tail .head))) ?_
    refine G_pull (.tail .head) ?_
    refine G_loop3_ (fun (k : Int) (X : Turn) (h : Hd) => 0 ≤ k ∧ k ≤ ((Turn.pickL (T.box o.second).1.w ((T.box o.second).1.w.has 2 (T.boxN o.second)) o.nth o.name o.all_).length : Int) ∧ T.get o = X.takeAll ((Turn.pickL (T.box o.second).1.w ((T.box o.second).1.w.has 2 (T.boxN o.second)) o.nth o.name o.all_).drop k.toNat) ∧ X.b = T.b ∧ (X.out.length : Int) ≤ T.out.length + 2 + k ∧ h.len = X.out.length ∧ ((Turn.pickL (T.box o.second).1.w ((T.box o.second).1.w.has 2 (T.boxN o.second)) o.nth o.name o.all_).length : Int) ≤ 9) (fun (k : Int) (X : Turn) (h : Hd) => (((Turn.pickL (T.box o.second).1.w ((T.box o.second).1.w.has 2 (T.boxN o.second)) o.nth o.name o.all_).length : Int) - k).toNat) (fun (k : Int) (X : Turn) (h : Hd) => [(42, .int .i64 k)]) (fun (k : Int) (X : Turn) (h : Hd) => [Res.box b 57 (TurnV.enc ⟨X.w, X.b, h⟩), Res.own h 60 16 (X.out.flatMap Ing.Event.enc)]) (0) (_) (_) ?_ rfl rfl (fun k X h hI1 => ?_)
    · exact ⟨by omega, by omega, (Turn.get_box c1 c2).trans (congrArg (fun q => Turn.takeAll q _) (if_f c3)), (T.box_w _).2, by have := T.box_out o.second; (try simp only [Turn.tell_len]); omega, by assumption, by have := (Turn.pickL_sub (T.box o.second).1.w ((T.box o.second).1.w.has 2 (T.boxN o.second)) o.nth o.name o.all_).length_le; have := Land.has_le (T.box o.second).1.w 2 (T.boxN o.second); omega⟩
    obtain ⟨hI11, hI12, hI13, hI14, hI15, hI16, hI17⟩ := hI1
    refine Gs ?_
    refine Gt (PS_lss rfl rfl) ?_
    refine GL_nil ?_
    refine GQ_then ?_
    refine G_seq ?_
    refine Gc (fun c5 => ?_) (fun c5 => ?_)
    ·
     have c5p := c5; try simp only [kk] at c5p
     have hx : 0 ≤ (Turn.pickL (T.box o.second).1.w ((T.box o.second).1.w.has 2 (T.boxN o.second)) o.nth o.name o.all_).getD k.toNat 0 ∧ (Turn.pickL (T.box o.second).1.w ((T.box o.second).1.w.has 2 (T.boxN o.second)) o.nth o.name o.all_).getD k.toNat 0 < 9 := (fun i hi => Land.has_mem (Turn.pickL_mem hi)) _ (Line.getD_memI (xs := (Turn.pickL (T.box o.second).1.w ((T.box o.second).1.w.has 2 (T.boxN o.second)) o.nth o.name o.all_)) (i := k.toNat) (by omega))
     refine G_skip ?_
     refine GQ_sub (.t4 0 40 41 42) ?_
     refine GQ_then ?_
     refine G_seq ?_
     refine G_block ?_
     refine Gs ?_
     refine Gt (PS_idxS is66 (by decide) (Kn.own (.tail _ (.tail _ (.tail _ (.head _))))) rfl rfl (by omega) (by omega)) ?_
     refine Gt (PS_ldInt rfl tys3 (Kn.own (.tail _ (.tail _ (.tail _ (.head _))))) (by omega)) ?_
     refine Ga rfl ?_
     refine Gn (.t5 0 8 40 41 42) ?_
     refine G_seq ?_
     refine G_planN (N := 20) [0, 0, 0, 0, 0, 16, 48, 112, 1, 257, 769, 2035, 4083, 8179, 4, 16388, 49156, 131071, 262143, 524287] mix (by kernel_rfl) rfl ?_
     refine Pf 0 rfl (PS_move rfl) (Pf 1 rfl (PS_move rfl) (Pf 2 rfl (PS_move rfl) (Pf 3 rfl (PS_move rfl) (Pf 4 rfl (PS_move rfl) (Pf 5 rfl (PSn rfl) ?_)))))
     refine Pf 6 rfl (PSf fa57_1 rfl) ?_
     refine Pf 7 rfl (PS_load rfl tys3 (.head _) TurnV.l1 rfl rfl) ?_
     refine Pf 8 rfl (PSn rfl) (Pf 9 rfl (PSf fa57_0 rfl) (Pf 10 rfl (PSf fa34_1 rfl) ?_))
     refine Pf 11 rfl (PS_indexAddr ia29 rfl rfl (by first | omega | exact hb.1 | exact hb.2 | (dsimp only; omega)) (by first | omega | exact hb.1 | exact hb.2 | (dsimp only; omega))) ?_
     refine Pf 12 rfl (PSf fa28_2 rfl) (Pf 14 rfl (PSn rfl) (Pf 15 rfl (PSf fa57_0 rfl) (Pf 16 rfl (PSf fa34_1 rfl) ?_)))
     refine Plan_chain 13 rfl (by kernel_rfl) ?_
     refine GL_unit (PU_store (((TurnV.l0.comp Land.l1).comp (Lens.ar (n := 9) Thing.fl (by first | omega | exact hb | (dsimp only; omega)))).comp Thing.l2) rfl rfl rfl sz3 rfl .head) ?_
     refine GL_hand0 rfl ⟨?_, ?_⟩
     · exact (Po rfl (PSf fa34_1 rfl) rfl rfl (Po rfl (PSf fa57_0 rfl) rfl rfl (Po rfl (PSn rfl) rfl rfl (Pk (Pk (Pk (Pk (Pk (Pk (Pk (Pk (Pk (Po rfl (PS_move rfl) rfl rfl (Po rfl (PS_move rfl) rfl rfl (Pk (Pk Pend_nil))))))))))))))))
     refine Pf 17 rfl (PS_indexAddr ia29 rfl rfl (by first | omega | exact hb.1 | exact hb.2 | (dsimp only; omega)) (by first | omega | exact hb.1 | exact hb.2 | (dsimp only; omega))) ?_
     refine Pf 18 rfl (PSf fa28_3 rfl) ?_
     refine Plan_chain 19 rfl (by kernel_rfl) ?_
     refine GL_unit (PU_store (((TurnV.l0.comp Land.l1).comp (Lens.ar (n := 9) Thing.fl (by first | omega | exact hb | (dsimp only; omega)))).comp Thing.l3) rfl rfl rfl sz3 rfl .head) ?_
     refine GL_hand0 rfl ⟨?_, ?_⟩
     · exact (Pk (Pk (Pk (Pk (Pk (Pk (Pk (Pk (Pk (Pk (Pk (Pk (Pk (Pk (Pk (Pk (Pk (Pk Pend_nil))))))))))))))))))
     refine Plan_end (by kernel_rfl) ?_
     refine GQ_sub (.t5 0 8 40 41 42) ?_
     refine GQ_then ?_
     refine G_swap (fun _ => .head) (congrArg (fun q => TurnV.enc ⟨q, _, _⟩) (Turn.place_eq X hx.1 hx.2 1 X.b)) ?_
     refine G_region ?_
     refine Gm rfl (Gm rfl (Gm rfl (Gt (PSn rfl) (Gt (PSf fa57_0 rfl) (Gt (PSf fa34_1 rfl) ?_)))))
     refine Gt (PS_indexAddr ia29 rfl rfl (by first | omega | exact hb.1 | exact hb.2 | (dsimp only; omega)) (by first | omega | exact hb.1 | exact hb.2 | (dsimp only; omega))) ?_
     refine Gt (PSf fa28_0 rfl) ?_
     refine Gt (PS_load rfl tys9 (.head _) (((TurnV.l0.comp Land.l1).comp (Lens.ar (n := 9) Thing.fl (by first | omega | exact hb | (dsimp only; omega)))).comp Thing.l0) rfl rfl) ?_
     refine GL_callL rfl cf20 (.cons rfl (.cons rfl (.cons rfl (.cons rfl (.cons rfl (.cons rfl (.cons rfl .nil))))))) (.cons .head (.cons .head .nil)) (ref_turn_add_spec _ (X.place ((Turn.pickL (T.box o.second).1.w ((T.box o.second).1.w.has 2 (T.boxN o.second)) o.nth o.name o.all_).getD k.toNat 0) 1 X.b) _ 3 (-1) 0 0 ((X.place ((Turn.pickL (T.box o.second).1.w ((T.box o.second).1.w.has 2 (T.boxN o.second)) o.nth o.name o.all_).getD k.toNat 0) 1 X.b).w.things.at ((Turn.pickL (T.box o.second).1.w ((T.box o.second).1.w.has 2 (T.boxN o.second)) o.nth o.name o.all_).getD k.toNat 0)).name [] (by assumption) (show 0 ≤ X.b ∧ X.b < 6 by rw [hI14]; exact hb) (show (-1 : Int) < 6 by decide) (show X.out.length ≤ 100000 by omega)) (fun v22 B hv => ?_)
     obtain ⟨y23, rfl, y24, rfl⟩ := hv
     refine GL_nil (GQ_sub (.t4 0 40 41 42) ?_)
     refine GQ_block ?_
     refine GQ_then ?_
     refine G_region ?_
     refine Gt (PS_add rfl rfl (IntWalk.i64_in _ (by first | omega | exact hb.1 | exact hb.2 | (dsimp only; omega)))) ?_
     refine Gm rfl ?_
     refine GL_nil (GQ_sub (.t4 0 40 41 42) ?_)
     refine GQ_next3_ (k + 1) _ _ ?_ ?_ (.t4 42 0 40 41) (.refl _)
     · exact ⟨by omega, by omega, by rw [hI13, Turn.takeAll_step hI11 (by omega)]; (try rfl), hI14, (by simp only [Turn.happens_len] at *; show ((X.out.length + 1 : Nat) : Int) ≤ _; omega), by assumption, hI17⟩
     · omega
    ·
     have c5p := c5; try simp only [kk] at c5p
     obtain rfl : k = ((Turn.pickL (T.box o.second).1.w ((T.box o.second).1.w.has 2 (T.boxN o.second)) o.nth o.name o.all_).length : Int) := by omega
     rw [Turn.drop_end] at hI13
     refine G_exit ?_
     refine GQ_then_exit ?_
     refine GQ_then_exit ?_
     refine GQ_block_exit ?_
     refine GQ_end rfl .nil ?_
     intro w1 hS
     have hS := (hS.perm (Pulls.perm (.cons .head (.cons .head .nil)))).headL
     refine ⟨_, ⟨?gq3, rfl, ?hl3, ?hB3⟩, hS⟩
     case hB3 => rw [hI13]; rfl
     case hl3 => rw [hI13]; exact hI16
 ·
  have c1p := c1; try simp only [kk] at c1p
  refine G_skip ?_
  refine GQ_sub (.t3 0 3 4) ?_
  refine GQ_then ?_
  refine Gs ?_
  refine Gm rfl (Gm rfl (Gt (PSf fa47_1 rfl) ?_))
  refine Gt (PS_load rfl tys3 (.tail _ (.tail _ (.head _))) Order.l1 rfl rfl) ?_
  refine Gt (PSf fa47_3 rfl) ?_
  refine Gt (PS_load rfl tys9 (.tail _ (.tail _ (.head _))) Order.l3 rfl rfl) ?_
  refine Gt (PSf fa47_2 rfl) ?_
  refine Gt (PS_load rfl tys4 (.tail _ (.tail _ (.head _))) Order.l2 rfl rfl) ?_
  refine GL_callL rfl cf69 (.cons rfl (.cons rfl (.cons rfl (.cons rfl (.cons rfl .nil))))) (.cons .head (.cons .head .nil)) (ref_turn_these_spec _ T _ _ T.seen _ _ _ hF (by assumption) (Nat.le_trans T.seen_len (by decide)) (fun i hi => Turn.seen_rng hi) (by first | exact hz | (dsimp only; exact hz))) (fun v25 B hv => ?_)
  obtain ⟨y26, rfl, y27, rfl⟩ := hv
  refine Ga rfl ?_
  refine Gn (.t2 0 6) ?_
  refine Gss ?_
  refine Gm rfl ?_
  refine Gt (PS_len_slice rfl Tryz.underlying66 rfl) ?_
  refine Gt (PS_eql rfl rfl) ?_
  refine Gn (.t3 0 6 37) ?_
  refine Gc (fun c6 => ?_) (fun c6 => ?_)
  ·
   have c6p := c6; try simp only [kk] at c6p
   rw [y27] at c6
   refine G_region ?_
   refine Gm rfl ?_
   refine GL_callL rfl cf39 (.cons rfl (.cons rfl .nil)) (.cons .head (.cons (.tail (.tail (.tail .head))) .nil)) (ref_turn_tell_spec _ T _ _ (by assumption) (by exact hb) (by have := T.box_out o.second; omega)) (fun v29 B hv => ?_)
   obtain ⟨y30, rfl, y31, rfl⟩ := hv
   refine Gn (.t2 0 6) ?_
   refine Gs ?_
   refine Gm rfl ?_
   refine Gt (PS_len_slice rfl Tryz.underlying66 rfl) ?_
   refine Gm rfl ?_
   refine Gn (.t4 0 40 41 42) ?_
   refine G_block ?_
   refine G_subF (.t4 42 0 40 41) ?_
   refine G_pull (.tail .head) ?_
   refine G_pull (.tail .head) ?_
   refine G_loop3_ (fun (k : Int) (X : Turn) (h : Hd) => 0 ≤ k ∧ k ≤ ((Turn.pickL T.w T.seen o.nth o.name o.all_).length : Int) ∧ T.get o = X.takeAll ((Turn.pickL T.w T.seen o.nth o.name o.all_).drop k.toNat) ∧ X.b = T.b ∧ (X.out.length : Int) ≤ T.out.length + 2 + k ∧ h.len = X.out.length ∧ ((Turn.pickL T.w T.seen o.nth o.name o.all_).length : Int) ≤ 9) (fun (k : Int) (X : Turn) (h : Hd) => (((Turn.pickL T.w T.seen o.nth o.name o.all_).length : Int) - k).toNat) (fun (k : Int) (X : Turn) (h : Hd) => [(42, .int .i64 k)]) (fun (k : Int) (X : Turn) (h : Hd) => [Res.box b 57 (TurnV.enc ⟨X.w, X.b, h⟩), Res.own h 60 16 (X.out.flatMap Ing.Event.enc)]) (0) (_) (_) ?_ rfl rfl (fun k X h hI1 => ?_)
   · exact ⟨by omega, by omega, (Turn.get_here c1).trans (congrArg (fun q => Turn.takeAll q _) (if_t c6)), rfl, by have := T.box_out o.second; (try simp only [Turn.tell_len]); omega, by assumption, by have := (Turn.pickL_sub T.w T.seen o.nth o.name o.all_).length_le; have := T.seen_len; omega⟩
   obtain ⟨hI11, hI12, hI13, hI14, hI15, hI16, hI17⟩ := hI1
   refine Gs ?_
   refine Gt (PS_lss rfl rfl) ?_
   refine GL_nil ?_
   refine GQ_then ?_
   refine G_seq ?_
   refine Gc (fun c7 => ?_) (fun c7 => ?_)
   ·
    have c7p := c7; try simp only [kk] at c7p
    have hx : 0 ≤ (Turn.pickL T.w T.seen o.nth o.name o.all_).getD k.toNat 0 ∧ (Turn.pickL T.w T.seen o.nth o.name o.all_).getD k.toNat 0 < 9 := (fun i hi => Turn.seen_rng (Turn.pickL_mem hi)) _ (Line.getD_memI (xs := (Turn.pickL T.w T.seen o.nth o.name o.all_)) (i := k.toNat) (by omega))
    refine G_skip ?_
    refine GQ_sub (.t4 0 40 41 42) ?_
    refine GQ_then ?_
    refine G_seq ?_
    refine G_block ?_
    refine Gs ?_
    refine Gt (PS_idxS is66 (by decide) (Kn.own (.tail _ (.tail _ (.tail _ (.head _))))) rfl rfl (by omega) (by omega)) ?_
    refine Gt (PS_ldInt rfl tys3 (Kn.own (.tail _ (.tail _ (.tail _ (.head _))))) (by omega)) ?_
    refine Ga rfl ?_
    refine Gn (.t5 0 8 40 41 42) ?_
    refine G_seq ?_
    refine G_planN (N := 20) [0, 0, 0, 0, 0, 16, 48, 112, 1, 257, 769, 2035, 4083, 8179, 4, 16388, 49156, 131071, 262143, 524287] mix (by kernel_rfl) rfl ?_
    refine Pf 0 rfl (PS_move rfl) (Pf 1 rfl (PS_move rfl) (Pf 2 rfl (PS_move rfl) (Pf 3 rfl (PS_move rfl) (Pf 4 rfl (PS_move rfl) (Pf 5 rfl (PSn rfl) ?_)))))
    refine Pf 6 rfl (PSf fa57_1 rfl) ?_
    refine Pf 7 rfl (PS_load rfl tys3 (.head _) TurnV.l1 rfl rfl) ?_
    refine Pf 8 rfl (PSn rfl) (Pf 9 rfl (PSf fa57_0 rfl) (Pf 10 rfl (PSf fa34_1 rfl) ?_))
    refine Pf 11 rfl (PS_indexAddr ia29 rfl rfl (by first | omega | exact hb.1 | exact hb.2 | (dsimp only; omega)) (by first | omega | exact hb.1 | exact hb.2 | (dsimp only; omega))) ?_
    refine Pf 12 rfl (PSf fa28_2 rfl) (Pf 14 rfl (PSn rfl) (Pf 15 rfl (PSf fa57_0 rfl) (Pf 16 rfl (PSf fa34_1 rfl) ?_)))
    refine Plan_chain 13 rfl (by kernel_rfl) ?_
    refine GL_unit (PU_store (((TurnV.l0.comp Land.l1).comp (Lens.ar (n := 9) Thing.fl (by first | omega | exact hb | (dsimp only; omega)))).comp Thing.l2) rfl rfl rfl sz3 rfl .head) ?_
    refine GL_hand0 rfl ⟨?_, ?_⟩
    · exact (Po rfl (PSf fa34_1 rfl) rfl rfl (Po rfl (PSf fa57_0 rfl) rfl rfl (Po rfl (PSn rfl) rfl rfl (Pk (Pk (Pk (Pk (Pk (Pk (Pk (Pk (Pk (Po rfl (PS_move rfl) rfl rfl (Po rfl (PS_move rfl) rfl rfl (Pk (Pk Pend_nil))))))))))))))))
    refine Pf 17 rfl (PS_indexAddr ia29 rfl rfl (by first | omega | exact hb.1 | exact hb.2 | (dsimp only; omega)) (by first | omega | exact hb.1 | exact hb.2 | (dsimp only; omega))) ?_
    refine Pf 18 rfl (PSf fa28_3 rfl) ?_
    refine Plan_chain 19 rfl (by kernel_rfl) ?_
    refine GL_unit (PU_store (((TurnV.l0.comp Land.l1).comp (Lens.ar (n := 9) Thing.fl (by first | omega | exact hb | (dsimp only; omega)))).comp Thing.l3) rfl rfl rfl sz3 rfl .head) ?_
    refine GL_hand0 rfl ⟨?_, ?_⟩
    · exact (Pk (Pk (Pk (Pk (Pk (Pk (Pk (Pk (Pk (Pk (Pk (Pk (Pk (Pk (Pk (Pk (Pk (Pk Pend_nil))))))))))))))))))
    refine Plan_end (by kernel_rfl) ?_
    refine GQ_sub (.t5 0 8 40 41 42) ?_
    refine GQ_then ?_
    refine G_swap (fun _ => .head) (congrArg (fun q => TurnV.enc ⟨q, _, _⟩) (Turn.place_eq X hx.1 hx.2 1 X.b)) ?_
    refine G_region ?_
    refine Gm rfl (Gm rfl (Gm rfl (Gt (PSn rfl) (Gt (PSf fa57_0 rfl) (Gt (PSf fa34_1 rfl) ?_)))))
    refine Gt (PS_indexAddr ia29 rfl rfl (by first | omega | exact hb.1 | exact hb.2 | (dsimp only; omega)) (by first | omega | exact hb.1 | exact hb.2 | (dsimp only; omega))) ?_
    refine Gt (PSf fa28_0 rfl) ?_
    refine Gt (PS_load rfl tys9 (.head _) (((TurnV.l0.comp Land.l1).comp (Lens.ar (n := 9) Thing.fl (by first | omega | exact hb | (dsimp only; omega)))).comp Thing.l0) rfl rfl) ?_
    refine GL_callL rfl cf20 (.cons rfl (.cons rfl (.cons rfl (.cons rfl (.cons rfl (.cons rfl (.cons rfl .nil))))))) (.cons .head (.cons .head .nil)) (ref_turn_add_spec _ (X.place ((Turn.pickL T.w T.seen o.nth o.name o.all_).getD k.toNat 0) 1 X.b) _ 3 (-1) 0 0 ((X.place ((Turn.pickL T.w T.seen o.nth o.name o.all_).getD k.toNat 0) 1 X.b).w.things.at ((Turn.pickL T.w T.seen o.nth o.name o.all_).getD k.toNat 0)).name [] (by assumption) (show 0 ≤ X.b ∧ X.b < 6 by rw [hI14]; exact hb) (show (-1 : Int) < 6 by decide) (show X.out.length ≤ 100000 by omega)) (fun v32 B hv => ?_)
    obtain ⟨y33, rfl, y34, rfl⟩ := hv
    refine GL_nil (GQ_sub (.t4 0 40 41 42) ?_)
    refine GQ_block ?_
    refine GQ_then ?_
    refine G_region ?_
    refine Gt (PS_add rfl rfl (IntWalk.i64_in _ (by first | omega | exact hb.1 | exact hb.2 | (dsimp only; omega)))) ?_
    refine Gm rfl ?_
    refine GL_nil (GQ_sub (.t4 0 40 41 42) ?_)
    refine GQ_next3_ (k + 1) _ _ ?_ ?_ (.t4 42 0 40 41) (.refl _)
    · exact ⟨by omega, by omega, by rw [hI13, Turn.takeAll_step hI11 (by omega)]; (try rfl), hI14, (by simp only [Turn.happens_len] at *; show ((X.out.length + 1 : Nat) : Int) ≤ _; omega), by assumption, hI17⟩
    · omega
   ·
    have c7p := c7; try simp only [kk] at c7p
    obtain rfl : k = ((Turn.pickL T.w T.seen o.nth o.name o.all_).length : Int) := by omega
    rw [Turn.drop_end] at hI13
    refine G_exit ?_
    refine GQ_then_exit ?_
    refine GQ_then_exit ?_
    refine GQ_block_exit ?_
    refine GQ_end rfl .nil ?_
    intro w1 hS
    have hS := (hS.perm (Pulls.perm (.cons .head (.cons .head .nil)))).headL
    refine ⟨_, ⟨?gq4, rfl, ?hl4, ?hB4⟩, hS⟩
    case hB4 => rw [hI13]; rfl
    case hl4 => rw [hI13]; exact hI16
  ·
   have c6p := c6; try simp only [kk] at c6p
   rw [y27] at c6
   refine G_skip ?_
   refine GQ_sub (.t2 0 6) ?_
   refine GQ_then ?_
   refine Gs ?_
   refine Gm rfl ?_
   refine Gt (PS_len_slice rfl Tryz.underlying66 rfl) ?_
   refine Gm rfl ?_
   refine Gn (.t4 0 40 41 42) ?_
   refine G_block ?_
   refine G_subF (.t4 42 0 40 41) ?_
   refine G_pull (.tail (.tail (.tail (.tail .head)))) ?_
   refine G_pull (.tail .head) ?_
   refine G_loop3_ (fun (k : Int) (X : Turn) (h : Hd) => 0 ≤ k ∧ k ≤ ((Turn.pickL T.w T.seen o.nth o.name o.all_).length : Int) ∧ T.get o = X.takeAll ((Turn.pickL T.w T.seen o.nth o.name o.all_).drop k.toNat) ∧ X.b = T.b ∧ (X.out.length : Int) ≤ T.out.length + 2 + k ∧ h.len = X.out.length ∧ ((Turn.pickL T.w T.seen o.nth o.name o.all_).length : Int) ≤ 9) (fun (k : Int) (X : Turn) (h : Hd) => (((Turn.pickL T.w T.seen o.nth o.name o.all_).length : Int) - k).toNat) (fun (k : Int) (X : Turn) (h : Hd) => [(42, .int .i64 k)]) (fun (k : Int) (X : Turn) (h : Hd) => [Res.box b 57 (TurnV.enc ⟨X.w, X.b, h⟩), Res.own h 60 16 (X.out.flatMap Ing.Event.enc)]) (0) (_) (_) ?_ rfl rfl (fun k X h hI1 => ?_)
   · exact ⟨by omega, by omega, (Turn.get_here c1).trans (congrArg (fun q => Turn.takeAll q _) (if_f c6)), rfl, by have := T.box_out o.second; (try simp only [Turn.tell_len]); omega, by assumption, by have := (Turn.pickL_sub T.w T.seen o.nth o.name o.all_).length_le; have := T.seen_len; omega⟩
   obtain ⟨hI11, hI12, hI13, hI14, hI15, hI16, hI17⟩ := hI1
   refine Gs ?_
   refine Gt (PS_lss rfl rfl) ?_
   refine GL_nil ?_
   refine GQ_then ?_
   refine G_seq ?_
   refine Gc (fun c8 => ?_) (fun c8 => ?_)
   ·
    have c8p := c8; try simp only [kk] at c8p
    have hx : 0 ≤ (Turn.pickL T.w T.seen o.nth o.name o.all_).getD k.toNat 0 ∧ (Turn.pickL T.w T.seen o.nth o.name o.all_).getD k.toNat 0 < 9 := (fun i hi => Turn.seen_rng (Turn.pickL_mem hi)) _ (Line.getD_memI (xs := (Turn.pickL T.w T.seen o.nth o.name o.all_)) (i := k.toNat) (by omega))
    refine G_skip ?_
    refine GQ_sub (.t4 0 40 41 42) ?_
    refine GQ_then ?_
    refine G_seq ?_
    refine G_block ?_
    refine Gs ?_
    refine Gt (PS_idxS is66 (by decide) (Kn.own (.tail _ (.tail _ (.tail _ (.head _))))) rfl rfl (by omega) (by omega)) ?_
    refine Gt (PS_ldInt rfl tys3 (Kn.own (.tail _ (.tail _ (.tail _ (.head _))))) (by omega)) ?_
    refine Ga rfl ?_
    refine Gn (.t5 0 8 40 41 42) ?_
    refine G_seq ?_
    refine G_planN (N := 20) [0, 0, 0, 0, 0, 16, 48, 112, 1, 257, 769, 2035, 4083, 8179, 4, 16388, 49156, 131071, 262143, 524287] mix (by kernel_rfl) rfl ?_
    refine Pf 0 rfl (PS_move rfl) (Pf 1 rfl (PS_move rfl) (Pf 2 rfl (PS_move rfl) (Pf 3 rfl (PS_move rfl) (Pf 4 rfl (PS_move rfl) (Pf 5 rfl (PSn rfl) ?_)))))
    refine Pf 6 rfl (PSf fa57_1 rfl) ?_
    refine Pf 7 rfl (PS_load rfl tys3 (.head _) TurnV.l1 rfl rfl) ?_
    refine Pf 8 rfl (PSn rfl) (Pf 9 rfl (PSf fa57_0 rfl) (Pf 10 rfl (PSf fa34_1 rfl) ?_))
    refine Pf 11 rfl (PS_indexAddr ia29 rfl rfl (by first | omega | exact hb.1 | exact hb.2 | (dsimp only; omega)) (by first | omega | exact hb.1 | exact hb.2 | (dsimp only; omega))) ?_
    refine Pf 12 rfl (PSf fa28_2 rfl) (Pf 14 rfl (PSn rfl) (Pf 15 rfl (PSf fa57_0 rfl) (Pf 16 rfl (PSf fa34_1 rfl) ?_)))
    refine Plan_chain 13 rfl (by kernel_rfl) ?_
    refine GL_unit (PU_store (((TurnV.l0.comp Land.l1).comp (Lens.ar (n := 9) Thing.fl (by first | omega | exact hb | (dsimp only; omega)))).comp Thing.l2) rfl rfl rfl sz3 rfl .head) ?_
    refine GL_hand0 rfl ⟨?_, ?_⟩
    · exact (Po rfl (PSf fa34_1 rfl) rfl rfl (Po rfl (PSf fa57_0 rfl) rfl rfl (Po rfl (PSn rfl) rfl rfl (Pk (Pk (Pk (Pk (Pk (Pk (Pk (Pk (Pk (Po rfl (PS_move rfl) rfl rfl (Po rfl (PS_move rfl) rfl rfl (Pk (Pk Pend_nil))))))))))))))))
    refine Pf 17 rfl (PS_indexAddr ia29 rfl rfl (by first | omega | exact hb.1 | exact hb.2 | (dsimp only; omega)) (by first | omega | exact hb.1 | exact hb.2 | (dsimp only; omega))) ?_
    refine Pf 18 rfl (PSf fa28_3 rfl) ?_
    refine Plan_chain 19 rfl (by kernel_rfl) ?_
    refine GL_unit (PU_store (((TurnV.l0.comp Land.l1).comp (Lens.ar (n := 9) Thing.fl (by first | omega | exact hb | (dsimp only; omega)))).comp Thing.l3) rfl rfl rfl sz3 rfl .head) ?_
    refine GL_hand0 rfl ⟨?_, ?_⟩
    · exact (Pk (Pk (Pk (Pk (Pk (Pk (Pk (Pk (Pk (Pk (Pk (Pk (Pk (Pk (Pk (Pk (Pk (Pk Pend_nil))))))))))))))))))
    refine Plan_end (by kernel_rfl) ?_
    refine GQ_sub (.t5 0 8 40 41 42) ?_
    refine GQ_then ?_
    refine G_swap (fun _ => .head) (congrArg (fun q => TurnV.enc ⟨q, _, _⟩) (Turn.place_eq X hx.1 hx.2 1 X.b)) ?_
    refine G_region ?_
    refine Gm rfl (Gm rfl (Gm rfl (Gt (PSn rfl) (Gt (PSf fa57_0 rfl) (Gt (PSf fa34_1 rfl) ?_)))))
    refine Gt (PS_indexAddr ia29 rfl rfl (by first | omega | exact hb.1 | exact hb.2 | (dsimp only; omega)) (by first | omega | exact hb.1 | exact hb.2 | (dsimp only; omega))) ?_
    refine Gt (PSf fa28_0 rfl) ?_
    refine Gt (PS_load rfl tys9 (.head _) (((TurnV.l0.comp Land.l1).comp (Lens.ar (n := 9) Thing.fl (by first | omega | exact hb | (dsimp only; omega)))).comp Thing.l0) rfl rfl) ?_
    refine GL_callL rfl cf20 (.cons rfl (.cons rfl (.cons rfl (.cons rfl (.cons rfl (.cons rfl (.cons rfl .nil))))))) (.cons .head (.cons .head .nil)) (ref_turn_add_spec _ (X.place ((Turn.pickL T.w T.seen o.nth o.name o.all_).getD k.toNat 0) 1 X.b) _ 3 (-1) 0 0 ((X.place ((Turn.pickL T.w T.seen o.nth o.name o.all_).getD k.toNat 0) 1 X.b).w.things.at ((Turn.pickL T.w T.seen o.nth o.name o.all_).getD k.toNat 0)).name [] (by assumption) (show 0 ≤ X.b ∧ X.b < 6 by rw [hI14]; exact hb) (show (-1 : Int) < 6 by decide) (show X.out.length ≤ 100000 by omega)) (fun v35 B hv => ?_)
    obtain ⟨y36, rfl, y37, rfl⟩ := hv
    refine GL_nil (GQ_sub (.t4 0 40 41 42) ?_)
    refine GQ_block ?_
    refine GQ_then ?_
    refine G_region ?_
    refine Gt (PS_add rfl rfl (IntWalk.i64_in _ (by first | omega | exact hb.1 | exact hb.2 | (dsimp only; omega)))) ?_
    refine Gm rfl ?_
    refine GL_nil (GQ_sub (.t4 0 40 41 42) ?_)
    refine GQ_next3_ (k + 1) _ _ ?_ ?_ (.t4 42 0 40 41) (.refl _)
    · exact ⟨by omega, by omega, by rw [hI13, Turn.takeAll_step hI11 (by omega)]; (try rfl), hI14, (by simp only [Turn.happens_len] at *; show ((X.out.length + 1 : Nat) : Int) ≤ _; omega), by assumption, hI17⟩
    · omega
   ·
    have c8p := c8; try simp only [kk] at c8p
    obtain rfl : k = ((Turn.pickL T.w T.seen o.nth o.name o.all_).length : Int) := by omega
    rw [Turn.drop_end] at hI13
    refine G_exit ?_
    refine GQ_then_exit ?_
    refine GQ_then_exit ?_
    refine GQ_block_exit ?_
    refine GQ_end rfl .nil ?_
    intro w1 hS
    have hS := (hS.perm (Pulls.perm (.cons .head (.cons .head .nil)))).headL
    refine ⟨_, ⟨?gq5, rfl, ?hl5, ?hB5⟩, hS⟩
    case hB5 => rw [hI13]; rfl
    case hl5 => rw [hI13]; exact hI16
theorem ref_turn_personOf_spec (b : Nat) (T : Turn) (g : Hd) (u : Str) (hg : g.len = T.out.length) (hF : T.Fit) (hu : u.length ≤ 5000000) (hn : T.out.length ≤ 99000) : Ctr Tryz.prog 38 #[.pointer (some ⟨b, 0, none⟩), vstr u] [Res.box b 57 (TurnV.enc ⟨T.w, T.b, g⟩), Res.own g 60 16 (T.out.flatMap Ing.Event.enc)] (fun v B => ∃ g' : Hd, v = .int .i64 (T.someN u) ∧ g'.len = ((T.somebody u).1).out.length ∧ B = [Res.box b 57 (TurnV.enc ⟨((T.somebody u).1).w, ((T.somebody u).1).b, g'⟩), Res.own g' 60 16 (((T.somebody u).1).out.flatMap Ing.Event.enc)]) := by
 intro w hS0
 have hb := hF.b
 have hr := hF.room
 refine Ret_body _ _ Tryz.func38 rfl rfl rfl (hS0) ?_
 refine Gs ?_
 refine Ga rfl ?_
 refine Gn (.t2 0 1) ?_
 refine Gs ?_
 refine Gm rfl ?_
 refine GL_pure rfl cf71 (.cons rfl .nil) (fun w hS => ref_NounOf_spec _ (by omega) w) ?_
 refine Gm rfl ?_
 refine Gt (PS_extract rfl rfl) ?_
 refine Gt (PS_extract rfl rfl) ?_
 refine Gt (PS_extract rfl rfl) ?_
 refine Gt (PS_extract rfl rfl) ?_
 refine Ga rfl (Ga rfl (Ga rfl (Ga rfl ?_)))
 refine Gn (.t5 0 5 6 7 8) ?_
 refine Gss ?_
 refine Gm rfl ?_
 refine GL_nil ?_
 refine GQ_then ?_
 refine G_block ?_
 refine G_subF (.t6 5 17 0 6 7 8) ?_
 refine G_loop2_ (fun (k : Int) (n : Int) => 0 ≤ k ∧ k ≤ 6 ∧ (Turn.okN u = true → T.someF (Words.noun u).2.1 6 (Words.noun u).1 = T.someF (Words.noun u).2.1 (6 - k).toNat n ∧ -k ≤ n ∧ n ≤ 99)) (fun (k : Int) (n : Int) => (6 - k).toNat) (fun (k : Int) (n : Int) => [(5, .int .i64 n), (17, .int .i64 k)]) (fun (k : Int) (n : Int) => []) (0) (_) ?_ rfl rfl (fun k n hI1 => ?_)
 · exact ⟨by omega, by omega, fun h => ⟨rfl, by have := Words.noun_fine u (of_decide_eq_true (Bool.and_eq_true_iff.1 h).1); omega, by have := Words.noun_fine u (of_decide_eq_true (Bool.and_eq_true_iff.1 h).1); omega⟩⟩
 obtain ⟨hI11, hI12, hI13⟩ := hI1
 refine Gs ?_
 refine Gt (PS_lss rfl rfl) ?_
 refine GL_nil ?_
 refine GQ_then ?_
 refine G_seq ?_
 refine Gc (fun c1 => ?_) (fun c1 => ?_)
 ·
  have c1p := c1; try simp only [kk] at c1p
  refine G_skip ?_
  refine GQ_sub (.t6 0 5 6 7 8 17) ?_
  refine GQ_then ?_
  refine G_seq ?_
  refine G_block ?_
  refine Gs ?_
  refine Gm rfl (Ga rfl ?_)
  refine Gn (.t7 0 5 6 7 8 9 17) ?_
  refine G_seq ?_
  refine G_seq ?_
  refine G_planN (N := 38) [0, 1, 3, 7, 15, 31, 63, 63, 191, 447, 959, 2047, 4095, 8191, 16383, 16383, 32767, 98303, 229375, 524287, 1048575, 2097151, 16383, 8388607, 16777215, 33554431, 67108863, 134217727, 268435455, 536870911, 67108863, 1140850687, 3288334335, 7583301631, 67108863, 34359738367, 68719476735, 137438953471] mix (by kernel_rfl) rfl ?_
  refine Pf 0 rfl (PS_move rfl) ?_
  refine Pf 1 rfl (PS_neq rfl rfl) ?_
  refine Pf 2 rfl (PS_move rfl) ?_
  refine Pgf 3 22 rfl rfl rfl (fun q => PS_move rfl) ?_
  refine Pf 4 rfl (PS_or rfl rfl (fun h => by rw [h]; rfl)) ?_
  refine Pf 5 rfl (PS_move rfl) ?_
  refine Pgf 6 25 rfl rfl rfl (fun q => PS_move rfl) ?_
  refine Pgf 7 25 rfl rfl rfl (fun q => PS_move rfl) ?_
  refine Pgf 8 25 rfl rfl rfl (fun q => PSn (cF rfl q)) ?_
  refine Pgf 9 25 rfl rfl rfl (fun q => PSf fa57_1 (cF rfl q)) ?_
  refine Pgf 10 25 rfl rfl rfl (fun q => PS_load (cF rfl q) tys3 (.head _) TurnV.l1 rfl rfl) ?_
  refine Pgf 11 25 rfl rfl rfl (fun q => PS_eql (cF rfl q) (cF rfl q)) ?_
  refine Pf 12 rfl (PS_or rfl rfl (fun h => by rw [h]; rfl)) ?_
  refine Pf 13 rfl (PS_move rfl) ?_
  refine Pgf 14 33 rfl rfl rfl (fun q => PS_move rfl) ?_
  refine Pgf 15 33 rfl rfl rfl (fun q => PS_move rfl) ?_
  refine Pgf 16 33 rfl rfl rfl (fun q => PSn (cF rfl q)) ?_
  refine Pgf 17 33 rfl rfl rfl (fun q => PSf fa57_0 (cF rfl q)) ?_
  refine Pgf 18 33 rfl rfl rfl (fun q => PSf fa34_2 (cF rfl q)) ?_
  refine Plan_float 19 rfl rfl (by kernel_rfl) (OK_gf (t := 33) rfl rfl (fun q => by have q1 := q; (try simp at q1); exact EX_s (PS_indexAddr ia32 (cF rfl q) (cF rfl q) (by first | omega | exact hb.1 | exact hb.2 | (dsimp only; omega)) (by first | omega | exact hb.1 | exact hb.2 | (dsimp only; omega))))) ?_
  refine Pgf 20 33 rfl rfl rfl (fun q => PSf fa31_0 (cF rfl q)) ?_
  refine Plan_float 21 rfl rfl (by kernel_rfl) (OK_gf (t := 33) rfl rfl (fun q => by have q1 := q; (try simp at q1); exact EX_s (PS_load (cF rfl q) tys9 (.head _) (((TurnV.l0.comp Land.l2).comp (Lens.ar (n := 6) Being.fl (by first | omega | exact hb | (dsimp only; omega)))).comp Being.l0) rfl rfl))) ?_
  refine Pgf 22 33 rfl rfl rfl (fun q => PS_move rfl) ?_
  refine Pgf 23 33 rfl rfl rfl (fun q => PS_neq_str (cF rfl q) (cF rfl q)) ?_
  refine Pf 24 rfl (PS_or rfl rfl (fun h => by rw [h]; rfl)) ?_
  refine Pf 25 rfl (PS_move rfl) ?_
  refine Pgf 26 45 rfl rfl rfl (fun q => PS_move rfl) ?_
  refine Pgf 27 45 rfl rfl rfl (fun q => PSn (cF rfl q)) ?_
  refine Pgf 28 45 rfl rfl rfl (fun q => PSf fa57_0 (cF rfl q)) ?_
  refine Pgf 29 45 rfl rfl rfl (fun q => PS_loadA (cF rfl q) tya34 (.head _) TurnV.l0 rfl) ?_
  refine Pgf 30 45 rfl rfl rfl (fun q => PS_move rfl) ?_
  refine Pgf 31 45 rfl rfl rfl (fun q => PSn (cF rfl q)) ?_
  refine Pgf 32 45 rfl rfl rfl (fun q => PSf fa57_1 (cF rfl q)) ?_
  refine Pgf 33 45 rfl rfl rfl (fun q => PS_load (cF rfl q) tys3 (.head _) TurnV.l1 rfl rfl) ?_
  refine Pgf 34 45 rfl rfl rfl (fun q => PS_move rfl) ?_
  refine Plan_float 35 rfl rfl (by kernel_rfl) (OK_gf (t := 45) rfl rfl (fun q => by have q1 := q; (try simp at q1); exact EX_c (PC_of cf53 (.cons (cF rfl q) (.cons (cF rfl q) (.cons (cF rfl q) .nil))) (fun w hS => ref_IsSeen_spec _ _ _ w)))) ?_
  refine Pgf 36 45 rfl rfl rfl (fun q => PS_not (cF rfl q)) ?_
  refine Pf 37 rfl (PS_or rfl rfl (fun h => by rw [h]; rfl)) ?_
  refine Plan_end (by kernel_rfl) ?_
  refine GQ_sub (.t8 0 5 6 7 8 9 17 57) ?_
  refine GQ_then ?_
  refine Gc (fun c2 => ?_) (fun c2 => ?_)
  ·
   have c2p := c2; try simp only [kk] at c2p
   refine G_exit ?_
   refine GQ_then_exit ?_
   refine GQ_block_exit ?_
   refine GQ_sub (.t6 0 5 6 7 8 17) ?_
   refine GQ_then ?_
   refine G_region ?_
   refine Gt (PS_add rfl rfl (IntWalk.i64_in _ (by first | omega | exact hb.1 | exact hb.2 | (dsimp only; omega)))) ?_
   refine Gm rfl ?_
   refine GL_nil (GQ_sub (.t6 0 5 6 7 8 17) ?_)
   refine GQ_next2_ (k + 1) (n) ?_ ?_ (.t6 5 17 0 6 7 8) (.refl _)
   · exact ⟨by omega, by omega, fun hok => by
       have hb2 := Turn.ok_bad (u := u)
       have hcs := c2
       rw [hok] at hb2
       rw [hb2, Bool.not_true, Bool.false_or] at hcs
       obtain ⟨h1, h2, h3⟩ := hI13 hok
       exact ⟨by rw [h1, Turn.someF_step hI11 (by omega), if_t hcs], by omega, h3⟩⟩
   · omega
  ·
   have c2p := c2; try simp only [kk] at c2p
   have hcs := c2
   rw [Bool.or_eq_false_iff, Bool.or_eq_false_iff, Bool.or_eq_false_iff] at hcs
   obtain ⟨⟨⟨hc1, hc2⟩, hc3⟩, hc4⟩ := hcs
   have hok : Turn.okN u = true := by have := Turn.ok_bad (u := u); rw [hc1] at this; simpa using this.symm
   have hcc : (decide (k = T.b) || !decide ((T.w.beings.at k).name = (Words.noun u).2.1) || !T.w.sees T.b k) = false := by rw [Bool.or_eq_false_iff, Bool.or_eq_false_iff]; exact ⟨⟨hc2, hc3⟩, hc4⟩
   have hnr := hI13 hok
   have hn2 := hnr.2
   refine G_skip ?_
   refine GQ_sub (.t7 0 5 6 7 8 9 17) ?_
   refine GQ_then ?_
   refine Gss ?_
   refine Gm rfl ?_
   refine Gt (PS_eql rfl rfl) ?_
   refine Gn (.t8 0 5 6 7 8 9 17 59) ?_
   refine Gc (fun c3 => ?_) (fun c3 => ?_)
   ·
    have c3p := c3; try simp only [kk] at c3p
    refine Gs ?_
    refine Gm rfl (Ga rfl ?_)
    refine Gn (.t1 4) ?_
    refine G_ret ?_
    refine GQ_then_ret ?_
    refine GQ_block_ret ?_
    refine GQ_then_ret ?_
    refine GQ_then_ret ?_
    refine GQ_block_ret ?_
    refine GQ_then_ret ?_
    refine GQ_ret rfl (.tmp rfl .nil) ?_
    intro w1 hS
    have hS := (hS.perm (Pulls.perm (.cons .head (.cons .head .nil)))).headL
    have hs : T.someF (Words.noun u).2.1 6 (Words.noun u).1 = some k := by rw [(hI13 hok).1, Turn.someF_step hI11 (by omega), if_f hcc, if_t (show decide (n - 1 = 0) = true from decide_eq_true (by omega))]
    have hq : T.somebody u = _ := Turn.some_yes hok hs
    have hN := Turn.someN_of hq
    refine ⟨_, ⟨?gq1, ?hv1, ?hl1, ?hB1⟩, hS⟩
    case hB1 => rw [hq]; (try rfl)
    case hv1 => rw [hN]; (try rfl)
    case hl1 => rw [hq]; assumption
   ·
    have c3p := c3; try simp only [kk] at c3p
    refine G_skip ?_
    refine GQ_sub (.t6 0 5 6 7 8 17) ?_
    refine GQ_then ?_
    refine G_region ?_
    refine Gm rfl ?_
    refine Gt (PS_sub rfl rfl (IntWalk.i64_in _ (by first | omega | exact hb.1 | exact hb.2 | (dsimp only; omega)))) ?_
    refine Ga rfl ?_
    refine GL_nil (GQ_sub (.t6 0 5 6 7 8 17) ?_)
    refine GQ_block ?_
    refine GQ_then ?_
    refine G_region ?_
    refine Gt (PS_add rfl rfl (IntWalk.i64_in _ (by first | omega | exact hb.1 | exact hb.2 | (dsimp only; omega)))) ?_
    refine Gm rfl ?_
    refine GL_nil (GQ_sub (.t6 0 5 6 7 8 17) ?_)
    refine GQ_next2_ (k + 1) (n - 1) ?_ ?_ (.t6 5 17 0 6 7 8) (.refl _)
    · exact ⟨by omega, by omega, fun _ => ⟨by rw [hnr.1, Turn.someF_step hI11 (by omega), if_f hcc, if_f (show decide (n - 1 = 0) = false from decide_eq_false (by omega))], by omega, by omega⟩⟩
    · omega
 ·
  have c1p := c1; try simp only [kk] at c1p
  obtain rfl : k = 6 := by omega
  refine G_exit ?_
  refine GQ_then_exit ?_
  refine GQ_then_exit ?_
  refine GQ_block_exit ?_
  refine GQ_sub (.t1 0) ?_
  refine GQ_then ?_
  refine Gs ?_
  refine Gm rfl ?_
  refine GL_callL rfl cf39 (.cons rfl (.cons rfl .nil)) (.cons .head (.cons .head .nil)) (ref_turn_tell_spec _ _ _ _ hg hb (by omega)) (fun v1 B hv => ?_)
  obtain ⟨y2, rfl, y3, rfl⟩ := hv
  refine Gn (.nil _) ?_
  refine Gs ?_
  refine Ga rfl ?_
  refine GL_nil ?_
  refine GQ_then ?_
  refine G_ret ?_
  refine GQ_ret rfl (.tmp rfl .nil) ?_
  intro w1 hS
  have hS := (hS.perm (Pulls.perm (.cons .head (.cons .head .nil)))).headL
  have hq : T.somebody u = (T.tell Turn.noBody, 0, false) := by
    cases hok : Turn.okN u with
    | false => exact Turn.some_no hok
    | true => exact Turn.some_none hok (by rw [(hI13 hok).1]; rfl)
  have hN := Turn.someN_of hq
  refine ⟨_, ⟨?gq2, ?hv2, ?hl2, ?hB2⟩, hS⟩
  case hB2 => rw [hq]; (try rfl)
  case hv2 => rw [hN]; (try rfl)
  case hl2 => rw [hq]; assumption
theorem ref_IsInside_spec (X : Land) (i box : Int) (w : World) : Ret Tryz.prog 70 #[.agg X.enc.toArray, .int .i64 i, .int .i64 box] w fun v w' => v = .bool (X.isIn i box) ∧ Keep w w' := by
 refine Ret_body [] [] Tryz.func70 rfl rfl rfl (St.start w []) ?_
 refine Gs ?_
 refine GL_box rfl rfl rfl (fun b1 => ?_)
 refine Ga rfl ?_
 refine Gn (.t3 1 2 3) ?_
 refine Gs ?_
 refine GL_makeMap rfl (fun b2 => ?_)
 refine Ga rfl ?_
 refine Gn (.t4 1 2 3 7) ?_
 refine G_seq ?_
 refine G_block ?_
 refine G_subF (.t4 1 2 3 7) ?_
 refine G_loop2_ (fun (j : Int) (s : List Int) => X.isIn i box = Land.inside X box (10 - s.length) j ∧ X.SeenI s j ∧ box ∉ s) (fun (j : Int) (s : List Int) => leftN s) (fun (j : Int) (s : List Int) => [(1, .int .i64 j)]) (fun (j : Int) (s : List Int) => [Res.imap b2 (kvOf s)]) (i) ([]) ?_ rfl rfl (fun j s hI1 => ?_)
 · exact ⟨rfl, Land.SeenI.start X i, by simp⟩
 obtain ⟨hI11, hI12, hI13⟩ := hI1
 refine Gss ?_
 refine Gm rfl (Gm rfl ?_)
 refine Gt (PS_conv (PS_lookup1 Tryz.underlying95 Tryz.underlying3 zv4 rfl rfl (.head _)) (seen_eq _ _)) ?_
 refine Gt (PS_not rfl) ?_
 refine Gn (.t5 1 2 3 7 12) ?_
 refine Gc (fun c1 => ?_) (fun c1 => ?_)
 ·
  have c1p := c1; try simp only [kk] at c1p
  have hns : j ∉ s := by simpa using c1
  refine G_skip ?_
  refine GQ_sub (.t4 1 2 3 7) ?_
  refine GQ_then ?_
  refine G_block ?_
  refine Gss ?_
  refine Gm rfl (Gm rfl ?_)
  refine Gt (PS_eql rfl rfl) ?_
  refine Gn (.t5 1 2 3 7 15) ?_
  refine Gc (fun c2 => ?_) (fun c2 => ?_)
  ·
   have c2p := c2; try simp only [kk] at c2p
   refine Gs ?_
   refine Ga rfl ?_
   refine Gn (.t1 6) ?_
   refine G_ret ?_
   refine GQ_then_ret ?_
   refine GQ_block_ret ?_
   refine GQ_then_ret ?_
   refine GQ_block_ret ?_
   refine GQ_then_ret ?_
   refine GQ_ret rfl (.tmp rfl .nil) ?_
   intro w1 hS; refine ⟨congrArg Value.bool ?_, hS.toKeep⟩; rw [hI11, hI12.inside1 c2]
  ·
   have c2p := c2; try simp only [kk] at c2p
   refine G_skip ?_
   refine GQ_sub (.t4 1 2 3 7) ?_
   refine GQ_then ?_
   refine Gs ?_
   refine Gm rfl (Gm rfl ?_)
   refine GL_unit (PU_mapSet Tryz.underlying95 Tryz.underlying3 rfl rfl rfl (seen_none hns) .head).1 ?_
   refine Gn (.t4 1 2 3 7) ?_
   refine Gss ?_
   refine Gm rfl ?_
   refine Gt (PS_lss rfl rfl) ?_
   refine Gm rfl ?_
   refine GL_gf (t := 20) rfl rfl rfl (fun q => PS_move rfl) ?_
   refine GL_gf (t := 20) rfl rfl rfl (fun q => PS_gtr (cF rfl q) rfl) ?_
   refine Gt (PS_or rfl rfl (fun h => by rw [h]; rfl)) ?_
   refine Gm rfl ?_
   refine GL_gf (t := 24) rfl rfl rfl (fun q => PS_move rfl) ?_
   refine GL_gf (t := 24) rfl rfl rfl (fun q => PSf fa34_1 rfl) ?_
   refine GL_gf (t := 24) rfl rfl rfl (fun q => by have q1 := q; (try simp at q1); exact PS_indexAddr ia29 (cF rfl q) (cF rfl q) (by omega) (by omega)) ?_
   refine GL_gf (t := 24) rfl rfl rfl (fun q => PSf fa28_2 (cF rfl q)) ?_
   refine GL_gf (t := 24) rfl rfl rfl (fun q => by have q1 := q; (try simp at q1); exact PS_load (cF rfl q) tys3 (.tail _ (.head _)) ((Land.l1.comp (Lens.ar (n := 9) Thing.fl (by omega))).comp Thing.l2) rfl rfl) ?_
   refine GL_gf (t := 24) rfl rfl rfl (fun q => PS_neq (cF rfl q) rfl) ?_
   refine Gt (PS_or rfl rfl (fun h => by rw [h]; rfl)) ?_
   refine Gn (.t5 1 2 3 7 31) ?_
   refine Gc (fun c3 => ?_) (fun c3 => ?_)
   ·
    have c3p := c3; try simp only [kk] at c3p
    refine Gs ?_
    refine Ga rfl ?_
    refine Gn (.t1 6) ?_
    refine G_ret ?_
    refine GQ_then_ret ?_
    refine GQ_block_ret ?_
    refine GQ_then_ret ?_
    refine GQ_block_ret ?_
    refine GQ_then_ret ?_
    refine GQ_ret rfl (.tmp rfl .nil) ?_
    intro w1 hS; refine ⟨congrArg Value.bool ?_, hS.toKeep⟩; rw [hI11, hI12.inside2 c2 c3]
   ·
    have c3p := c3; try simp only [kk] at c3p
    have hjr : 0 ≤ j ∧ j < 9 ∧ (X.things.at j).whr = 2 := by simp at c3; omega
    have hse := hI12.next hjr.1 hjr.2.1 hns hjr.2.2
    refine G_skip ?_
    refine GQ_sub (.t4 1 2 3 7) ?_
    refine GQ_then ?_
    refine G_region ?_
    refine Gm rfl (Gt (PSf fa34_1 rfl) ?_)
    refine Gt (PS_indexAddr ia29 rfl rfl (by omega) (by omega)) ?_
    refine Gt (PSf fa28_3 rfl) ?_
    refine Gt (PS_load rfl tys3 (.tail _ (.head _)) ((Land.l1.comp (Lens.ar (n := 9) Thing.fl (by omega))).comp Thing.l3) rfl rfl) ?_
    refine Ga rfl ?_
    refine GL_nil (GQ_sub (.t4 1 2 3 7) ?_)
    refine GQ_block ?_
    refine GQ_next2_ _ (s ++ [j]) ?_ ?_ (.t4 1 2 3 7) (by rw [kvOf_snoc]; exact (.refl _))
    · exact ⟨by rw [hI11, Land.SeenI.inside3 hse c2 c3], hse, by have hbx := of_decide_eq_false c2; simp [hI13]; exact fun e => hbx e.symm⟩
    · have := leftN_snoc hns hjr.1 hjr.2.1; omega
 ·
  have c1p := c1; try simp only [kk] at c1p
  have his : j ∈ s := by simpa using c1
  refine G_exit ?_
  refine GQ_then_exit ?_
  refine GQ_then_exit ?_
  refine GQ_block_exit ?_
  refine GQ_sub (.nil _) ?_
  refine GQ_then ?_
  refine Gs ?_
  refine Ga rfl ?_
  refine GL_nil ?_
  refine GQ_then ?_
  refine G_ret ?_
  refine GQ_ret rfl (.tmp rfl .nil) ?_
  intro w1 hS; refine ⟨congrArg Value.bool ?_, hS.toKeep⟩; rw [hI11, hI12.inside4 his hI13]
theorem ref_turn_part_spec (b : Nat) (T : Turn) (g : Hd) (o : Order) (hg : g.len = T.out.length) (hF : T.Fit) (hv : o.verb = 8 ∨ o.verb = 9 ∨ o.verb = 10) (hu : o.second.length ≤ 5000000) (hn : T.out.length ≤ 90000) (hz : -9223372036854775808 ≤ o.nth ∧ o.nth ≤ 9223372036854775807) : CtrR Tryz.prog 37 #[.pointer (some ⟨b, 0, none⟩), .agg o.enc.toArray] [Res.box b 57 (TurnV.enc ⟨T.w, T.b, g⟩), Res.own g 60 16 (T.out.flatMap Ing.Event.enc)] (fun w => (GVE 3 w ∧ 3 ∉ feet [Res.box b 57 (TurnV.enc ⟨T.w, T.b, g⟩), Res.own g 60 16 (T.out.flatMap Ing.Event.enc)]) ∧ (GVE 4 w ∧ 4 ∉ feet [Res.box b 57 (TurnV.enc ⟨T.w, T.b, g⟩), Res.own g 60 16 (T.out.flatMap Ing.Event.enc)])) (fun v B => ∃ g' : Hd, v = .tuple #[] ∧ g'.len = (T.letGo o).out.length ∧ B = [Res.box b 57 (TurnV.enc ⟨(T.letGo o).w, (T.letGo o).b, g'⟩), Res.own g' 60 16 ((T.letGo o).out.flatMap Ing.Event.enc)]) := by
 intro w hS0 hH
 obtain ⟨⟨gl0, gm0⟩, ⟨gl1, gm1⟩⟩ := hH
 have hb := hF.b
 have hr := hF.room
 refine Ret_body _ _ Tryz.func37 rfl rfl rfl (hS0) ?_
 refine Gs ?_
 refine GL_box rfl rfl rfl (fun b1 => ?_)
 refine Gn (.t2 0 3) ?_
 refine Gs ?_
 refine Ga rfl ?_
 refine GL_nil ?_
 refine GQ_then ?_
 refine G_pull (.tail (.tail .head)) ?_
 refine G_pull (.tail (.tail .head)) ?_
 refine G_cut3_ (Lm := [_, _]) (fun (X : Turn) (to : Int) (h : Hd) => (o.verb = 9 → X = (T.box o.second).1 ∧ to = T.boxN o.second) ∧ (o.verb ≠ 9 → X = T ∧ to = 0) ∧ h.len = X.out.length) (fun (X : Turn) (to : Int) (h : Hd) => [(4, .int .i64 to)]) (fun (X : Turn) (to : Int) (h : Hd) => [Res.box b 57 (TurnV.enc ⟨X.w, X.b, h⟩), Res.own h 60 16 (X.out.flatMap Ing.Event.enc)]) (.t2 0 3) rfl ?_ (fun X to h hC => ?_)
 ·
  refine Gs ?_
  refine Gt (PSf fa47_0 rfl) ?_
  refine Gt (PS_load rfl tys3 (.tail _ (.tail _ (.head _))) Order.l0 rfl rfl) ?_
  refine Gt (PS_eql rfl rfl) ?_
  refine Gn (.t4 0 3 4 11) ?_
  refine Gc (fun c1 => ?_) (fun c1 => ?_)
  ·
   have c1p := c1; try simp only [kk] at c1p
   refine G_region ?_
   refine Gm rfl (Gt (PSf fa47_4 rfl) ?_)
   refine Gt (PS_load rfl tys9 (.tail _ (.tail _ (.head _))) Order.l4 rfl rfl) ?_
   refine GL_callL rfl cf67 (.cons rfl (.cons rfl .nil)) (.cons .head (.cons .head .nil)) (ref_turn_boxOf_spec _ T _ _ hg hF hu (by omega)) (fun v1 B hv => ?_)
   obtain ⟨y2, rfl, y3, rfl⟩ := hv
   refine Ga rfl ?_
   refine GL_nil (GQ_sub (.t3 0 3 4) ?_)
   refine GQ_at3_ _ _ _ ?_ (.t3 4 0 3) (.refl _)
   · exact ⟨fun _ => ⟨rfl, rfl⟩, fun hn9 => absurd (of_decide_eq_true c1) hn9, by assumption⟩
  ·
   have c1p := c1; try simp only [kk] at c1p
   refine G_skip ?_
   refine GQ_sub (.t3 0 3 4) ?_
   refine GQ_at3_ _ _ _ ?_ (.t3 4 0 3) (.refl _)
   · exact ⟨fun h9 => absurd h9 (of_decide_eq_false c1), fun _ => ⟨rfl, rfl⟩, hg⟩
 ·
  obtain ⟨hA1, hA2, hA3⟩ := hC
  refine G_pull (.tail .head) ?_
  refine G_pull (.tail .head) ?_
  refine G_cut3_ (Lm := [_, _]) (fun (Y : Turn) (n : Int) (j : Hd) => Y = (T.letTo o).1 ∧ n = T.letN o ∧ j.len = Y.out.length) (fun (Y : Turn) (n : Int) (j : Hd) => [(4, .int .i64 n)]) (fun (Y : Turn) (n : Int) (j : Hd) => [Res.box b 57 (TurnV.enc ⟨Y.w, Y.b, j⟩), Res.own j 60 16 (Y.out.flatMap Ing.Event.enc)]) (.t2 0 3) rfl ?_ (fun Y n j hC => ?_)
  ·
   refine Gs ?_
   refine Gt (PSf fa47_0 rfl) ?_
   refine Gt (PS_load rfl tys3 (.tail _ (.tail _ (.head _))) Order.l0 rfl rfl) ?_
   refine Gt (PS_eql rfl rfl) ?_
   refine Gn (.t4 0 3 4 18) ?_
   refine Gc (fun c2 => ?_) (fun c2 => ?_)
   ·
    have c2p := c2; try simp only [kk] at c2p
    have h9 : o.verb ≠ 9 := by omega
    obtain ⟨e1, e2⟩ := hA2 h9
    refine G_region ?_
    refine Gm rfl (Gt (PSf fa47_4 rfl) ?_)
    refine Gt (PS_load rfl tys9 (.tail _ (.tail _ (.head _))) Order.l4 rfl rfl) ?_
    refine GL_callL rfl cf38 (.cons rfl (.cons rfl .nil)) (.cons .head (.cons .head .nil)) (ref_turn_personOf_spec _ X _ _ hA3 (by rw [e1]; exact hF) hu (by rw [e1]; omega)) (fun v4 B hv => ?_)
    obtain ⟨y5, rfl, y6, rfl⟩ := hv
    refine Ga rfl ?_
    refine GL_nil (GQ_sub (.t3 0 3 4) ?_)
    refine GQ_at3_ _ _ _ ?_ (.t3 4 0 3) (.refl _)
    · have h9 : decide (o.verb = 9) = false := decide_eq_false (by omega)
      have q := Turn.letTo_10 (T := T) h9 c2
      exact ⟨by rw [e1]; exact q.1.symm, by rw [e1]; exact q.2.symm, by assumption⟩
   ·
    have c2p := c2; try simp only [kk] at c2p
    refine G_skip ?_
    refine GQ_sub (.t3 0 3 4) ?_
    refine GQ_at3_ _ _ _ ?_ (.t3 4 0 3) (.refl _)
    · by_cases h9 : o.verb = 9
      · obtain ⟨e1, e2⟩ := hA1 h9
        have q := Turn.letTo_9 (T := T) (decide_eq_true h9)
        exact ⟨e1.trans q.1.symm, e2.trans q.2.symm, hA3⟩
      · obtain ⟨e1, e2⟩ := hA2 h9
        have q := Turn.letTo_8 (T := T) (decide_eq_false h9) c2
        exact ⟨e1.trans q.1.symm, e2.trans q.2.symm, hA3⟩
  ·
   obtain ⟨hD1, hD2, hD3⟩ := hC
   have hYw := T.letTo_w o
   have hYo : Y.out.length ≤ T.out.length + 1 := by rw [hD1]; exact T.letTo_out o
   rw [← hD1] at hYw
   have hYF : Y.Fit := hF.of_w hYw.1 hYw.2
   have hPl : ((Turn.pickL Y.w Y.own o.nth o.name o.all_)).length ≤ 9 := Turn.letP_mem.2.2
   refine Gss ?_
   refine Gm rfl ?_
   refine Gt (PS_lss rfl rfl) ?_
   refine Gn (.t4 0 3 4 24) ?_
   refine Gc (fun c3 => ?_) (fun c3 => ?_)
   ·
    have c3p := c3; try simp only [kk] at c3p
    refine G_ret ?_
    refine GQ_then_ret ?_
    refine GQ_ret rfl .nil ?_
    intro w1 hS
    have hS := (hS.perm (Pulls.perm (.cons .head (.cons .head .nil)))).headL
    have hq : T.letGo o = Y := Turn.letGo_no hD1 hD2 c3
    refine ⟨_, ⟨?gq1, rfl, ?hl1, ?hB1⟩, hS⟩
    case hB1 => rw [hq]; (try rfl)
    case hl1 => rw [hq]; exact hD3
   ·
    have c3p := c3; try simp only [kk] at c3p
    obtain ⟨hgo, hn0, hn9, hok⟩ := Turn.letGo_yes hD1 hD2 c3
    refine G_skip ?_
    refine GQ_sub (.t3 0 3 4) ?_
    refine GQ_then ?_
    refine G_seq ?_
    refine G_planN (N := 11) [0, 0, 2, 0, 8, 0, 32, 0, 128, 511, 1023] mix (by kernel_rfl) rfl ?_
    refine Pf 0 rfl (PS_move rfl) (Pf 1 rfl (PS_move rfl) (Pf 3 rfl (PSf fa47_1 rfl) ?_))
    refine Pf 4 rfl (PS_load rfl tys3 (.tail _ (.tail _ (.head _))) Order.l1 rfl rfl) ?_
    refine Pf 5 rfl (PSf fa47_3 rfl) ?_
    refine Pf 6 rfl (PS_load rfl tys9 (.tail _ (.tail _ (.head _))) Order.l3 rfl rfl) ?_
    refine Pf 7 rfl (PSf fa47_2 rfl) ?_
    refine Pf 8 rfl (PS_load rfl tys4 (.tail _ (.tail _ (.head _))) Order.l2 rfl rfl) ?_
    refine Plan_chain 2 rfl (by kernel_rfl) ?_
    refine GL_callL rfl cf41 (.cons rfl .nil) (.cons .head .nil) (ref_turn_mine_spec _ Y _ hYF) (fun v7 B hv => ?_)
    obtain ⟨y8, rfl, y9, rfl⟩ := hv
    refine GL_hand rfl ⟨?_, ?_⟩
    · exact (Po rfl (PS_load rfl tys4 (.tail _ (.tail _ (.tail _ (.head _)))) Order.l2 rfl rfl) rfl rfl (Po rfl (PSf fa47_2 rfl) rfl rfl (Po rfl (PS_load rfl tys9 (.tail _ (.tail _ (.tail _ (.head _)))) Order.l3 rfl rfl) rfl rfl (Po rfl (PSf fa47_3 rfl) rfl rfl (Po rfl (PS_load rfl tys3 (.tail _ (.tail _ (.tail _ (.head _)))) Order.l1 rfl rfl) rfl rfl (Po rfl (PSf fa47_1 rfl) rfl rfl (Pk (Po rfl (PS_move rfl) rfl rfl Pend_nil))))))))
    refine Plan_chain 9 rfl (by kernel_rfl) ?_
    refine GL_callL rfl cf69 (.cons rfl (.cons rfl (.cons rfl (.cons rfl (.cons rfl .nil))))) (.cons .head (.cons .head .nil)) (ref_turn_these_spec _ Y _ _ Y.own _ _ _ hYF (by assumption) (Nat.le_trans Y.own_len (by decide)) (fun i hi => Turn.own_rng hi) hz) (fun v11 B hv => ?_)
    obtain ⟨y12, rfl, y13, rfl⟩ := hv
    refine GL_hand rfl ⟨?_, ?_⟩
    · exact (Pk (Pk (Pk (Pk (Pk (Pk (Pk (Pk Pend_nil))))))))
    refine Pf 10 rfl (PS_assign rfl) ?_
    refine Plan_end (by kernel_rfl) ?_
    refine GQ_sub (.t4 0 3 4 5) ?_
    refine GQ_then ?_
    refine G_pull (.tail (.tail (.tail .head))) ?_
    refine G_pull (.tail .head) ?_
    refine G_cut2_ (Lm := [_, _]) (fun (Z : Turn) (m : Hd) => Z = Y.letS o ∧ m.len = Z.out.length) (fun (Z : Turn) (m : Hd) => []) (fun (Z : Turn) (m : Hd) => [Res.box b 57 (TurnV.enc ⟨Z.w, Z.b, m⟩), Res.own m 60 16 (Z.out.flatMap Ing.Event.enc)]) (.t4 0 3 4 5) rfl ?_ (fun Z m hC => ?_)
    ·
     refine Gs ?_
     refine Gm rfl ?_
     refine Gt (PS_len_slice rfl Tryz.underlying66 rfl) ?_
     refine Gt (PS_eql rfl rfl) ?_
     refine Gn (.t5 0 3 4 5 37) ?_
     refine Gc (fun c4 => ?_) (fun c4 => ?_)
     ·
      have c4p := c4; try simp only [kk] at c4p
      rw [y13] at c4
      refine G_region ?_
      refine Gm rfl ?_
      refine GL_callL rfl cf39 (.cons rfl (.cons rfl .nil)) (.cons .head (.cons .head .nil)) (ref_turn_tell_spec _ Y _ _ (by assumption) (by rw [hYw.2]; exact hb) (by omega)) (fun v15 B hv => ?_)
      obtain ⟨y16, rfl, y17, rfl⟩ := hv
      refine GL_nil (GQ_sub (.t4 0 3 4 5) ?_)
      refine GQ_at2_ _ _ ?_ (.t4 0 3 4 5) (.refl _)
      · exact ⟨(Turn.letS_t (T := Y) (o := o) c4).symm, by assumption⟩
     ·
      have c4p := c4; try simp only [kk] at c4p
      rw [y13] at c4
      refine G_skip ?_
      refine GQ_sub (.t4 0 3 4 5) ?_
      refine GQ_at2_ _ _ ?_ (.t4 0 3 4 5) (.refl _)
      · exact ⟨(Turn.letS_f (T := Y) (o := o) c4).symm, by exact hD3⟩
    ·
     obtain ⟨hE1, hE2⟩ := hC
     refine Gs ?_
     refine Gm rfl ?_
     refine Gt (PS_len_slice rfl Tryz.underlying66 rfl) ?_
     refine Gm rfl ?_
     refine Gn (.t6 0 3 4 40 41 42) ?_
     refine G_block ?_
     refine G_subF (.t6 42 0 3 4 40 41) ?_
     refine G_pull (.tail .head) ?_
     refine G_pull (.tail .head) ?_
     refine G_loop3_ (fun (k : Int) (V : Turn) (f : Hd) => 0 ≤ k ∧ V = Y.letK n o k.toNat ∧ k ≤ ((Turn.pickL Y.w Y.own o.nth o.name o.all_).length : Int) ∧ f.len = V.out.length) (fun (k : Int) (V : Turn) (f : Hd) => (((Turn.pickL Y.w Y.own o.nth o.name o.all_).length : Int) - k).toNat) (fun (k : Int) (V : Turn) (f : Hd) => [(42, .int .i64 k)]) (fun (k : Int) (V : Turn) (f : Hd) => [Res.box b 57 (TurnV.enc ⟨V.w, V.b, f⟩), Res.own f 60 16 (V.out.flatMap Ing.Event.enc)]) (0) (_) (_) ?_ rfl rfl (fun k V f hI1 => ?_)
     · exact ⟨by omega, hE1, by omega, hE2⟩
     obtain ⟨hI11, hI12, hI13, hI14⟩ := hI1
     refine Gs ?_
     refine Gt (PS_lss rfl rfl) ?_
     refine GL_nil ?_
     refine GQ_then ?_
     refine G_seq ?_
     refine Gc (fun c5 => ?_) (fun c5 => ?_)
     ·
      have c5p := c5; try simp only [kk] at c5p
      have hx : 0 ≤ ((Turn.pickL Y.w Y.own o.nth o.name o.all_).getD k.toNat 0) ∧ ((Turn.pickL Y.w Y.own o.nth o.name o.all_).getD k.toNat 0) < 9 := Turn.own_rng (Turn.pickL_mem (Line.getD_memI (xs := (Turn.pickL Y.w Y.own o.nth o.name o.all_)) (i := k.toNat) (by omega)))
      have hVK := Turn.letK_out Y n o k.toNat
      rw [← hI12] at hVK
      have hVb := hVK.2
      have hVo := hVK.1
      have hbV : 0 ≤ V.b ∧ V.b < 6 := by rw [hVb, hYw.2]; exact hb
      have hVF : V.Fit := by rw [hI12]; exact Turn.letK_fit hYF (hok hv) _
      refine G_skip ?_
      refine GQ_sub (.t6 0 3 4 40 41 42) ?_
      refine GQ_then ?_
      refine G_seq ?_
      refine G_block ?_
      refine Gs ?_
      refine Gt (PS_idxS is66 (by decide) (Kn.own (.tail _ (.tail _ (.tail _ (.head _))))) rfl rfl (by omega) (by omega)) ?_
      refine Gt (PS_ldInt rfl tys3 (Kn.own (.tail _ (.tail _ (.tail _ (.head _))))) (by omega)) ?_
      refine Ga rfl ?_
      refine Gn (.t7 0 3 4 7 40 41 42) ?_
      refine Gs ?_
      refine Gm rfl (Gm rfl (Gt (PSn rfl) (Gt (PSf fa57_0 rfl) (Gt (PSf fa34_1 rfl) ?_))))
      refine Gt (PS_indexAddr ia29 rfl rfl (by first | omega | exact hbV.1 | exact hbV.2 | (dsimp only; omega)) (by first | omega | exact hbV.1 | exact hbV.2 | (dsimp only; omega))) ?_
      refine Gt (PS_loadA rfl tya28 (.head _) ((TurnV.l0.comp Land.l1).comp (Lens.ar (n := 9) Thing.fl (by first | omega | exact hbV | (dsimp only; omega)))) rfl) ?_
      refine GL_alloc rfl zv28 rfl (fun b2 => ?_)
      refine GL_unit (PU_store (Lens.id Thing.fl.len Thing.fl.one) rfl rfl rfl sz28 rfl .head) ?_
      refine Gn (.t8 0 3 4 7 8 40 41 42) ?_
      refine Gss ?_
      refine Gt (PSf fa28_1 rfl) ?_
      refine Gt (PS_load rfl tys3 (.head _) Thing.l1 rfl rfl) ?_
      refine Gt (PS_eql rfl rfl) ?_
      refine Gm rfl ?_
      refine GL_gt (t := 56) rfl rfl rfl (fun q => PSf fa28_4 rfl) ?_
      refine GL_gt (t := 56) rfl rfl rfl (fun q => PS_load (cvE rfl q) tys4 (.head _) Thing.l4 rfl rfl) ?_
      refine Gt (PS_and rfl rfl (fun h => h)) ?_
      refine Gn (.t9 0 3 4 7 8 40 41 42 59) ?_
      refine Gc (fun c6 => ?_) (fun c6 => ?_)
      ·
       have c6p := c6; try simp only [kk] at c6p
       refine Gs ?_
       refine Gm rfl ?_
       refine GL_callL rfl cf39 (.cons rfl (.cons rfl .nil)) (.cons (.tail .head) (.cons (.tail .head) .nil)) (ref_turn_tell_spec _ V _ _ (by assumption) hbV (by omega)) (fun v18 B hv => ?_)
       obtain ⟨y19, rfl, y20, rfl⟩ := hv
       refine Gn (.t6 0 3 4 40 41 42) ?_
       refine G_exit ?_
       refine GQ_then_exit ?_
       refine GQ_block_exit ?_
       refine GQ_then ?_
       refine G_region ?_
       refine Gt (PS_add rfl rfl (IntWalk.i64_in _ (by first | omega | exact hbV.1 | exact hbV.2 | (dsimp only; omega)))) ?_
       refine Gm rfl ?_
       refine GL_nil (GQ_sub (.t6 0 3 4 40 41 42) ?_)
       refine GQ_pulls (.cons .head (.cons .head (.cons (.tail .head) (.cons (.tail .head) (.cons (.tail .head) .nil))))) ?_
       refine GQ_dropr ?_
       refine GQ_next3_ (k + 1) _ _ ?_ ?_ (.t6 42 0 3 4 40 41) (.refl _)
       · have hq : V.letOne o.verb n ((Turn.pickL Y.w Y.own o.nth o.name o.all_).getD k.toNat 0) = _ := Turn.letOne_wear c6
         exact ⟨by omega, hq.symm.trans ((congrArg (fun q => Turn.letOne q o.verb n ((Turn.pickL Y.w Y.own o.nth o.name o.all_).getD k.toNat 0)) hI12).trans (Turn.letK_step hI11 (by show k < (((Turn.pickL Y.w Y.own o.nth o.name o.all_)).length : Int); omega)).symm), by omega, by assumption⟩
       · omega
      ·
       have c6p := c6; try simp only [kk] at c6p
       refine G_skip ?_
       refine GQ_sub (.t8 0 3 4 7 8 40 41 42) ?_
       refine GQ_then ?_
       refine Gss ?_
       refine Gt (PSf fa47_0 rfl) ?_
       refine Gt (PS_load rfl tys3 (.tail _ (.tail _ (.tail _ (.tail _ (.tail _ (.head _)))))) Order.l0 rfl rfl) ?_
       refine Gt (PS_eql rfl rfl) ?_
       refine Gm rfl ?_
       refine GL_gt (t := 65) rfl rfl rfl (fun q => PS_move rfl) ?_
       refine GL_gt (t := 65) rfl rfl rfl (fun q => PSn (cvE rfl q)) ?_
       refine GL_gt (t := 65) rfl rfl rfl (fun q => PSf fa57_0 (cvE rfl q)) ?_
       refine GL_gt (t := 65) rfl rfl rfl (fun q => PS_loadA (cvE rfl q) tya34 (.tail _ (.head _)) TurnV.l0 rfl) ?_
       refine GL_gt (t := 65) rfl rfl rfl (fun q => PS_move rfl) ?_
       refine GL_gt (t := 65) rfl rfl rfl (fun q => PS_move rfl) ?_
       refine GL_pgt (t := 65) rfl rfl rfl (fun q => PC_of cf70 (.cons (cvE rfl q) (.cons (cvE rfl q) (.cons (cvE rfl q) .nil))) (fun w hS => ref_IsInside_spec _ _ _ w)) ?_
       refine Gt (PS_and rfl rfl (fun h => h)) ?_
       refine Gn (.t9 0 3 4 7 8 40 41 42 73) ?_
       refine Gc (fun c7 => ?_) (fun c7 => ?_)
       ·
        have c7p := c7; try simp only [kk] at c7p
        refine Gs ?_
        refine Gm rfl ?_
        refine GL_callL rfl cf39 (.cons rfl (.cons rfl .nil)) (.cons (.tail .head) (.cons (.tail .head) .nil)) (ref_turn_tell_spec _ V _ _ (by assumption) hbV (by omega)) (fun v21 B hv => ?_)
        obtain ⟨y22, rfl, y23, rfl⟩ := hv
        refine Gn (.t6 0 3 4 40 41 42) ?_
        refine G_exit ?_
        refine GQ_then_exit ?_
        refine GQ_block_exit ?_
        refine GQ_then ?_
        refine G_region ?_
        refine Gt (PS_add rfl rfl (IntWalk.i64_in _ (by first | omega | exact hbV.1 | exact hbV.2 | (dsimp only; omega)))) ?_
        refine Gm rfl ?_
        refine GL_nil (GQ_sub (.t6 0 3 4 40 41 42) ?_)
        refine GQ_pulls (.cons .head (.cons .head (.cons (.tail .head) (.cons (.tail .head) (.cons (.tail .head) .nil))))) ?_
        refine GQ_dropr ?_
        refine GQ_next3_ (k + 1) _ _ ?_ ?_ (.t6 42 0 3 4 40 41) (.refl _)
        · have hq : V.letOne o.verb n ((Turn.pickL Y.w Y.own o.nth o.name o.all_).getD k.toNat 0) = _ := Turn.letOne_notBe c6 c7
          exact ⟨by omega, hq.symm.trans ((congrArg (fun q => Turn.letOne q o.verb n ((Turn.pickL Y.w Y.own o.nth o.name o.all_).getD k.toNat 0)) hI12).trans (Turn.letK_step hI11 (by show k < (((Turn.pickL Y.w Y.own o.nth o.name o.all_)).length : Int); omega)).symm), by omega, by assumption⟩
        · omega
       ·
        have c7p := c7; try simp only [kk] at c7p
        refine G_skip ?_
        refine GQ_sub (.t8 0 3 4 7 8 40 41 42) ?_
        refine GQ_then ?_
        refine Gs ?_
        refine Gt (PSf fa47_0 rfl) ?_
        refine Gt (PS_load rfl tys3 (.tail _ (.tail _ (.tail _ (.tail _ (.tail _ (.head _)))))) Order.l0 rfl rfl) ?_
        refine Gn (.t9 0 3 4 7 8 40 41 42 77) ?_
        refine G_block ?_
        refine Gs ?_
        refine Gt (PS_eql rfl rfl) ?_
        refine Ga rfl ?_
        refine Gn (.t10 0 3 4 7 8 40 41 42 77 78) ?_
        refine Gc (fun c8 => ?_) (fun c8 => ?_)
        ·
         have c8p := c8; try simp only [kk] at c8p
         refine G_seq ?_
         refine G_planN (N := 18) [0, 0, 0, 0, 0, 16, 1, 65, 193, 499, 1011, 2035, 4, 4100, 12292, 32767, 65535, 131071] mix (by kernel_rfl) rfl ?_
         refine Pf 0 rfl (PS_move rfl) (Pf 1 rfl (PS_move rfl) (Pf 2 rfl (PS_move rfl) (Pf 3 rfl (PS_move rfl) (Pf 4 rfl (PS_move rfl) (Pf 6 rfl (PSn rfl) ?_)))))
         refine Pf 7 rfl (PSf fa57_0 rfl) (Pf 8 rfl (PSf fa34_1 rfl) (Pf 12 rfl (PSn rfl) (Pf 13 rfl (PSf fa57_0 rfl) (Pf 14 rfl (PSf fa34_1 rfl) ?_))))
         refine Plan_chain 5 rfl (by kernel_rfl) ?_
         refine GL_callL rfl cf51 (.cons rfl .nil) (.cons (.tail .head) .nil) (ref_turn_here_spec _ V _ hVF) (fun v24 B hv => ?_)
         obtain ⟨rfl, rfl⟩ := hv
         refine GL_hand rfl ⟨?_, ?_⟩
         · exact (Po rfl (PSf fa34_1 rfl) rfl rfl (Po rfl (PSf fa57_0 rfl) rfl rfl (Po rfl (PSn rfl) rfl rfl (Po rfl (PSf fa34_1 rfl) rfl rfl (Po rfl (PSf fa57_0 rfl) rfl rfl (Po rfl (PSn rfl) rfl rfl (Pk (Po rfl (PS_move rfl) rfl rfl (Po rfl (PS_move rfl) rfl rfl (Po rfl (PS_move rfl) rfl rfl (Po rfl (PS_move rfl) rfl rfl Pend_nil)))))))))))
         refine Pf 9 rfl (PS_indexAddr ia29 rfl rfl (by first | omega | exact hbV.1 | exact hbV.2 | (dsimp only; omega)) (by first | omega | exact hbV.1 | exact hbV.2 | (dsimp only; omega))) ?_
         refine Pf 10 rfl (PSf fa28_2 rfl) ?_
         refine Plan_chain 11 rfl (by kernel_rfl) ?_
         refine GL_unit (PU_store (((TurnV.l0.comp Land.l1).comp (Lens.ar (n := 9) Thing.fl (by first | omega | exact hbV | (dsimp only; omega)))).comp Thing.l2) rfl rfl rfl sz3 rfl .head) ?_
         refine GL_hand0 rfl ⟨?_, ?_⟩
         · exact (Pk (Pk (Po rfl (PSf fa34_1 rfl) rfl rfl (Po rfl (PSf fa57_0 rfl) rfl rfl (Po rfl (PSn rfl) rfl rfl (Pk (Pk (Pk (Pk (Po rfl (PS_move rfl) rfl rfl (Po rfl (PS_move rfl) rfl rfl (Pk (Pk Pend_nil)))))))))))))
         refine Pf 15 rfl (PS_indexAddr ia29 rfl rfl (by first | omega | exact hbV.1 | exact hbV.2 | (dsimp only; omega)) (by first | omega | exact hbV.1 | exact hbV.2 | (dsimp only; omega))) ?_
         refine Pf 16 rfl (PSf fa28_3 rfl) ?_
         refine Plan_chain 17 rfl (by kernel_rfl) ?_
         refine GL_unit (PU_store (((TurnV.l0.comp Land.l1).comp (Lens.ar (n := 9) Thing.fl (by first | omega | exact hbV | (dsimp only; omega)))).comp Thing.l3) rfl rfl rfl sz3 rfl .head) ?_
         refine GL_hand0 rfl ⟨?_, ?_⟩
         · exact (Pk (Pk (Pk (Pk (Pk (Pk (Pk (Pk (Pk (Pk (Pk (Pk (Pk (Pk (Pk Pend_nil)))))))))))))))
         refine Plan_end (by kernel_rfl) ?_
         refine GQ_sub (.t7 0 3 4 8 40 41 42) ?_
         refine GQ_then ?_
         refine G_swap (fun _ => .head) (congrArg (fun q => TurnV.enc ⟨q, _, _⟩) (Turn.place_eq V hx.1 hx.2 0 (V.w.beings.at V.b).room)) ?_
         refine G_region ?_
         refine Gm rfl (Gt (PSf fa28_0 rfl) ?_)
         refine Gt (PS_load rfl tys9 (.tail _ (.head _)) Thing.l0 rfl rfl) ?_
         refine GL_callL rfl cf20 (.cons rfl (.cons rfl (.cons rfl (.cons rfl (.cons rfl (.cons rfl (.cons rfl .nil))))))) (.cons .head (.cons (.tail .head) .nil)) (ref_turn_add_spec _ (V.place ((Turn.pickL Y.w Y.own o.nth o.name o.all_).getD k.toNat 0) 0 (V.w.beings.at V.b).room) _ 4 (-1) 0 0 (V.w.things.at ((Turn.pickL Y.w Y.own o.nth o.name o.all_).getD k.toNat 0)).name [] (by assumption) hbV (by omega) (show V.out.length ≤ 100000 by omega)) (fun v25 B hv => ?_)
         obtain ⟨y26, rfl, y27, rfl⟩ := hv
         refine GL_nil (GQ_sub (.t6 0 3 4 40 41 42) ?_)
         refine GQ_block ?_
         refine GQ_block ?_
         refine GQ_then ?_
         refine G_region ?_
         refine Gt (PS_add rfl rfl (IntWalk.i64_in _ (by first | omega | exact hbV.1 | exact hbV.2 | (dsimp only; omega)))) ?_
         refine Gm rfl ?_
         refine GL_nil (GQ_sub (.t6 0 3 4 40 41 42) ?_)
         refine GQ_pulls (.cons .head (.cons .head (.cons (.tail .head) (.cons (.tail .head) (.cons (.tail .head) .nil))))) ?_
         refine GQ_dropr ?_
         refine GQ_next3_ (k + 1) _ _ ?_ ?_ (.t6 42 0 3 4 40 41) (.refl _)
         · have hq : V.letOne o.verb n ((Turn.pickL Y.w Y.own o.nth o.name o.all_).getD k.toNat 0) = _ := Turn.letOne_8 hx c6 c8
           exact ⟨by omega, hq.symm.trans ((congrArg (fun q => Turn.letOne q o.verb n ((Turn.pickL Y.w Y.own o.nth o.name o.all_).getD k.toNat 0)) hI12).trans (Turn.letK_step hI11 (by show k < (((Turn.pickL Y.w Y.own o.nth o.name o.all_)).length : Int); omega)).symm), by omega, by assumption⟩
         · omega
        ·
         have c8p := c8; try simp only [kk] at c8p
         refine Gs ?_
         refine Gt (PS_eql rfl rfl) ?_
         refine Ga rfl ?_
         refine Gn (.t10 0 3 4 7 8 40 41 42 77 100) ?_
         refine Gc (fun c9 => ?_) (fun c9 => ?_)
         ·
          have c9p := c9; try simp only [kk] at c9p
          refine G_seq ?_
          refine G_planN (N := 17) [0, 0, 0, 0, 0, 1, 33, 97, 227, 483, 995, 4, 2052, 6148, 16383, 32767, 65535] mix (by kernel_rfl) rfl ?_
          refine Pf 0 rfl (PS_move rfl) (Pf 1 rfl (PS_move rfl) (Pf 2 rfl (PS_move rfl) (Pf 3 rfl (PS_move rfl) (Pf 4 rfl (PS_move rfl) (Pf 5 rfl (PSn rfl) ?_)))))
          refine Pf 6 rfl (PSf fa57_0 rfl) (Pf 7 rfl (PSf fa34_1 rfl) ?_)
          refine Pf 8 rfl (PS_indexAddr ia29 rfl rfl (by first | omega | exact hbV.1 | exact hbV.2 | (dsimp only; omega)) (by first | omega | exact hbV.1 | exact hbV.2 | (dsimp only; omega))) ?_
          refine Pf 9 rfl (PSf fa28_2 rfl) (Pf 11 rfl (PSn rfl) (Pf 12 rfl (PSf fa57_0 rfl) (Pf 13 rfl (PSf fa34_1 rfl) ?_)))
          refine Plan_chain 10 rfl (by kernel_rfl) ?_
          refine GL_unit (PU_store (((TurnV.l0.comp Land.l1).comp (Lens.ar (n := 9) Thing.fl (by first | omega | exact hbV | (dsimp only; omega)))).comp Thing.l2) rfl rfl rfl sz3 rfl (.tail .head)) ?_
          refine GL_hand0 rfl ⟨?_, ?_⟩
          · exact (Po rfl (PSf fa34_1 rfl) rfl rfl (Po rfl (PSf fa57_0 rfl) rfl rfl (Po rfl (PSn rfl) rfl rfl (Pk (Pk (Pk (Pk (Pk (Po rfl (PS_move rfl) rfl rfl (Po rfl (PS_move rfl) rfl rfl (Po rfl (PS_move rfl) rfl rfl (Pk (Pk Pend_nil)))))))))))))
          refine Pf 14 rfl (PS_indexAddr ia29 rfl rfl (by first | omega | exact hbV.1 | exact hbV.2 | (dsimp only; omega)) (by first | omega | exact hbV.1 | exact hbV.2 | (dsimp only; omega))) ?_
          refine Pf 15 rfl (PSf fa28_3 rfl) ?_
          refine Plan_chain 16 rfl (by kernel_rfl) ?_
          refine GL_unit (PU_store (((TurnV.l0.comp Land.l1).comp (Lens.ar (n := 9) Thing.fl (by first | omega | exact hbV | (dsimp only; omega)))).comp Thing.l3) rfl rfl rfl sz3 rfl (.tail .head)) ?_
          refine GL_hand0 rfl ⟨?_, ?_⟩
          · exact (Pk (Pk (Pk (Pk (Pk (Pk (Pk (Pk (Pk (Pk (Pk (Pk (Pk (Pk (Pk Pend_nil)))))))))))))))
          refine Plan_end (by kernel_rfl) ?_
          refine GQ_sub (.t7 0 3 4 8 40 41 42) ?_
          refine GQ_then ?_
          refine G_swap (fun _ => (.tail .head)) (congrArg (fun q => TurnV.enc ⟨q, _, _⟩) (Turn.place_eq V hx.1 hx.2 2 n)) ?_
          refine G_planN (N := 12) [0, 0, 2, 0, 0, 8, 40, 104, 248, 504, 1016, 2047] mix (by kernel_rfl) rfl ?_
          refine Pf 0 rfl (PS_move rfl) (Pf 1 rfl (PSf fa28_0 rfl) ?_)
          refine Pf 2 rfl (PS_load rfl tys9 (.head _) Thing.l0 rfl rfl) ?_
          refine Pf 3 rfl (PS_move rfl) (Pf 4 rfl (PS_move rfl) (Pf 5 rfl (PSn rfl) (Pf 6 rfl (PSf fa57_0 rfl) (Pf 7 rfl (PSf fa34_1 rfl) ?_))))
          refine Pf 8 rfl (PS_indexAddr ia29 rfl rfl (by first | omega | exact hbV.1 | exact hbV.2 | (dsimp only; omega)) (by first | omega | exact hbV.1 | exact hbV.2 | (dsimp only; omega))) ?_
          refine Pf 9 rfl (PSf fa28_0 rfl) ?_
          refine Pf 10 rfl (PS_load rfl tys9 (.tail _ (.head _)) (((TurnV.l0.comp Land.l1).comp (Lens.ar (n := 9) Thing.fl (by first | omega | exact hbV | (dsimp only; omega)))).comp Thing.l0) rfl rfl) ?_
          refine Plan_chain 11 rfl (by kernel_rfl) ?_
          refine GL_callL rfl cf20 (.cons rfl (.cons rfl (.cons rfl (.cons rfl (.cons rfl (.cons rfl (.cons rfl .nil))))))) (.cons (.tail .head) (.cons (.tail .head) .nil)) (ref_turn_add_spec _ (V.place ((Turn.pickL Y.w Y.own o.nth o.name o.all_).getD k.toNat 0) 2 n) _ 5 (-1) 0 0 (V.w.things.at ((Turn.pickL Y.w Y.own o.nth o.name o.all_).getD k.toNat 0)).name ((V.place ((Turn.pickL Y.w Y.own o.nth o.name o.all_).getD k.toNat 0) 2 n).w.things.at n).name (by assumption) hbV (by omega) (show V.out.length ≤ 100000 by omega)) (fun v28 B hv => ?_)
          obtain ⟨y29, rfl, y30, rfl⟩ := hv
          refine GL_hand rfl ⟨?_, ?_⟩
          · exact (Pk (Pk (Pk (Pk (Pk (Pk (Pk (Pk (Pk (Pk (Pk Pend_nil)))))))))))
          refine Plan_end (by kernel_rfl) ?_
          refine GQ_sub (.t6 0 3 4 40 41 42) ?_
          refine GQ_block ?_
          refine GQ_block ?_
          refine GQ_then ?_
          refine G_region ?_
          refine Gt (PS_add rfl rfl (IntWalk.i64_in _ (by first | omega | exact hbV.1 | exact hbV.2 | (dsimp only; omega)))) ?_
          refine Gm rfl ?_
          refine GL_nil (GQ_sub (.t6 0 3 4 40 41 42) ?_)
          refine GQ_pulls (.cons .head (.cons .head (.cons (.tail .head) (.cons (.tail .head) (.cons (.tail .head) .nil))))) ?_
          refine GQ_dropr ?_
          refine GQ_next3_ (k + 1) _ _ ?_ ?_ (.t6 42 0 3 4 40 41) (.refl _)
          · have hq : V.letOne o.verb n ((Turn.pickL Y.w Y.own o.nth o.name o.all_).getD k.toNat 0) = _ := Turn.letOne_9 hx hn0 c6 c7 c9
            exact ⟨by omega, hq.symm.trans ((congrArg (fun q => Turn.letOne q o.verb n ((Turn.pickL Y.w Y.own o.nth o.name o.all_).getD k.toNat 0)) hI12).trans (Turn.letK_step hI11 (by show k < (((Turn.pickL Y.w Y.own o.nth o.name o.all_)).length : Int); omega)).symm), by omega, by assumption⟩
          · omega
         ·
          have c9p := c9; try simp only [kk] at c9p
          refine Gs ?_
          refine Gt (PS_eql rfl rfl) ?_
          refine Ga rfl ?_
          refine Gn (.t9 0 3 4 7 8 40 41 42 129) ?_
          refine G_true rfl (decide_eq_true (by omega)) ?_
          refine G_seq ?_
          refine G_planN (N := 17) [0, 0, 0, 0, 0, 1, 33, 97, 227, 483, 995, 4, 2052, 6148, 16383, 32767, 65535] mix (by kernel_rfl) rfl ?_
          refine Pf 0 rfl (PS_move rfl) (Pf 1 rfl (PS_move rfl) (Pf 2 rfl (PS_move rfl) (Pf 3 rfl (PS_move rfl) (Pf 4 rfl (PS_move rfl) (Pf 5 rfl (PSn rfl) ?_)))))
          refine Pf 6 rfl (PSf fa57_0 rfl) (Pf 7 rfl (PSf fa34_1 rfl) ?_)
          refine Pf 8 rfl (PS_indexAddr ia29 rfl rfl (by first | omega | exact hbV.1 | exact hbV.2 | (dsimp only; omega)) (by first | omega | exact hbV.1 | exact hbV.2 | (dsimp only; omega))) ?_
          refine Pf 9 rfl (PSf fa28_2 rfl) (Pf 11 rfl (PSn rfl) (Pf 12 rfl (PSf fa57_0 rfl) (Pf 13 rfl (PSf fa34_1 rfl) ?_)))
          refine Plan_chain 10 rfl (by kernel_rfl) ?_
          refine GL_unit (PU_store (((TurnV.l0.comp Land.l1).comp (Lens.ar (n := 9) Thing.fl (by first | omega | exact hbV | (dsimp only; omega)))).comp Thing.l2) rfl rfl rfl sz3 rfl (.tail .head)) ?_
          refine GL_hand0 rfl ⟨?_, ?_⟩
          · exact (Po rfl (PSf fa34_1 rfl) rfl rfl (Po rfl (PSf fa57_0 rfl) rfl rfl (Po rfl (PSn rfl) rfl rfl (Pk (Pk (Pk (Pk (Pk (Po rfl (PS_move rfl) rfl rfl (Po rfl (PS_move rfl) rfl rfl (Po rfl (PS_move rfl) rfl rfl (Pk (Pk Pend_nil)))))))))))))
          refine Pf 14 rfl (PS_indexAddr ia29 rfl rfl (by first | omega | exact hbV.1 | exact hbV.2 | (dsimp only; omega)) (by first | omega | exact hbV.1 | exact hbV.2 | (dsimp only; omega))) ?_
          refine Pf 15 rfl (PSf fa28_3 rfl) ?_
          refine Plan_chain 16 rfl (by kernel_rfl) ?_
          refine GL_unit (PU_store (((TurnV.l0.comp Land.l1).comp (Lens.ar (n := 9) Thing.fl (by first | omega | exact hbV | (dsimp only; omega)))).comp Thing.l3) rfl rfl rfl sz3 rfl (.tail .head)) ?_
          refine GL_hand0 rfl ⟨?_, ?_⟩
          · exact (Pk (Pk (Pk (Pk (Pk (Pk (Pk (Pk (Pk (Pk (Pk (Pk (Pk (Pk (Pk Pend_nil)))))))))))))))
          refine Plan_end (by kernel_rfl) ?_
          refine GQ_sub (.t7 0 3 4 8 40 41 42) ?_
          refine GQ_then ?_
          refine G_swap (fun _ => (.tail .head)) (congrArg (fun q => TurnV.enc ⟨q, _, _⟩) (Turn.place_eq V hx.1 hx.2 1 n)) ?_
          refine G_region ?_
          refine Gm rfl (Gm rfl (Gt (PSf fa28_0 rfl) ?_))
          refine Gt (PS_load rfl tys9 (.head _) Thing.l0 rfl rfl) ?_
          refine GL_callL rfl cf20 (.cons rfl (.cons rfl (.cons rfl (.cons rfl (.cons rfl (.cons rfl (.cons rfl .nil))))))) (.cons (.tail .head) (.cons (.tail .head) .nil)) (ref_turn_add_spec _ (V.place ((Turn.pickL Y.w Y.own o.nth o.name o.all_).getD k.toNat 0) 1 n) _ 6 n 0 0 (V.w.things.at ((Turn.pickL Y.w Y.own o.nth o.name o.all_).getD k.toNat 0)).name [] (by assumption) hbV ((hok hv).lt6 (by omega)) (show V.out.length ≤ 100000 by omega)) (fun v31 B hv => ?_)
          obtain ⟨y32, rfl, y33, rfl⟩ := hv
          refine GL_nil (GQ_sub (.t6 0 3 4 40 41 42) ?_)
          refine GQ_block ?_
          refine GQ_block ?_
          refine GQ_then ?_
          refine G_region ?_
          refine Gt (PS_add rfl rfl (IntWalk.i64_in _ (by first | omega | exact hbV.1 | exact hbV.2 | (dsimp only; omega)))) ?_
          refine Gm rfl ?_
          refine GL_nil (GQ_sub (.t6 0 3 4 40 41 42) ?_)
          refine GQ_pulls (.cons .head (.cons .head (.cons (.tail .head) (.cons (.tail .head) (.cons (.tail .head) .nil))))) ?_
          refine GQ_dropr ?_
          refine GQ_next3_ (k + 1) _ _ ?_ ?_ (.t6 42 0 3 4 40 41) (.refl _)
          · have hq : V.letOne o.verb n ((Turn.pickL Y.w Y.own o.nth o.name o.all_).getD k.toNat 0) = _ := Turn.letOne_10 c6 (decide_eq_true (by omega))
            exact ⟨by omega, hq.symm.trans ((congrArg (fun q => Turn.letOne q o.verb n ((Turn.pickL Y.w Y.own o.nth o.name o.all_).getD k.toNat 0)) hI12).trans (Turn.letK_step hI11 (by show k < (((Turn.pickL Y.w Y.own o.nth o.name o.all_)).length : Int); omega)).symm), by omega, by assumption⟩
          · omega
     ·
      have c5p := c5; try simp only [kk] at c5p
      obtain rfl : k = ((Turn.pickL Y.w Y.own o.nth o.name o.all_).length : Int) := by omega
      refine G_exit ?_
      refine GQ_then_exit ?_
      refine GQ_then_exit ?_
      refine GQ_block_exit ?_
      refine GQ_end rfl .nil ?_
      intro w1 hS
      have hS := (hS.perm (Pulls.perm (.cons .head (.cons .head .nil)))).headL
      have hq : T.letGo o = V := hgo.trans (hI12.trans Turn.letK_end).symm
      refine ⟨_, ⟨?gq2, rfl, ?hl2, ?hB2⟩, hS⟩
      case hB2 => rw [hq]; (try rfl)
      case hl2 => rw [hq]; exact hI14
theorem ref_turn_leaveAll_spec (b : Nat) (T : Turn) (g : Hd) (hF : T.Fit) : Ctr Tryz.prog 26 #[.pointer (some ⟨b, 0, none⟩)] [Res.box b 57 (TurnV.enc ⟨T.w, T.b, g⟩)] (fun v B => ∃ F : Land, F = T.fall.w ∧ v = .tuple #[] ∧ B = [Res.box b 57 (TurnV.enc ⟨F, T.b, g⟩)]) := by
 intro w hS0
 have hb := hF.b
 have hr := hF.room
 refine Ret_body _ _ Tryz.func26 rfl rfl rfl (hS0) ?_
 refine Gss ?_
 refine Gm rfl ?_
 refine GL_nil ?_
 refine GQ_then ?_
 refine G_block ?_
 refine G_subF (.t2 5 0) ?_
 refine G_loop2_ (fun (k : Int) (X : Turn) => 0 ≤ k ∧ X = T.leaveK k.toNat ∧ X.b = T.b ∧ k ≤ 9) (fun (k : Int) (X : Turn) => (9 - k).toNat) (fun (k : Int) (X : Turn) => [(5, .int .i64 k)]) (fun (k : Int) (X : Turn) => [Res.box b 57 (TurnV.enc ⟨X.w, X.b, g⟩)]) (0) (_) ?_ rfl rfl (fun k X hI1 => ?_)
 · exact ⟨by omega, rfl, rfl, by omega⟩
 obtain ⟨hI11, hI12, hI13, hI14⟩ := hI1
 refine Gs ?_
 refine Gt (PS_lss rfl rfl) ?_
 refine GL_nil ?_
 refine GQ_then ?_
 refine G_seq ?_
 refine Gc (fun c1 => ?_) (fun c1 => ?_)
 ·
  have c1p := c1; try simp only [kk] at c1p
  have hgF := Turn.leaveK_fit hF k.toNat (by omega)
  rw [← hI12] at hgF
  have hIF : X.Fit := hgF.fit
  refine G_skip ?_
  refine GQ_sub (.t2 0 5) ?_
  refine GQ_then ?_
  refine G_seq ?_
  refine G_block ?_
  refine Gs ?_
  refine Gm rfl (Ga rfl ?_)
  refine Gn (.t3 0 2 5) ?_
  refine Gs ?_
  refine Gm rfl (Gm rfl (Gt (PSn rfl) (Gt (PSf fa57_0 rfl) (Gt (PSf fa34_1 rfl) ?_))))
  refine Gt (PS_indexAddr ia29 rfl rfl (by first | omega | exact hb.1 | exact hb.2 | (rw [hI13]; first | exact hb.1 | exact hb.2) | (dsimp only; omega) | (rw [hb9.1]; first | exact hb.1 | exact hb.2)) (by first | omega | exact hb.1 | exact hb.2 | (rw [hI13]; first | exact hb.1 | exact hb.2) | (dsimp only; omega) | (rw [hb9.1]; first | exact hb.1 | exact hb.2))) ?_
  refine Ga rfl ?_
  refine Gn (.t3 0 3 5) ?_
  refine G_seq ?_
  refine G_planN (N := 16) [0, 1, 3, 7, 15, 31, 63, 127, 255, 511, 63, 1087, 3135, 7231, 16383, 32767] mix (by kernel_rfl) rfl ?_
  refine Pf 0 rfl (PS_move rfl) (Pf 1 rfl (PSn rfl) (Pf 2 rfl (PSf fa28_2 rfl) ?_))
  refine Pf 3 rfl (PS_load rfl tys3 (.head _) (((TurnV.l0.comp Land.l1).comp (Lens.ar (n := 9) Thing.fl (by first | omega | exact hb | (rw [hI13]; first | exact hb.1 | exact hb.2) | (dsimp only; omega) | (rw [hb9.1]; first | exact hb.1 | exact hb.2)))).comp Thing.l2) rfl rfl) ?_
  refine Pf 4 rfl (PS_eql rfl rfl) ?_
  refine Pf 5 rfl (PS_move rfl) ?_
  refine Pgt 6 19 rfl rfl rfl (fun q => PS_move rfl) ?_
  refine Pgt 7 19 rfl rfl rfl (fun q => PSn (cvE rfl q)) ?_
  refine Pgt 8 19 rfl rfl rfl (fun q => PSf fa28_3 (cvE rfl q)) ?_
  refine Plan_float 9 rfl rfl (by kernel_rfl) (OK_gt (t := 19) rfl rfl (fun q => by have q1 := q; (try simp at q1); exact EX_s (PS_load (cvE rfl q) tys3 (.head _) (((TurnV.l0.comp Land.l1).comp (Lens.ar (n := 9) Thing.fl (by first | omega | exact hb | (rw [hI13]; first | exact hb.1 | exact hb.2) | (dsimp only; omega) | (rw [hb9.1]; first | exact hb.1 | exact hb.2)))).comp Thing.l3) rfl rfl))) ?_
  refine Pgt 10 19 rfl rfl rfl (fun q => PS_move rfl) ?_
  refine Pgt 11 19 rfl rfl rfl (fun q => PSn (cvE rfl q)) ?_
  refine Pgt 12 19 rfl rfl rfl (fun q => PSf fa57_1 (cvE rfl q)) ?_
  refine Pgt 13 19 rfl rfl rfl (fun q => PS_load (cvE rfl q) tys3 (.head _) TurnV.l1 rfl rfl) ?_
  refine Pgt 14 19 rfl rfl rfl (fun q => PS_eql (cvE rfl q) (cvE rfl q)) ?_
  refine Pf 15 rfl (PS_and rfl rfl (fun h => h)) ?_
  refine Plan_end (by kernel_rfl) ?_
  refine GQ_sub (.t4 0 3 5 29) ?_
  refine GQ_then ?_
  refine Gc (fun c2 => ?_) (fun c2 => ?_)
  ·
   have c2p := c2; try simp only [kk] at c2p
   refine Gs ?_
   refine Gm rfl (Gm rfl (Gm rfl ?_))
   refine GL_callL rfl cf51 (.cons rfl .nil) (.cons .head .nil) (ref_turn_here_spec _ X _ (hIF)) (fun v1 B hv => ?_)
   obtain ⟨rfl, rfl⟩ := hv
   refine Gt (PSn rfl) (Gt (PSf fa28_2 rfl) ?_)
   refine GL_unit (PU_store (((TurnV.l0.comp Land.l1).comp (Lens.ar (n := 9) Thing.fl (by first | omega | exact hb | (rw [hI13]; first | exact hb.1 | exact hb.2) | (dsimp only; omega) | (rw [hb9.1]; first | exact hb.1 | exact hb.2)))).comp Thing.l2) rfl rfl rfl sz3 rfl .head) ?_
   refine Gt (PSn rfl) (Gt (PSf fa28_3 rfl) ?_)
   refine GL_unit (PU_store (((TurnV.l0.comp Land.l1).comp (Lens.ar (n := 9) Thing.fl (by first | omega | exact hb | (rw [hI13]; first | exact hb.1 | exact hb.2) | (dsimp only; omega) | (rw [hb9.1]; first | exact hb.1 | exact hb.2)))).comp Thing.l3) rfl rfl rfl sz3 rfl .head) ?_
   refine Gn (.t3 0 3 5) ?_
   refine Gs ?_
   refine Gm rfl (Gt (PSn rfl) (Gt (PSf fa28_1 rfl) ?_))
   refine Gt (PS_load rfl tys3 (.head _) (((TurnV.l0.comp Land.l1).comp (Lens.ar (n := 9) Thing.fl (by first | omega | exact hb | (rw [hI13]; first | exact hb.1 | exact hb.2) | (dsimp only; omega) | (rw [hb9.1]; first | exact hb.1 | exact hb.2)))).comp Thing.l1) rfl rfl) ?_
   refine Gt (PS_eql rfl rfl) ?_
   refine Gn (.t4 0 3 5 42) ?_
   refine Gc (fun c3 => ?_) (fun c3 => ?_)
   ·
    have c3p := c3; try simp only [kk] at c3p
    refine G_region ?_
    refine Gm rfl (Gt (PSn rfl) (Gt (PSf fa28_4 rfl) ?_))
    refine GL_unit (PU_store (((TurnV.l0.comp Land.l1).comp (Lens.ar (n := 9) Thing.fl (by first | omega | exact hb | (rw [hI13]; first | exact hb.1 | exact hb.2) | (dsimp only; omega) | (rw [hb9.1]; first | exact hb.1 | exact hb.2)))).comp Thing.l4) rfl rfl rfl sz4 rfl .head) ?_
    refine GL_nil (GQ_sub (.t2 0 5) ?_)
    refine GQ_block ?_
    refine GQ_then ?_
    refine G_swap (fun _ => .head) (congrArg (fun q => TurnV.enc ⟨q, _, _⟩) (Turn.leave_t X hI11 (show k < 9 by omega) c3)) ?_
    refine G_region ?_
    refine Gt (PS_add rfl rfl (IntWalk.i64_in _ (by first | omega | exact hb.1 | exact hb.2 | (rw [hI13]; first | exact hb.1 | exact hb.2) | (dsimp only; omega) | (rw [hb9.1]; first | exact hb.1 | exact hb.2)))) ?_
    refine Gm rfl ?_
    refine GL_nil (GQ_sub (.t2 0 5) ?_)
    refine GQ_next2_ (k + 1) (X.dropOne k) ?_ ?_ (.t2 5 0) (.refl _)
    · exact ⟨by omega, by rw [Turn.leaveK_step hI11, ← hI12, if_t c2], hI13, by omega⟩
    · omega
   ·
    have c3p := c3; try simp only [kk] at c3p
    refine G_skip ?_
    refine GQ_sub (.t2 0 5) ?_
    refine GQ_block ?_
    refine GQ_then ?_
    refine G_swap (fun _ => .head) (congrArg (fun q => TurnV.enc ⟨q, _, _⟩) (Turn.leave_f X hI11 (show k < 9 by omega) c3)) ?_
    refine G_region ?_
    refine Gt (PS_add rfl rfl (IntWalk.i64_in _ (by first | omega | exact hb.1 | exact hb.2 | (rw [hI13]; first | exact hb.1 | exact hb.2) | (dsimp only; omega) | (rw [hb9.1]; first | exact hb.1 | exact hb.2)))) ?_
    refine Gm rfl ?_
    refine GL_nil (GQ_sub (.t2 0 5) ?_)
    refine GQ_next2_ (k + 1) (X.dropOne k) ?_ ?_ (.t2 5 0) (.refl _)
    · exact ⟨by omega, by rw [Turn.leaveK_step hI11, ← hI12, if_t c2], hI13, by omega⟩
    · omega
  ·
   have c2p := c2; try simp only [kk] at c2p
   refine G_skip ?_
   refine GQ_sub (.t2 0 5) ?_
   refine GQ_block ?_
   refine GQ_then ?_
   refine G_region ?_
   refine Gt (PS_add rfl rfl (IntWalk.i64_in _ (by first | omega | exact hb.1 | exact hb.2 | (rw [hI13]; first | exact hb.1 | exact hb.2) | (dsimp only; omega) | (rw [hb9.1]; first | exact hb.1 | exact hb.2)))) ?_
   refine Gm rfl ?_
   refine GL_nil (GQ_sub (.t2 0 5) ?_)
   refine GQ_next2_ (k + 1) (X) ?_ ?_ (.t2 5 0) (.refl _)
   · exact ⟨by omega, by rw [Turn.leaveK_step hI11, ← hI12, if_f c2], hI13, by omega⟩
   · omega
 ·
  have c1p := c1; try simp only [kk] at c1p
  obtain rfl : k = 9 := by omega
  have hX : X = T.leaveK 9 := hI12
  refine G_exit ?_
  refine GQ_then_exit ?_
  refine GQ_then_exit ?_
  refine GQ_block_exit ?_
  refine GQ_sub (.t1 0) ?_
  refine GQ_then ?_
  refine G_seq ?_
  have hb9 := Turn.leaveK_b T 9 (Nat.le_refl _)
  refine G_planN (N := 11) [0, 0, 2, 6, 14, 1, 33, 97, 255, 511, 1023] mix (by kernel_rfl) rfl ?_
  refine Pf 0 rfl (PS_move rfl) (Pf 1 rfl (PS_move rfl) (Pf 2 rfl (PSn rfl) (Pf 3 rfl (PSf fa57_1 rfl) ?_)))
  refine Pf 4 rfl (PS_load rfl tys3 (.head _) TurnV.l1 rfl rfl) ?_
  refine Pf 5 rfl (PSn rfl) (Pf 6 rfl (PSf fa57_0 rfl) (Pf 7 rfl (PSf fa34_2 rfl) ?_))
  refine Pf 8 rfl (PS_indexAddr ia32 rfl rfl (by first | omega | exact hb.1 | exact hb.2 | (rw [hI13]; first | exact hb.1 | exact hb.2) | (dsimp only; omega) | (rw [hb9.1]; first | exact hb.1 | exact hb.2)) (by first | omega | exact hb.1 | exact hb.2 | (rw [hI13]; first | exact hb.1 | exact hb.2) | (dsimp only; omega) | (rw [hb9.1]; first | exact hb.1 | exact hb.2))) ?_
  refine Pf 9 rfl (PSf fa31_5 rfl) ?_
  refine Plan_chain 10 rfl (by kernel_rfl) ?_
  refine GL_unit (PU_store (((TurnV.l0.comp Land.l2).comp (Lens.ar (n := 6) Being.fl (by first | omega | exact hb | (rw [hI13]; first | exact hb.1 | exact hb.2) | (dsimp only; omega) | (rw [hb9.1]; first | exact hb.1 | exact hb.2)))).comp Being.l5) rfl rfl rfl sz3 rfl .head) ?_
  refine GL_hand0 rfl ⟨?_, ?_⟩
  · exact (Pk (Pk (Pk (Pk (Pk (Pk (Pk (Pk (Pk (Pk Pend_nil))))))))))
  refine Plan_end (by kernel_rfl) ?_
  refine GQ_sub (.t1 0) ?_
  refine GQ_then ?_
  refine Gs ?_
  refine Gm rfl ?_
  refine GL_nil ?_
  refine GQ_then ?_
  refine G_block ?_
  refine G_subF (.t2 57 0) ?_
  refine G_loop2_ (fun (k : Int) (Y : Turn) => 0 ≤ k ∧ Y = (Turn.setFoe X X.b 0).calmK k.toNat ∧ Y.b = X.b ∧ k ≤ 6) (fun (k : Int) (Y : Turn) => (6 - k).toNat) (fun (k : Int) (Y : Turn) => [(57, .int .i64 k)]) (fun (k : Int) (Y : Turn) => [Res.box b 57 (TurnV.enc ⟨Y.w, Y.b, g⟩)]) (0) (Turn.setFoe X X.b 0) ?_ rfl rfl (fun k Y hI2 => ?_)
  · exact ⟨by omega, rfl, rfl, by omega⟩
  obtain ⟨hI21, hI22, hI23, hI24⟩ := hI2
  refine Gs ?_
  refine Gt (PS_lss rfl rfl) ?_
  refine GL_nil ?_
  refine GQ_then ?_
  refine G_seq ?_
  refine Gc (fun c4 => ?_) (fun c4 => ?_)
  ·
   have c4p := c4; try simp only [kk] at c4p
   refine G_skip ?_
   refine GQ_sub (.t2 0 57) ?_
   refine GQ_then ?_
   refine G_seq ?_
   refine G_block ?_
   refine Gs ?_
   refine Gm rfl (Ga rfl ?_)
   refine Gn (.t3 0 4 57) ?_
   refine G_seq ?_
   refine G_planN (N := 14) [0, 0, 1, 5, 13, 31, 63, 127, 0, 256, 768, 1792, 3840, 8191] mix (by kernel_rfl) rfl ?_
   refine Pf 0 rfl (PS_move rfl) (Pf 1 rfl (PS_move rfl) (Pf 2 rfl (PSn rfl) (Pf 3 rfl (PSf fa57_0 rfl) (Pf 4 rfl (PSf fa34_2 rfl) ?_))))
   refine Pf 5 rfl (PS_indexAddr ia32 rfl rfl (by first | omega | exact hb.1 | exact hb.2 | (rw [hI13]; first | exact hb.1 | exact hb.2) | (dsimp only; omega) | (rw [hb9.1]; first | exact hb.1 | exact hb.2)) (by first | omega | exact hb.1 | exact hb.2 | (rw [hI13]; first | exact hb.1 | exact hb.2) | (dsimp only; omega) | (rw [hb9.1]; first | exact hb.1 | exact hb.2))) ?_
   refine Pf 6 rfl (PSf fa31_5 rfl) ?_
   refine Pf 7 rfl (PS_load rfl tys3 (.head _) (((TurnV.l0.comp Land.l2).comp (Lens.ar (n := 6) Being.fl (by first | omega | exact hb | (rw [hI13]; first | exact hb.1 | exact hb.2) | (dsimp only; omega) | (rw [hb9.1]; first | exact hb.1 | exact hb.2)))).comp Being.l5) rfl rfl) ?_
   refine Pf 8 rfl (PS_move rfl) (Pf 9 rfl (PSn rfl) (Pf 10 rfl (PSf fa57_1 rfl) ?_))
   refine Pf 11 rfl (PS_load rfl tys3 (.head _) TurnV.l1 rfl rfl) ?_
   refine Pf 12 rfl (PS_add rfl rfl (IntWalk.i64_in _ (by first | omega | exact hb.1 | exact hb.2 | (rw [hI13]; first | exact hb.1 | exact hb.2) | (dsimp only; omega) | (rw [hb9.1]; first | exact hb.1 | exact hb.2)))) ?_
   refine Pf 13 rfl (PS_eql rfl rfl) ?_
   refine Plan_end (by kernel_rfl) ?_
   refine GQ_sub (.t4 0 4 57 73) ?_
   refine GQ_then ?_
   refine Gc (fun c5 => ?_) (fun c5 => ?_)
   ·
    have c5p := c5; try simp only [kk] at c5p
    have hcb : decide ((Y.w.beings.at k).foe = (Turn.setFoe X X.b 0).b + 1) = true := by rw [show (Turn.setFoe X X.b 0).b = X.b from rfl, ← hI23]; exact c5
    refine G_region ?_
    refine Gm rfl (Gm rfl (Gt (PSn rfl) (Gt (PSf fa57_0 rfl) (Gt (PSf fa34_2 rfl) ?_))))
    refine Gt (PS_indexAddr ia32 rfl rfl (by first | omega | exact hb.1 | exact hb.2 | (rw [hI13]; first | exact hb.1 | exact hb.2) | (dsimp only; omega) | (rw [hb9.1]; first | exact hb.1 | exact hb.2)) (by first | omega | exact hb.1 | exact hb.2 | (rw [hI13]; first | exact hb.1 | exact hb.2) | (dsimp only; omega) | (rw [hb9.1]; first | exact hb.1 | exact hb.2))) ?_
    refine Gt (PSf fa31_5 rfl) ?_
    refine GL_unit (PU_store (((TurnV.l0.comp Land.l2).comp (Lens.ar (n := 6) Being.fl (by first | omega | exact hb | (rw [hI13]; first | exact hb.1 | exact hb.2) | (dsimp only; omega) | (rw [hb9.1]; first | exact hb.1 | exact hb.2)))).comp Being.l5) rfl rfl rfl sz3 rfl .head) ?_
    refine GL_nil (GQ_sub (.t2 0 57) ?_)
    refine GQ_block ?_
    refine GQ_then ?_
    refine G_region ?_
    refine Gt (PS_add rfl rfl (IntWalk.i64_in _ (by first | omega | exact hb.1 | exact hb.2 | (rw [hI13]; first | exact hb.1 | exact hb.2) | (dsimp only; omega) | (rw [hb9.1]; first | exact hb.1 | exact hb.2)))) ?_
    refine Gm rfl ?_
    refine GL_nil (GQ_sub (.t2 0 57) ?_)
    refine GQ_next2_ (k + 1) (Y.setFoe k 0) ?_ ?_ (.t2 57 0) (.refl _)
    · exact ⟨by omega, by rw [Turn.calmK_step hI21, ← hI22, if_t hcb], hI23, by omega⟩
    · omega
   ·
    have c5p := c5; try simp only [kk] at c5p
    have hcb : decide ((Y.w.beings.at k).foe = (Turn.setFoe X X.b 0).b + 1) = false := by rw [show (Turn.setFoe X X.b 0).b = X.b from rfl, ← hI23]; exact c5
    refine G_skip ?_
    refine GQ_sub (.t2 0 57) ?_
    refine GQ_block ?_
    refine GQ_then ?_
    refine G_region ?_
    refine Gt (PS_add rfl rfl (IntWalk.i64_in _ (by first | omega | exact hb.1 | exact hb.2 | (rw [hI13]; first | exact hb.1 | exact hb.2) | (dsimp only; omega) | (rw [hb9.1]; first | exact hb.1 | exact hb.2)))) ?_
    refine Gm rfl ?_
    refine GL_nil (GQ_sub (.t2 0 57) ?_)
    refine GQ_next2_ (k + 1) (Y) ?_ ?_ (.t2 57 0) (.refl _)
    · exact ⟨by omega, by rw [Turn.calmK_step hI21, ← hI22, if_f hcb], hI23, by omega⟩
    · omega
  ·
   have c4p := c4; try simp only [kk] at c4p
   obtain rfl : k = 6 := by omega
   refine G_exit ?_
   refine GQ_then_exit ?_
   refine GQ_then_exit ?_
   refine GQ_block_exit ?_
   refine GQ_end rfl .nil ?_
   intro w1 hS
   have hS := (hS.perm (Pulls.perm (.cons .head .nil))).headL
   have hq : T.fall.w = Y.w := by rw [← Turn.leave_fall T hb, ← hX, hI22]; rfl
   exact ⟨_, ⟨_, rfl, rfl, by rw [hq, ← hI13, ← hI23]⟩, hS⟩
theorem ref_DirectionOf_spec (s : Str) (w : World) (gl0 : GV 0 Land.verbsV w) : Ret Tryz.prog 72 #[vstr s] w fun v w' => v = .tuple #[.int .i64 (Words.dir s).1, .bool (Words.dir s).2] ∧ Keep w w' := by
 refine Ret_body [] [] Tryz.func72 rfl rfl rfl (St.start w []) ?_
 refine Gs ?_
 refine Ga rfl (Ga rfl ?_)
 refine Gn (.t1 0) ?_
 refine Gss ?_
 refine Gm rfl ?_
 refine GL_nil ?_
 refine GQ_then ?_
 refine G_block ?_
 refine G_subF (.t2 5 0) ?_
 refine G_loop1_ (fun (k : Int) => 0 ≤ k ∧ k ≤ 6 ∧ Words.dirF s 6 = Words.dirF s (6 - k).toNat) (fun (k : Int) => (6 - k).toNat) (fun (k : Int) => [(5, .int .i64 k)]) (fun (k : Int) => []) (0) ?_ rfl rfl (fun k hI1 => ?_)
 · exact ⟨by omega, by omega, rfl⟩
 obtain ⟨hI11, hI12, hI13⟩ := hI1
 refine Gs ?_
 refine Gt (PS_lss rfl rfl) ?_
 refine GL_nil ?_
 refine GQ_then ?_
 refine G_seq ?_
 refine Gc (fun c1 => ?_) (fun c1 => ?_)
 ·
  have c1p := c1; try simp only [kk] at c1p
  rw [Words.dirF_step hI11 (by omega)] at hI13
  refine G_skip ?_
  refine GQ_sub (.t2 0 5) ?_
  refine GQ_then ?_
  refine G_seq ?_
  refine G_block ?_
  refine Gs ?_
  refine Gm rfl (Ga rfl ?_)
  refine Gn (.t3 0 4 5) ?_
  refine Gs ?_
  refine Gm rfl (Gm rfl ?_)
  refine Gt (PS_indexAddr ia80 rfl rfl (by omega) (by omega)) ?_
  refine Gt (PS_ldGV gl0 rfl tys9 (Land.verbs_at (by omega) (by omega))) ?_
  refine Gt (PS_eql_str rfl rfl) ?_
  refine Gn (.t4 0 4 5 12) ?_
  refine Gc (fun c2 => ?_) (fun c2 => ?_)
  ·
   have c2p := c2; try simp only [kk] at c2p
   have cp : decide (Land.verbs.getD k.toNat [] = s) = true := (decide_eq_decide.2 eq_comm).trans c2
   refine Gs ?_
   refine Gm rfl (Ga rfl (Ga rfl ?_))
   refine Gn (.t2 2 3) ?_
   refine G_ret ?_
   refine GQ_block_ret ?_
   refine GQ_then_ret ?_
   refine GQ_then_ret ?_
   refine GQ_block_ret ?_
   refine GQ_then_ret ?_
   refine GQ_ret rfl (.tmp rfl (.tmp rfl .nil)) ?_
   intro w1 hS; refine ⟨?_, hS.toKeep⟩; rw [Words.dir, hI13, if_t cp]; rfl
  ·
   have c2p := c2; try simp only [kk] at c2p
   have cp : decide (Land.verbs.getD k.toNat [] = s) = false := (decide_eq_decide.2 eq_comm).trans c2
   refine G_skip ?_
   refine GQ_sub (.t2 0 5) ?_
   refine GQ_block ?_
   refine GQ_then ?_
   refine G_region ?_
   refine Gt (PS_add rfl rfl (IntWalk.i64_in _ (by omega))) ?_
   refine Gm rfl ?_
   refine GL_nil (GQ_sub (.t2 0 5) ?_)
   refine GQ_next1_ (k + 1) ?_ ?_ (.t2 5 0) (.refl _)
   · exact ⟨by omega, by omega, by rw [hI13, if_f cp]⟩
   · omega
 ·
  have c1p := c1; try simp only [kk] at c1p
  obtain rfl : k = 6 := by omega
  refine G_exit ?_
  refine GQ_then_exit ?_
  refine GQ_then_exit ?_
  refine GQ_block_exit ?_
  refine GQ_sub (.nil _) ?_
  refine GQ_then ?_
  refine Gs ?_
  refine Ga rfl (Ga rfl ?_)
  refine GL_nil ?_
  refine GQ_then ?_
  refine G_ret ?_
  refine GQ_ret rfl (.tmp rfl (.tmp rfl .nil)) ?_
  intro w1 hS; refine ⟨?_, hS.toKeep⟩; rw [Words.dir, hI13]; rfl
end Go.Proofs.YthaobbemigbcgaaGreatDoor
