/- What the functions that the law RulesDoes reaches compute: walks, part 2. No condition. -/
import Derived.Test.YthaobbemigbcgaaGreatDoorCards
import Derived.Test.YthaobbemigbcgaaGreatDoorTie
import Derived.Deep.DeepHandedRow
import Derived.Test.YthaobbemigbcgaaGreatDoorRows
import Derived.Test.YthaobbemigbcgaaGreatDoorRulesDoesEc3
import Derived.Test.YthaobbemigbcgaaGreatDoorRulesDoesRa1
import Derived.Test.YthaobbemigbcgaaGreatDoorRulesDoesRb1
import Derived.Test.YthaobbemigbcgaaGreatDoorRulesDoesWalks
set_option linter.unusedSimpArgs false
set_option linter.unusedVariables false
set_option maxRecDepth 100000
set_option maxHeartbeats 1000000
namespace Go.Proofs.YthaobbemigbcgaaGreatDoor
open Go Go.Ing Go.RowKit Go.ChangeShapes Go.WideShapes Go.ChangeAt
theorem rules_turn_fall_spec (b : Nat) (T : Turn) (g : Hd) (hF : T.Fit) : Ctr Tryz.prog 55 #[.pointer (some ⟨b, 0, none⟩)] [Res.box b 53 (TurnV.enc ⟨T.w, T.b, g⟩)] (fun v B => ∃ F : Land, F = T.fall.w ∧ v = .tuple #[] ∧ B = [Res.box b 53 (TurnV.enc ⟨F, T.b, g⟩)]) := by
 intro w hS0
 have hb := hF.b
 have hr := hF.room
 have ho9 := T.own_len
 refine Ret_body _ _ Tryz.func55 rfl rfl rfl (hS0) ?_
 refine Gss ?_
 refine Gm rfl ?_
 refine GL_callL rfl cf62 (.cons rfl .nil) (.cons .head .nil) (rules_turn_own_spec _ _ _ (by first | assumption | omega)) (fun v1 B hv => ?_)
 obtain ⟨y2, rfl, y3, rfl⟩ := hv
 refine Gt (PS_len_slice rfl Tryz.underlying66 rfl) ?_
 refine Gm rfl ?_
 refine Gn (.t4 0 7 8 9) ?_
 refine G_block ?_
 refine G_subF (.t4 9 0 7 8) ?_
 refine G_loop2_ (fun (k : Int) (X : Turn) => 0 ≤ k ∧ T.dropAll T.own = X.dropAll (T.own.drop k.toNat) ∧ X.b = T.b ∧ k ≤ (T.own.length : Int)) (fun (k : Int) (X : Turn) => ((T.own.length : Int) - k).toNat) (fun (k : Int) (X : Turn) => [(9, .int .i64 k)]) (fun (k : Int) (X : Turn) => [Res.box b 53 (TurnV.enc ⟨X.w, X.b, g⟩)]) (0) (_) ?_ rfl rfl (fun k X hI1 => ?_)
 · exact ⟨by omega, rfl, rfl, by omega⟩
 obtain ⟨hI11, hI12, hI13, hI14⟩ := hI1
 refine Gs ?_
 refine Gt (PS_lss rfl rfl) ?_
 refine GL_nil ?_
 refine GQ_then ?_
 refine G_seq ?_
 refine Gc (fun c1 => ?_) (fun c1 => ?_)
 ·
  have c1p := c1; try simp only [kk] at c1p
  have hx := Turn.own_rng (Line.getD_memI (xs := T.own) (i := k.toNat) (by omega))
  refine G_skip ?_
  refine GQ_sub (.t4 0 7 8 9) ?_
  refine GQ_then ?_
  refine G_seq ?_
  refine G_block ?_
  refine Gs ?_
  refine Gt (PS_idxS is66 (by decide) (Kn.own (.tail _ (.head _))) rfl rfl (by omega) (by omega)) ?_
  refine Gt (PS_ldInt rfl tys3 (Kn.own (.tail _ (.head _))) (by omega)) ?_
  refine Ga rfl ?_
  refine Gn (.t5 0 3 7 8 9) ?_
  refine Gs ?_
  refine Gm rfl (Gm rfl (Gt (PSn rfl) (Gt (PSf fa53_0 rfl) (Gt (PSf fa34_1 rfl) ?_))))
  refine Gt (PS_indexAddr ia29 rfl rfl (by first | omega | (rw [hI13]; first | exact hb.1 | exact hb.2) | (dsimp only; omega)) (by first | omega | (rw [hI13]; first | exact hb.1 | exact hb.2) | (dsimp only; omega))) ?_
  refine Ga rfl ?_
  refine Gn (.t5 0 4 7 8 9) ?_
  refine Gss ?_
  refine Gm rfl (Gt (PSn rfl) (Gt (PSf fa28_1 rfl) ?_))
  refine Gt (PS_load rfl tys3 (.head _) (((TurnV.l0.comp Land.l1).comp (Lens.arr (n := 9) Thing.fl (by first | omega | (rw [hI13]; first | exact hb.1 | exact hb.2) | (dsimp only; omega)) (by first | omega | (rw [hI13]; first | exact hb.1 | exact hb.2) | (dsimp only; omega)))).comp Thing.l1) rfl rfl) ?_
  refine Gt (PS_eql rfl rfl) ?_
  refine Gn (.t6 0 4 7 8 9 23) ?_
  refine Gc (fun c2 => ?_) (fun c2 => ?_)
  ·
   have c2p := c2; try simp only [kk] at c2p
   refine G_region ?_
   refine Gm rfl (Gt (PSn rfl) (Gt (PSf fa28_4 rfl) ?_))
   refine GL_unit (PU_store (((TurnV.l0.comp Land.l1).comp (Lens.arr (n := 9) Thing.fl (by first | omega | (rw [hI13]; first | exact hb.1 | exact hb.2) | (dsimp only; omega)) (by first | omega | (rw [hI13]; first | exact hb.1 | exact hb.2) | (dsimp only; omega)))).comp Thing.l4) rfl rfl rfl sz4 rfl .head) ?_
   refine Gn (.t5 0 4 7 8 9) ?_
   refine G_planN (N := 19) [0, 0, 0, 0, 8, 24, 56, 4, 132, 388, 1020, 2044, 4092, 8189, 16381, 32765, 65535, 131071, 262143] mix (by kernel_rfl) rfl ?_
   refine Pf 0 rfl (PS_move rfl) (Pf 1 rfl (PS_move rfl) (Pf 2 rfl (PS_move rfl) (Pf 3 rfl (PS_move rfl) (Pf 4 rfl (PSn rfl) (Pf 5 rfl (PSf fa53_1 rfl) ?_)))))
   refine Pf 6 rfl (PS_load rfl tys3 (.head _) TurnV.l1 rfl rfl) ?_
   refine Pf 7 rfl (PSn rfl) (Pf 8 rfl (PSf fa53_0 rfl) (Pf 9 rfl (PSf fa34_2 rfl) ?_))
   refine Pf 10 rfl (PS_indexAddr ia32 rfl rfl (by first | omega | (rw [hI13]; first | exact hb.1 | exact hb.2) | (dsimp only; omega)) (by first | omega | (rw [hI13]; first | exact hb.1 | exact hb.2) | (dsimp only; omega))) ?_
   refine Pf 11 rfl (PSf fa31_3 rfl) ?_
   refine Pf 12 rfl (PS_load rfl tys3 (.head _) (((TurnV.l0.comp Land.l2).comp (Lens.arr (n := 6) Being.fl (by first | omega | (rw [hI13]; first | exact hb.1 | exact hb.2) | (dsimp only; omega)) (by first | omega | (rw [hI13]; first | exact hb.1 | exact hb.2) | (dsimp only; omega)))).comp Being.l3) rfl rfl) ?_
   refine Pf 13 rfl (PSn rfl) (Pf 14 rfl (PSf fa28_2 rfl) ?_)
   refine Plan_chain 15 rfl (by kernel_rfl) ?_
   refine GL_unit (PU_store (((TurnV.l0.comp Land.l1).comp (Lens.arr (n := 9) Thing.fl (by first | omega | (rw [hI13]; first | exact hb.1 | exact hb.2) | (dsimp only; omega)) (by first | omega | (rw [hI13]; first | exact hb.1 | exact hb.2) | (dsimp only; omega)))).comp Thing.l2) rfl rfl rfl sz3 rfl .head) ?_
   refine GL_hand0 rfl ⟨?_, ?_⟩
   · exact (Pk (Pk (Pk (Pk (Pk (Pk (Pk (Pk (Pk (Pk (Pk (Pk (Pk (Po rfl (PS_move rfl) rfl rfl (Pk Pend_nil)))))))))))))))
   refine Pf 16 rfl (PSn rfl) (Pf 17 rfl (PSf fa28_3 rfl) ?_)
   refine Plan_chain 18 rfl (by kernel_rfl) ?_
   refine GL_unit (PU_store (((TurnV.l0.comp Land.l1).comp (Lens.arr (n := 9) Thing.fl (by first | omega | (rw [hI13]; first | exact hb.1 | exact hb.2) | (dsimp only; omega)) (by first | omega | (rw [hI13]; first | exact hb.1 | exact hb.2) | (dsimp only; omega)))).comp Thing.l3) rfl rfl rfl sz3 rfl .head) ?_
   refine GL_hand0 rfl ⟨?_, ?_⟩
   · exact (Pk (Pk (Pk (Pk (Pk (Pk (Pk (Pk (Pk (Pk (Pk (Pk (Pk (Pk (Pk (Pk (Pk Pend_nil)))))))))))))))))
   refine Plan_end (by kernel_rfl) ?_
   refine GQ_sub (.t4 0 7 8 9) ?_
   refine GQ_block ?_
   refine GQ_then ?_
   refine G_swap (fun _ => .head) (congrArg (fun q => TurnV.enc ⟨q, _, _⟩) (Turn.dropOne_t X hx.1 hx.2 c2)) ?_
   refine G_region ?_
   refine Gt (PS_add rfl rfl (IntWalk.i64_in _ (by first | omega | (rw [hI13]; first | exact hb.1 | exact hb.2) | (dsimp only; omega)))) ?_
   refine Gm rfl ?_
   refine GL_nil (GQ_sub (.t4 0 7 8 9) ?_)
   refine GQ_next2_ (k + 1) _ ?_ ?_ (.t4 9 0 7 8) (.refl _)
   · exact ⟨by omega, by rw [hI12, Turn.dropAll_step hI11 (by omega)], hI13, by omega⟩
   · omega
  ·
   have c2p := c2; try simp only [kk] at c2p
   refine G_skip ?_
   refine GQ_sub (.t5 0 4 7 8 9) ?_
   refine GQ_then ?_
   refine G_planN (N := 19) [0, 0, 0, 0, 8, 24, 56, 4, 132, 388, 1020, 2044, 4092, 8189, 16381, 32765, 65535, 131071, 262143] mix (by kernel_rfl) rfl ?_
   refine Pf 0 rfl (PS_move rfl) (Pf 1 rfl (PS_move rfl) (Pf 2 rfl (PS_move rfl) (Pf 3 rfl (PS_move rfl) (Pf 4 rfl (PSn rfl) (Pf 5 rfl (PSf fa53_1 rfl) ?_)))))
   refine Pf 6 rfl (PS_load rfl tys3 (.head _) TurnV.l1 rfl rfl) ?_
   refine Pf 7 rfl (PSn rfl) (Pf 8 rfl (PSf fa53_0 rfl) (Pf 9 rfl (PSf fa34_2 rfl) ?_))
   refine Pf 10 rfl (PS_indexAddr ia32 rfl rfl (by first | omega | (rw [hI13]; first | exact hb.1 | exact hb.2) | (dsimp only; omega)) (by first | omega | (rw [hI13]; first | exact hb.1 | exact hb.2) | (dsimp only; omega))) ?_
   refine Pf 11 rfl (PSf fa31_3 rfl) ?_
   refine Pf 12 rfl (PS_load rfl tys3 (.head _) (((TurnV.l0.comp Land.l2).comp (Lens.arr (n := 6) Being.fl (by first | omega | (rw [hI13]; first | exact hb.1 | exact hb.2) | (dsimp only; omega)) (by first | omega | (rw [hI13]; first | exact hb.1 | exact hb.2) | (dsimp only; omega)))).comp Being.l3) rfl rfl) ?_
   refine Pf 13 rfl (PSn rfl) (Pf 14 rfl (PSf fa28_2 rfl) ?_)
   refine Plan_chain 15 rfl (by kernel_rfl) ?_
   refine GL_unit (PU_store (((TurnV.l0.comp Land.l1).comp (Lens.arr (n := 9) Thing.fl (by first | omega | (rw [hI13]; first | exact hb.1 | exact hb.2) | (dsimp only; omega)) (by first | omega | (rw [hI13]; first | exact hb.1 | exact hb.2) | (dsimp only; omega)))).comp Thing.l2) rfl rfl rfl sz3 rfl .head) ?_
   refine GL_hand0 rfl ⟨?_, ?_⟩
   · exact (Pk (Pk (Pk (Pk (Pk (Pk (Pk (Pk (Pk (Pk (Pk (Pk (Pk (Po rfl (PS_move rfl) rfl rfl (Pk Pend_nil)))))))))))))))
   refine Pf 16 rfl (PSn rfl) (Pf 17 rfl (PSf fa28_3 rfl) ?_)
   refine Plan_chain 18 rfl (by kernel_rfl) ?_
   refine GL_unit (PU_store (((TurnV.l0.comp Land.l1).comp (Lens.arr (n := 9) Thing.fl (by first | omega | (rw [hI13]; first | exact hb.1 | exact hb.2) | (dsimp only; omega)) (by first | omega | (rw [hI13]; first | exact hb.1 | exact hb.2) | (dsimp only; omega)))).comp Thing.l3) rfl rfl rfl sz3 rfl .head) ?_
   refine GL_hand0 rfl ⟨?_, ?_⟩
   · exact (Pk (Pk (Pk (Pk (Pk (Pk (Pk (Pk (Pk (Pk (Pk (Pk (Pk (Pk (Pk (Pk (Pk Pend_nil)))))))))))))))))
   refine Plan_end (by kernel_rfl) ?_
   refine GQ_sub (.t4 0 7 8 9) ?_
   refine GQ_block ?_
   refine GQ_then ?_
   refine G_swap (fun _ => .head) (congrArg (fun q => TurnV.enc ⟨q, _, _⟩) (Turn.dropOne_f X hx.1 hx.2 c2)) ?_
   refine G_region ?_
   refine Gt (PS_add rfl rfl (IntWalk.i64_in _ (by first | omega | (rw [hI13]; first | exact hb.1 | exact hb.2) | (dsimp only; omega)))) ?_
   refine Gm rfl ?_
   refine GL_nil (GQ_sub (.t4 0 7 8 9) ?_)
   refine GQ_next2_ (k + 1) _ ?_ ?_ (.t4 9 0 7 8) (.refl _)
   · exact ⟨by omega, by rw [hI12, Turn.dropAll_step hI11 (by omega)], hI13, by omega⟩
   · omega
 ·
  have c1p := c1; try simp only [kk] at c1p
  obtain rfl : k = (T.own.length : Int) := by omega
  rw [Turn.drop_end] at hI12
  have hY : X = T.dropAll T.own := hI12.symm
  refine G_exit ?_
  refine GQ_then_exit ?_
  refine GQ_then_exit ?_
  refine GQ_block_exit ?_
  refine GQ_sub (.t1 0) ?_
  refine GQ_then ?_
  refine Gss ?_
  refine Gm rfl ?_
  refine GL_nil ?_
  refine GQ_then ?_
  refine G_block ?_
  refine G_subF (.t2 45 0) ?_
  refine G_loop2_ (fun (k : Int) (Y : Turn) => 0 ≤ k ∧ k ≤ 6 ∧ Y = (T.dropAll T.own).calmK k.toNat ∧ Y.b = T.b) (fun (k : Int) (Y : Turn) => (6 - k).toNat) (fun (k : Int) (Y : Turn) => [(45, .int .i64 k)]) (fun (k : Int) (Y : Turn) => [Res.box b 53 (TurnV.enc ⟨Y.w, Y.b, g⟩)]) (0) (_) ?_ rfl rfl (fun k Y hI2 => ?_)
  · exact ⟨by omega, by omega, hY, hI13⟩
  obtain ⟨hI21, hI22, hI23, hI24⟩ := hI2
  refine Gs ?_
  refine Gt (PS_lss rfl rfl) ?_
  refine GL_nil ?_
  refine GQ_then ?_
  refine G_seq ?_
  refine Gc (fun c3 => ?_) (fun c3 => ?_)
  ·
   have c3p := c3; try simp only [kk] at c3p
   refine G_skip ?_
   refine GQ_sub (.t2 0 45) ?_
   refine GQ_then ?_
   refine G_seq ?_
   refine G_block ?_
   refine Gs ?_
   refine Gm rfl (Ga rfl ?_)
   refine Gn (.t3 0 5 45) ?_
   refine G_seq ?_
   refine G_planN (N := 14) [0, 0, 1, 5, 13, 31, 63, 127, 0, 256, 768, 1792, 3840, 8191] mix (by kernel_rfl) rfl ?_
   refine Pf 0 rfl (PS_move rfl) (Pf 1 rfl (PS_move rfl) (Pf 2 rfl (PSn rfl) (Pf 3 rfl (PSf fa53_0 rfl) (Pf 4 rfl (PSf fa34_2 rfl) ?_))))
   refine Pf 5 rfl (PS_indexAddr ia32 rfl rfl (by first | omega | (rw [hI13]; first | exact hb.1 | exact hb.2) | (dsimp only; omega)) (by first | omega | (rw [hI13]; first | exact hb.1 | exact hb.2) | (dsimp only; omega))) ?_
   refine Pf 6 rfl (PSf fa31_5 rfl) ?_
   refine Pf 7 rfl (PS_load rfl tys3 (.head _) (((TurnV.l0.comp Land.l2).comp (Lens.arr (n := 6) Being.fl (by first | omega | (rw [hI13]; first | exact hb.1 | exact hb.2) | (dsimp only; omega)) (by first | omega | (rw [hI13]; first | exact hb.1 | exact hb.2) | (dsimp only; omega)))).comp Being.l5) rfl rfl) ?_
   refine Pf 8 rfl (PS_move rfl) (Pf 9 rfl (PSn rfl) (Pf 10 rfl (PSf fa53_1 rfl) ?_))
   refine Pf 11 rfl (PS_load rfl tys3 (.head _) TurnV.l1 rfl rfl) ?_
   refine Pf 12 rfl (PS_add rfl rfl (IntWalk.i64_in _ (by first | omega | (rw [hI13]; first | exact hb.1 | exact hb.2) | (dsimp only; omega)))) ?_
   refine Pf 13 rfl (PS_eql rfl rfl) ?_
   refine Plan_end (by kernel_rfl) ?_
   refine GQ_sub (.t4 0 5 45 61) ?_
   refine GQ_then ?_
   refine Gc (fun c4 => ?_) (fun c4 => ?_)
   ·
    have c4p := c4; try simp only [kk] at c4p
    have hcb : decide ((Y.w.beings.at k).foe = (T.dropAll T.own).b + 1) = true := by rw [(Turn.dropAll_b T.own T).1, ← hI24]; exact c4
    refine G_region ?_
    refine Gm rfl (Gm rfl (Gt (PSn rfl) (Gt (PSf fa53_0 rfl) (Gt (PSf fa34_2 rfl) ?_))))
    refine Gt (PS_indexAddr ia32 rfl rfl (by first | omega | (rw [hI13]; first | exact hb.1 | exact hb.2) | (dsimp only; omega)) (by first | omega | (rw [hI13]; first | exact hb.1 | exact hb.2) | (dsimp only; omega))) ?_
    refine Gt (PSf fa31_5 rfl) ?_
    refine GL_unit (PU_store (((TurnV.l0.comp Land.l2).comp (Lens.arr (n := 6) Being.fl (by first | omega | (rw [hI13]; first | exact hb.1 | exact hb.2) | (dsimp only; omega)) (by first | omega | (rw [hI13]; first | exact hb.1 | exact hb.2) | (dsimp only; omega)))).comp Being.l5) rfl rfl rfl sz3 rfl .head) ?_
    refine GL_nil (GQ_sub (.t2 0 45) ?_)
    refine GQ_block ?_
    refine GQ_then ?_
    refine G_region ?_
    refine Gt (PS_add rfl rfl (IntWalk.i64_in _ (by first | omega | (rw [hI13]; first | exact hb.1 | exact hb.2) | (dsimp only; omega)))) ?_
    refine Gm rfl ?_
    refine GL_nil (GQ_sub (.t2 0 45) ?_)
    refine GQ_next2_ (k + 1) (Y.setFoe k 0) ?_ ?_ (.t2 45 0) (.refl _)
    · exact ⟨by omega, by omega, by rw [Turn.calmK_step hI21, ← hI23, if_t hcb], hI24⟩
    · omega
   ·
    have c4p := c4; try simp only [kk] at c4p
    have hcb : decide ((Y.w.beings.at k).foe = (T.dropAll T.own).b + 1) = false := by rw [(Turn.dropAll_b T.own T).1, ← hI24]; exact c4
    refine G_skip ?_
    refine GQ_sub (.t2 0 45) ?_
    refine GQ_block ?_
    refine GQ_then ?_
    refine G_region ?_
    refine Gt (PS_add rfl rfl (IntWalk.i64_in _ (by first | omega | (rw [hI13]; first | exact hb.1 | exact hb.2) | (dsimp only; omega)))) ?_
    refine Gm rfl ?_
    refine GL_nil (GQ_sub (.t2 0 45) ?_)
    refine GQ_next2_ (k + 1) (Y) ?_ ?_ (.t2 45 0) (.refl _)
    · exact ⟨by omega, by omega, by rw [Turn.calmK_step hI21, ← hI23, if_f hcb], hI24⟩
    · omega
  ·
   have c3p := c3; try simp only [kk] at c3p
   obtain rfl : k = 6 := by omega
   refine G_exit ?_
   refine GQ_then_exit ?_
   refine GQ_then_exit ?_
   refine GQ_block_exit ?_
   refine GQ_sub (.t1 0) ?_
   refine GQ_then ?_
   refine G_planN (N := 11) [0, 0, 2, 6, 14, 1, 33, 97, 255, 511, 1023] mix (by kernel_rfl) rfl ?_
   refine Pf 0 rfl (PS_move rfl) (Pf 1 rfl (PS_move rfl) (Pf 2 rfl (PSn rfl) (Pf 3 rfl (PSf fa53_1 rfl) ?_)))
   refine Pf 4 rfl (PS_load rfl tys3 (.head _) TurnV.l1 rfl rfl) ?_
   refine Pf 5 rfl (PSn rfl) (Pf 6 rfl (PSf fa53_0 rfl) (Pf 7 rfl (PSf fa34_2 rfl) ?_))
   refine Pf 8 rfl (PS_indexAddr ia32 rfl rfl (by first | omega | (rw [hI13]; first | exact hb.1 | exact hb.2) | (dsimp only; omega)) (by first | omega | (rw [hI13]; first | exact hb.1 | exact hb.2) | (dsimp only; omega))) ?_
   refine Pf 9 rfl (PSf fa31_5 rfl) ?_
   refine Plan_chain 10 rfl (by kernel_rfl) ?_
   refine GL_unit (PU_store (((TurnV.l0.comp Land.l2).comp (Lens.arr (n := 6) Being.fl (by first | omega | (rw [hI13]; first | exact hb.1 | exact hb.2) | (dsimp only; omega)) (by first | omega | (rw [hI13]; first | exact hb.1 | exact hb.2) | (dsimp only; omega)))).comp Being.l5) rfl rfl rfl sz3 rfl .head) ?_
   refine GL_hand0 rfl ⟨?_, ?_⟩
   · exact (Pk (Pk (Pk (Pk (Pk (Pk (Pk (Pk (Pk (Pk Pend_nil))))))))))
   refine Plan_end (by kernel_rfl) ?_
   refine GQ_end rfl .nil ?_
   intro w1 hS
   have hS := (hS.perm (Pulls.perm (.cons .head .nil))).headL
   have hq : T.fall = Y.setFoe Y.b 0 := by rw [hI24, hI23]; unfold Turn.fall; rfl
   exact ⟨_, ⟨_, rfl, rfl, by rw [hq, ← hI24]; rfl⟩, hS⟩
theorem rules_turn_fade_spec (b : Nat) (T : Turn) (g : Hd) (hg : g.len = T.out.length) (hF : T.Fit) (hn : T.out.length ≤ 90000) : Ctr Tryz.prog 30 #[.pointer (some ⟨b, 0, none⟩)] [Res.box b 53 (TurnV.enc ⟨T.w, T.b, g⟩), Res.own g 60 16 (T.out.flatMap Ing.Event.enc)] (fun v B => ∃ g' : Hd, v = .tuple #[] ∧ g'.len = (T.fade).out.length ∧ B = [Res.box b 53 (TurnV.enc ⟨(T.fade).w, (T.fade).b, g'⟩), Res.own g' 60 16 ((T.fade).out.flatMap Ing.Event.enc)]) := by
 intro w hS0
 have hb := hF.b
 have hr := hF.room
 refine Ret_body _ _ Tryz.func30 rfl rfl rfl (hS0) ?_
 refine Gs ?_
 refine Gm rfl ?_
 refine GL_callL rfl cf17 (.cons rfl (.cons rfl .nil)) (.cons .head (.cons .head .nil)) (rules_turn_event_spec _ T _ 18 hg hb (by omega)) (fun v1 B hv => ?_)
 obtain ⟨y2, rfl, y3, rfl⟩ := hv
 refine Gn (.t1 0) ?_
 refine Gs ?_
 refine Gm rfl ?_
 refine GL_callL rfl cf55 (.cons rfl .nil) (.cons .head .nil) (rules_turn_fall_spec _ (T.kind 18) _ (hF.of_w rfl rfl)) (fun v4 B hv => ?_)
 obtain ⟨y5, y6, rfl, rfl⟩ := hv
 refine Gn (.t1 0) ?_
 refine G_planN (N := 11) [0, 0, 2, 6, 14, 0, 1, 65, 193, 511, 1023] mix (by kernel_rfl) rfl ?_
 refine Pf 0 rfl (PS_move rfl) (Pf 1 rfl (PS_move rfl) (Pf 2 rfl (PSn rfl) (Pf 3 rfl (PSf fa53_1 rfl) ?_)))
 refine Pf 4 rfl (PS_load rfl tys3 (.head _) TurnV.l1 rfl rfl) ?_
 refine Pf 5 rfl (PS_build pl31 zv31 rfl .nil) ?_
 refine Pf 6 rfl (PSn rfl) (Pf 7 rfl (PSf fa53_0 rfl) (Pf 8 rfl (PSf fa34_2 rfl) ?_))
 refine Pf 9 rfl (PS_indexAddr ia32 rfl rfl (by first | exact hb.1 | exact hb.2 | omega | (dsimp only; omega)) (by first | exact hb.1 | exact hb.2 | omega | (dsimp only; omega))) ?_
 refine Plan_chain 10 rfl (by kernel_rfl) ?_
 refine GL_unit (PU_store ((TurnV.l0.comp Land.l2).comp (Lens.arr (n := 6) Being.fl (by first | exact hb.1 | exact hb.2 | omega | (dsimp only; omega)) (by first | exact hb.1 | exact hb.2 | omega | (dsimp only; omega)))) rfl rfl rfl sz31 rfl .head) ?_
 refine GL_hand0 rfl ⟨?_, ?_⟩
 · exact (Pk (Pk (Pk (Pk (Pk (Pk (Pk (Pk (Pk (Pk Pend_nil))))))))))
 refine Plan_end (by kernel_rfl) ?_
 refine GQ_end rfl .nil ?_
 intro w1 hS
 have hS := (hS.perm (Pulls.perm (.cons .head (.cons .head .nil)))).headL
 obtain ⟨hf1, hf2, hf3⟩ := T.fade_b
 refine ⟨_, ⟨?gq, rfl, ?hl, ?hB⟩, hS⟩
 case hB => rw [hf1, hf2, hf3, ← y6]
 case hl => rw [hf2]; exact y3
theorem internal_stringslite_HasPrefix_spec (s p : Str) (w : World) : Ret Tryz.prog 96 #[vstr s, vstr p] w fun v w' => v = .bool (decide ((p.length : Int) ≤ (s.length : Int)) && decide (s.take p.length = p)) ∧ Keep w w' := by
 refine Ret_body [] [] Tryz.func96 rfl rfl rfl (St.start w []) ?_
 refine Gs ?_
 refine Ga rfl ?_
 refine Gn (.t2 0 1) ?_
 refine Gs ?_
 refine Gm rfl ?_
 refine Gt (PS_len_str rfl Tryz.underlying9 rfl) ?_
 refine Gm rfl ?_
 refine Gt (PS_len_str rfl Tryz.underlying9 rfl) ?_
 refine Gt (PS_geq rfl rfl) ?_
 refine Gm rfl ?_
 refine GL_gt (t := 10) rfl rfl rfl (fun q => PS_move rfl) ?_
 refine GL_gt (t := 10) rfl rfl rfl (fun q => PS_move rfl) ?_
 refine GL_gt (t := 10) rfl rfl rfl (fun q => PS_len_str rfl Tryz.underlying9 (cvE rfl q)) ?_
 refine GL_gt (t := 10) rfl rfl rfl (fun q => by have q1 := q; (try simp at q1); exact PS_subSh Tryz.underlying9 (cvE rfl q) (cvE rfl q) (by omega) (by omega)) ?_
 refine GL_gt (t := 10) rfl rfl rfl (fun q => PS_move rfl) ?_
 refine GL_gt (t := 10) rfl rfl rfl (fun q => PS_eql_str (cvE rfl q) (cvE rfl q)) ?_
 refine Gt (PS_and rfl rfl (fun h => h)) ?_
 refine Ga rfl ?_
 refine Gn (.t1 4) ?_
 refine G_ret ?_
 refine GQ_ret rfl (.tmp rfl .nil) ?_
 intro w1 hS; refine ⟨?_, hS.toKeep⟩; rfl
theorem internal_stringslite_CutPrefix_spec (s p : Str) (w : World) : Ret Tryz.prog 89 #[vstr s, vstr p] w fun v w' => v = .tuple #[vstr (Words.cutP s p).1, .bool (Words.cutP s p).2] ∧ Keep w w' := by
 refine Ret_body [] [] Tryz.func89 rfl rfl rfl (St.start w []) ?_
 refine Gs ?_
 refine Ga rfl (Ga rfl ?_)
 refine Gn (.t2 0 1) ?_
 refine Gss ?_
 refine Gm rfl (Gm rfl ?_)
 refine GL_pure rfl cf96 (.cons rfl (.cons rfl .nil)) (fun w hS => internal_stringslite_HasPrefix_spec _ _ w) ?_
 refine Gt (PS_not rfl) ?_
 refine Gn (.t3 0 1 9) ?_
 refine Gc (fun c1 => ?_) (fun c1 => ?_)
 ·
  have c1p := c1; try simp only [kk] at c1p
  refine Gs ?_
  refine Gm rfl (Ga rfl (Ga rfl ?_))
  refine Gn (.t2 4 5) ?_
  refine G_ret ?_
  refine GQ_then_ret ?_
  refine GQ_ret rfl (.tmp rfl (.tmp rfl .nil)) ?_
  intro w1 hS; refine ⟨?_, hS.toKeep⟩; rw [show Words.cutP s p = _ from (if_t c1)]; rfl
 ·
  have c1p := c1; try simp only [kk] at c1p
  have hle : p.length ≤ s.length := by simp at c1; omega
  refine G_skip ?_
  refine GQ_sub (.t2 0 1) ?_
  refine GQ_then ?_
  refine Gs ?_
  refine Gm rfl (Gm rfl ?_)
  refine Gt (PS_len_str rfl Tryz.underlying9 rfl) ?_
  refine Gt (PS_subSl Tryz.underlying9 rfl rfl (by omega) (by omega)) ?_
  refine Ga rfl (Ga rfl ?_)
  refine Gn (.t2 4 5) ?_
  refine G_ret ?_
  refine GQ_ret rfl (.tmp rfl (.tmp rfl .nil)) ?_
  intro w1 hS; refine ⟨?_, hS.toKeep⟩; rw [show Words.cutP s p = _ from (if_f c1)]; rfl
theorem strings_CutPrefix_spec (s p : Str) (w : World) : Ret Tryz.prog 84 #[vstr s, vstr p] w fun v w' => v = .tuple #[vstr (Words.cutP s p).1, .bool (Words.cutP s p).2] ∧ Keep w w' := by
 refine Ret_body [] [] Tryz.func84 rfl rfl rfl (St.start w []) ?_
 refine Gs ?_
 refine Ga rfl (Ga rfl ?_)
 refine Gn (.t2 0 1) ?_
 refine Gs ?_
 refine Gm rfl (Gm rfl ?_)
 refine GL_pure rfl cf89 (.cons rfl (.cons rfl .nil)) (fun w hS => internal_stringslite_CutPrefix_spec _ _ w) ?_
 refine Gt (PS_extract rfl rfl) ?_
 refine Gt (PS_extract rfl rfl) ?_
 refine Ga rfl (Ga rfl ?_)
 refine Gn (.t2 4 5) ?_
 refine G_ret ?_
 refine GQ_ret rfl (.tmp rfl (.tmp rfl .nil)) ?_
 intro w1 hS; refine ⟨?_, hS.toKeep⟩; rfl
theorem internal_stringslite_IndexByte_spec (s : Str) (c : UInt8) (w : World) : Ret Tryz.prog 106 #[vstr s, .int .u8 (c.toNat : Int)] w fun v w' => v = .int .i64 (Lib.indexByte s c) ∧ Keep w w' := by
 refine Ret_body [] [] Tryz.func106 rfl rfl rfl (St.start w []) ?_
 refine Gs ?_
 refine Ga rfl ?_
 refine Gn (.t2 0 1) ?_
 refine Gs ?_
 refine Gm rfl (Gm rfl ?_)
 refine Gt (PS_indexByteString Tryz.func115 (by kernel_rfl) (by kernel_rfl) (by kernel_rfl) (by kernel_rfl) rfl rfl) ?_
 refine Ga rfl ?_
 refine Gn (.t1 4) ?_
 refine G_ret ?_
 refine GQ_ret rfl (.tmp rfl .nil) ?_
 intro w1 hS; refine ⟨?_, hS.toKeep⟩; rfl
theorem internal_stringslite_Index_spec (s : Str) (c : UInt8) (w : World) : Ret Tryz.prog 97 #[vstr s, vstr [c]] w fun v w' => v = .int .i64 (Lib.indexByte s c) ∧ Keep w w' := by
 refine Ret_body [] [] Tryz.func97 rfl rfl rfl (St.start w []) ?_
 refine Gs ?_
 refine Ga rfl ?_
 refine Gn (.t2 0 1) ?_
 refine Gs ?_
 refine Gm rfl ?_
 refine Gt (PS_len_str rfl Tryz.underlying9 rfl) ?_
 refine Ga rfl ?_
 refine Gn (.t3 0 1 5) ?_
 refine G_seq ?_
 refine G_block ?_
 refine Gs ?_
 refine Gm rfl ?_
 refine Gt (PS_eql rfl rfl) ?_
 refine Gm rfl ?_
 refine GL_gf (t := 19) rfl rfl rfl (fun q => PS_move rfl) ?_
 refine GL_gf (t := 19) rfl rfl rfl (fun q => PS_move rfl) ?_
 refine GL_gf (t := 19) rfl rfl rfl (fun q => PS_eql_str (cF rfl q) (cF rfl q)) ?_
 refine Gt (PS_or rfl rfl (fun h => by rw [h]; rfl)) ?_
 refine Ga rfl ?_
 refine Gn (.t4 0 1 5 16) ?_
 refine Gc (fun c1 => ?_) (fun c1 => ?_)
 ·
  have c1p := c1; try simp only [kk] at c1p
  refine Gs ?_
  refine Ga rfl ?_
  refine Gn (.t1 4) ?_
  refine G_ret ?_
  refine GQ_block_ret ?_
  refine GQ_then_ret ?_
  refine GQ_ret rfl (.tmp rfl .nil) ?_
  intro w1 hS; refine ⟨?_, hS.toKeep⟩; have e : [c] = s := by simpa using c1
  rw [← e, Page.index_one]; rfl
 ·
  have c1p := c1; try simp only [kk] at c1p
  refine Gs ?_
  refine Gm rfl ?_
  refine Gt (PS_eql rfl rfl) ?_
  refine Ga rfl ?_
  refine Gn (.t4 0 1 5 24) ?_
  refine G_true rfl (by simp) ?_
  refine Gs ?_
  refine Gm rfl (Gm rfl ?_)
  refine Gt (PS_index_str Tryz.underlying9 rfl rfl (by decide) (by first | omega | simp)) ?_
  refine GL_pure rfl cf106 (.cons rfl (.cons rfl .nil)) (fun w hS => internal_stringslite_IndexByte_spec _ _ w) ?_
  refine Ga rfl ?_
  refine Gn (.t1 4) ?_
  refine G_ret ?_
  refine GQ_block_ret ?_
  refine GQ_then_ret ?_
  refine GQ_ret rfl (.tmp rfl .nil) ?_
  intro w1 hS; refine ⟨?_, hS.toKeep⟩; rfl
theorem strings_Index_spec (s : Str) (c : UInt8) (w : World) : Ret Tryz.prog 90 #[vstr s, vstr [c]] w fun v w' => v = .int .i64 (Lib.indexByte s c) ∧ Keep w w' := by
 refine Ret_body [] [] Tryz.func90 rfl rfl rfl (St.start w []) ?_
 refine Gs ?_
 refine Ga rfl ?_
 refine Gn (.t2 0 1) ?_
 refine Gs ?_
 refine Gm rfl (Gm rfl ?_)
 refine GL_pure rfl cf97 (.cons rfl (.cons rfl .nil)) (fun w hS => internal_stringslite_Index_spec _ _ w) ?_
 refine Ga rfl ?_
 refine Gn (.t1 4) ?_
 refine G_ret ?_
 refine GQ_ret rfl (.tmp rfl .nil) ?_
 intro w1 hS; refine ⟨?_, hS.toKeep⟩; rfl
theorem strings_Contains_spec (s : Str) (c : UInt8) (w : World) : Ret Tryz.prog 85 #[vstr s, vstr [c]] w fun v w' => v = .bool (decide (0 ≤ Lib.indexByte s c)) ∧ Keep w w' := by
 refine Ret_body [] [] Tryz.func85 rfl rfl rfl (St.start w []) ?_
 refine Gs ?_
 refine Ga rfl ?_
 refine Gn (.t2 0 1) ?_
 refine Gs ?_
 refine Gm rfl (Gm rfl ?_)
 refine GL_pure rfl cf90 (.cons rfl (.cons rfl .nil)) (fun w hS => strings_Index_spec _ c w) ?_
 refine Gt (PS_geq rfl rfl) ?_
 refine Ga rfl ?_
 refine Gn (.t1 4) ?_
 refine G_ret ?_
 refine GQ_ret rfl (.tmp rfl .nil) ?_
 intro w1 hS; refine ⟨?_, hS.toKeep⟩; rfl
theorem internal_stringslite_Cut_spec (s : Str) (c : UInt8) (hs : s.length ≤ 10000000) (w : World) : Ret Tryz.prog 91 #[vstr s, vstr [c]] w fun v w' => v = .tuple #[vstr (Words.cut c s).1, vstr (Words.cut c s).2.1, .bool (Words.cut c s).2.2] ∧ Keep w w' := by
 refine Ret_body [] [] Tryz.func91 rfl rfl rfl (St.start w []) ?_
 refine Gs ?_
 refine Ga rfl (Ga rfl (Ga rfl ?_))
 refine Gn (.t2 0 1) ?_
 refine Gss ?_
 refine Gm rfl (Gm rfl ?_)
 refine GL_pure rfl cf97 (.cons rfl (.cons rfl .nil)) (fun w hS => internal_stringslite_Index_spec _ c w) ?_
 refine Ga rfl ?_
 refine Gn (.t3 0 1 7) ?_
 refine Gs ?_
 refine Gm rfl ?_
 refine Gt (PS_geq rfl rfl) ?_
 refine Gn (.t4 0 1 7 12) ?_
 refine Gc (fun c1 => ?_) (fun c1 => ?_)
 ·
  have c1p := c1; try simp only [kk] at c1p
  have hm := Words.idx_lt (c := c) (s := s) (by simpa using c1)
  refine G_seq ?_
  refine G_planN (N := 12) [0, 0, 3, 0, 0, 0, 32, 112, 248, 7, 1023, 2047] mix (by kernel_rfl) rfl ?_
  refine Pf 0 rfl (PS_move rfl) (Pf 1 rfl (PS_move rfl) (Pf 3 rfl (PS_move rfl) (Pf 4 rfl (PS_move rfl) (Pf 5 rfl (PS_move rfl) ?_))))
  refine Pf 6 rfl (PS_len_str rfl Tryz.underlying9 rfl) ?_
  refine Pf 7 rfl (PS_add rfl rfl (IntWalk.i64_in _ (by (try simp only [List.length_cons, List.length_nil]); omega))) ?_
  refine Plan_two 2 8 rfl rfl (by kernel_rfl) ?_ ?_
  ·
   refine Gt (PS_subSh Tryz.underlying9 rfl rfl (by (try simp only [List.length_cons, List.length_nil]); omega) (by (try simp only [List.length_cons, List.length_nil]); omega)) ?_
   refine GL_hand rfl ⟨?_, ?_⟩
   · exact (Po rfl (PS_add rfl rfl (IntWalk.i64_in _ (by (try simp only [List.length_cons, List.length_nil]); omega))) rfl rfl (Po rfl (PS_len_str rfl Tryz.underlying9 rfl) rfl rfl (Po rfl (PS_move rfl) rfl rfl (Po rfl (PS_move rfl) rfl rfl (Po rfl (PS_move rfl) rfl rfl (Pk (Pk Pend_nil)))))))
   refine Pf 9 rfl (PS_assign rfl) ?_
   refine Plan_chain 8 rfl (by kernel_rfl) ?_
   refine Gt (PS_subSl Tryz.underlying9 rfl rfl (by (try simp only [List.length_cons, List.length_nil]); omega) (by (try simp only [List.length_cons, List.length_nil]); omega)) ?_
   refine GL_hand rfl ⟨?_, ?_⟩
   · exact (Po rfl (PS_assign rfl) rfl rfl (Pk (Pk (Pk (Pk (Pk (Po rfl (PS_move rfl) rfl rfl (Po rfl (PS_move rfl) rfl rfl Pend_nil))))))))
   refine Pf 10 rfl (PS_assign rfl) ?_
   refine Pf 11 rfl (PS_assign rfl) ?_
   refine Plan_end (by kernel_rfl) ?_
   refine GQ_sub (.t3 4 5 6) ?_
   refine GQ_then ?_
   refine G_ret ?_
   refine GQ_then_ret ?_
   refine GQ_ret rfl (.tmp rfl (.tmp rfl (.tmp rfl .nil))) ?_
   intro w1 hS; refine ⟨?_, hS.toKeep⟩; rw [show Words.cut c s = _ from (if_t c1)]; rfl
  ·
   refine Gt (PS_subSl Tryz.underlying9 rfl rfl (by (try simp only [List.length_cons, List.length_nil]); omega) (by (try simp only [List.length_cons, List.length_nil]); omega)) ?_
   refine GL_hand rfl ⟨?_, ?_⟩
   · exact (Pk (Pk (Pk (Pk (Pk (Po rfl (PS_move rfl) rfl rfl (Po rfl (PS_move rfl) rfl rfl Pend_nil)))))))
   refine Plan_chain 2 rfl (by kernel_rfl) ?_
   refine Gt (PS_subSh Tryz.underlying9 rfl rfl (by (try simp only [List.length_cons, List.length_nil]); omega) (by (try simp only [List.length_cons, List.length_nil]); omega)) ?_
   refine GL_hand rfl ⟨?_, ?_⟩
   · exact (Po rfl (PS_add rfl rfl (IntWalk.i64_in _ (by (try simp only [List.length_cons, List.length_nil]); omega))) rfl rfl (Po rfl (PS_len_str rfl Tryz.underlying9 rfl) rfl rfl (Po rfl (PS_move rfl) rfl rfl (Po rfl (PS_move rfl) rfl rfl (Po rfl (PS_move rfl) rfl rfl (Pk (Pk Pend_nil)))))))
   refine Pf 9 rfl (PS_assign rfl) ?_
   refine Pf 10 rfl (PS_assign rfl) ?_
   refine Pf 11 rfl (PS_assign rfl) ?_
   refine Plan_end (by kernel_rfl) ?_
   refine GQ_sub (.t3 4 5 6) ?_
   refine GQ_then ?_
   refine G_ret ?_
   refine GQ_then_ret ?_
   refine GQ_ret rfl (.tmp rfl (.tmp rfl (.tmp rfl .nil))) ?_
   intro w1 hS; refine ⟨?_, hS.toKeep⟩; rw [show Words.cut c s = _ from (if_t c1)]; rfl
 ·
  have c1p := c1; try simp only [kk] at c1p
  refine G_skip ?_
  refine GQ_sub (.t1 0) ?_
  refine GQ_then ?_
  refine Gs ?_
  refine Gm rfl (Ga rfl (Ga rfl (Ga rfl ?_)))
  refine Gn (.t3 4 5 6) ?_
  refine G_ret ?_
  refine GQ_ret rfl (.tmp rfl (.tmp rfl (.tmp rfl .nil))) ?_
  intro w1 hS; refine ⟨?_, hS.toKeep⟩; rw [show Words.cut c s = _ from (if_f c1)]; rfl
theorem strings_Cut_spec (s : Str) (c : UInt8) (hs : s.length ≤ 10000000) (w : World) : Ret Tryz.prog 86 #[vstr s, vstr [c]] w fun v w' => v = .tuple #[vstr (Words.cut c s).1, vstr (Words.cut c s).2.1, .bool (Words.cut c s).2.2] ∧ Keep w w' := by
 refine Ret_body [] [] Tryz.func86 rfl rfl rfl (St.start w []) ?_
 refine Gs ?_
 refine Ga rfl (Ga rfl (Ga rfl ?_))
 refine Gn (.t2 0 1) ?_
 refine Gs ?_
 refine Gm rfl (Gm rfl ?_)
 refine GL_pure rfl cf91 (.cons rfl (.cons rfl .nil)) (fun w hS => internal_stringslite_Cut_spec _ c hs w) ?_
 refine Gt (PS_extract rfl rfl) ?_
 refine Gt (PS_extract rfl rfl) ?_
 refine Gt (PS_extract rfl rfl) ?_
 refine Ga rfl (Ga rfl (Ga rfl ?_))
 refine Gn (.t3 4 5 6) ?_
 refine G_ret ?_
 refine GQ_ret rfl (.tmp rfl (.tmp rfl (.tmp rfl .nil))) ?_
 intro w1 hS; refine ⟨?_, hS.toKeep⟩; rfl
def laysAtoi_ren : Go.Shelf.Ren := ⟨fun | 172 => 87 | 244 => 92 | 245 => 93 | 247 => 98 | 279 => 99 | 280 => 100 | 281 => 101 | 282 => 102 | 287 => 110 | 316 => 111 | 171 => 113 | 205 => 112 | 321 => 117 | 322 => 118 | 243 => 119 | 246 => 120 | 283 => 121 | 284 => 122 | 285 => 123 | 286 => 124 | 129 => 126 | 317 => 125 | 318 => 127 | 319 => 128 | 320 => 129 | 337 => 130 | 338 => 131 | n => n, fun | 9 => 9 | 3 => 3 | 75 => 106 | 76 => 107 | 4 => 4 | 5 => 5 | 167 => 113 | 37 => 61 | 0 => 0 | 85 => 114 | 2 => 2 | 168 => 116 | 53 => 123 | 175 => 124 | 46 => 122 | 210 => 128 | 127 => 134 | 145 => 137 | 143 => 135 | 21 => 21 | 171 => 143 | 173 => 146 | 212 => 149 | 51 => 130 | 20 => 20 | 213 => 150 | 232 => 153 | 233 => 154 | 80 => 155 | n => n, fun | 15 => 3 | 16 => 4 | 17 => 7 | 18 => 8 | 19 => 9 | n => n⟩
theorem laysAtoi : LaysC.n172 Tryz.prog laysAtoi_ren where
  mixed := by kernel_rfl
  f129 := Tryz.func126.trans (congrArg some (by kernel_rfl))
  f171 := Tryz.func113.trans (congrArg some (by kernel_rfl))
  f172 := Tryz.func87.trans (congrArg some (by kernel_rfl))
  f205 := Tryz.func112.trans (congrArg some (by kernel_rfl))
  f243 := Tryz.func119.trans (congrArg some (by kernel_rfl))
  f244 := Tryz.func92.trans (congrArg some (by kernel_rfl))
  f245 := Tryz.func93.trans (congrArg some (by kernel_rfl))
  f246 := Tryz.func120.trans (congrArg some (by kernel_rfl))
  f247 := Tryz.func98.trans (congrArg some (by kernel_rfl))
  f279 := Tryz.func99.trans (congrArg some (by kernel_rfl))
  f280 := Tryz.func100.trans (congrArg some (by kernel_rfl))
  f281 := Tryz.func101.trans (congrArg some (by kernel_rfl))
  f282 := Tryz.func102.trans (congrArg some (by kernel_rfl))
  f283 := Tryz.func121.trans (congrArg some (by kernel_rfl))
  f284 := Tryz.func122.trans (congrArg some (by kernel_rfl))
  f285 := Tryz.func123.trans (congrArg some (by kernel_rfl))
  f286 := Tryz.func124.trans (congrArg some (by kernel_rfl))
  f287 := Tryz.func110.trans (congrArg some (by kernel_rfl))
  f316 := Tryz.func111.trans (congrArg some (by kernel_rfl))
  f317 := Tryz.func125.trans (congrArg some (by kernel_rfl))
  f318 := Tryz.func127.trans (congrArg some (by kernel_rfl))
  f319 := Tryz.func128.trans (congrArg some (by kernel_rfl))
  f320 := Tryz.func129.trans (congrArg some (by kernel_rfl))
  f321 := Tryz.func117.trans (congrArg some (by kernel_rfl))
  f322 := Tryz.func118.trans (congrArg some (by kernel_rfl))
  f337 := Tryz.func130.trans (congrArg some (by kernel_rfl))
  f338 := Tryz.func131.trans (congrArg some (by kernel_rfl))
  t0 := Tryz.underlying0
  a0 := Tryz.isAgg0
  z0 := Tryz.sizeOf0
  v0 := Tryz.zeroValue0
  t2 := Tryz.underlying2
  a2 := Tryz.isAgg2
  z2 := Tryz.sizeOf2
  v2 := Tryz.zeroValue2
  t3 := Tryz.underlying3
  a3 := Tryz.isAgg3
  z3 := Tryz.sizeOf3
  v3 := Tryz.zeroValue3
  t4 := Tryz.underlying4
  a4 := Tryz.isAgg4
  z4 := Tryz.sizeOf4
  v4 := Tryz.zeroValue4
  t5 := Tryz.underlying5
  a5 := Tryz.isAgg5
  z5 := Tryz.sizeOf5
  v5 := Tryz.zeroValue5
  t9 := Tryz.underlying9
  a9 := Tryz.isAgg9
  z9 := Tryz.sizeOf9
  v9 := Tryz.zeroValue9
  t20 := Tryz.underlying20
  a20 := Tryz.isAgg20
  z20 := Tryz.sizeOf20
  v20 := Tryz.zeroValue20
  t21 := Tryz.underlying21
  a21 := Tryz.isAgg21
  z21 := Tryz.sizeOf21
  v21 := Tryz.zeroValue21
  t37 := Tryz.underlying61
  a37 := Tryz.isAgg61
  z37 := Tryz.sizeOf61
  v37 := Tryz.zeroValue61
  t46 := Tryz.underlying122
  a46 := Tryz.isAgg122
  z46 := Tryz.sizeOf122
  v46 := Tryz.zeroValue122
  t51 := Tryz.underlying130
  a51 := Tryz.isAgg130
  z51 := Tryz.sizeOf130
  v51 := Tryz.zeroValue130
  t53 := Tryz.underlying123
  a53 := Tryz.isAgg123
  z53 := Tryz.sizeOf123
  v53 := Tryz.zeroValue123
  t75 := Tryz.underlying106
  a75 := Tryz.isAgg106
  z75 := Tryz.sizeOf106
  v75 := Tryz.zeroValue106
  t76 := Tryz.underlying107
  a76 := Tryz.isAgg107
  z76 := Tryz.sizeOf107
  v76 := Tryz.zeroValue107
  t85 := Tryz.underlying114
  a85 := Tryz.isAgg114
  z85 := Tryz.sizeOf114
  v85 := Tryz.zeroValue114
  t127 := Tryz.underlying134
  a127 := Tryz.isAgg134
  z127 := Tryz.sizeOf134
  v127 := Tryz.zeroValue134
  t143 := Tryz.underlying135
  a143 := Tryz.isAgg135
  z143 := Tryz.sizeOf135
  v143 := Tryz.zeroValue135
  t145 := Tryz.underlying137
  a145 := Tryz.isAgg137
  z145 := Tryz.sizeOf137
  v145 := Tryz.zeroValue137
  t167 := Tryz.underlying113
  a167 := Tryz.isAgg113
  z167 := Tryz.sizeOf113
  v167 := Tryz.zeroValue113
  t168 := Tryz.underlying116
  a168 := Tryz.isAgg116
  z168 := Tryz.sizeOf116
  v168 := Tryz.zeroValue116
  t171 := Tryz.underlying143
  a171 := Tryz.isAgg143
  z171 := Tryz.sizeOf143
  v171 := Tryz.zeroValue143
  t173 := Tryz.underlying146
  a173 := Tryz.isAgg146
  z173 := Tryz.sizeOf146
  v173 := Tryz.zeroValue146
  t175 := Tryz.underlying124
  a175 := Tryz.isAgg124
  z175 := Tryz.sizeOf124
  v175 := Tryz.zeroValue124
  t210 := Tryz.underlying128
  a210 := Tryz.isAgg128
  z210 := Tryz.sizeOf128
  v210 := Tryz.zeroValue128
  t212 := Tryz.underlying149
  a212 := Tryz.isAgg149
  z212 := Tryz.sizeOf149
  v212 := Tryz.zeroValue149
  t213 := Tryz.underlying150
  a213 := Tryz.isAgg150
  z213 := Tryz.sizeOf150
  t232 := Tryz.underlying153
  a232 := Tryz.isAgg153
  z232 := Tryz.sizeOf153
  v232 := Tryz.zeroValue153
  t233 := Tryz.underlying154
  a233 := Tryz.isAgg154
  z233 := Tryz.sizeOf154
  v233 := Tryz.zeroValue154
  g15 := by kernel_rfl
  g16 := by kernel_rfl
  g17 := by kernel_rfl
  g18 := by kernel_rfl
  g19 := by kernel_rfl
  t80 := Tryz.underlying155
  a80 := Tryz.isAgg155
  z80 := Tryz.sizeOf155
  v80 := Tryz.zeroValue155
  i0 := by kernel_rfl
  i2 := by kernel_rfl
  i3 := by kernel_rfl
  i4 := by kernel_rfl
  i5 := by kernel_rfl
  i9 := by kernel_rfl
  i20 := by kernel_rfl
  i21 := by kernel_rfl
  i37 := by kernel_rfl
  i46 := by kernel_rfl
  i51 := by kernel_rfl
  i53 := by kernel_rfl
  i75 := by kernel_rfl
  i76 := by kernel_rfl
  i80 := by kernel_rfl
  i85 := by kernel_rfl
  i127 := by kernel_rfl
  i143 := by kernel_rfl
  i145 := by kernel_rfl
  i167 := by kernel_rfl
  i168 := by kernel_rfl
  i171 := by kernel_rfl
  i173 := by kernel_rfl
  i175 := by kernel_rfl
  i210 := by kernel_rfl
  i212 := by kernel_rfl
  i232 := by kernel_rfl
  i233 := by kernel_rfl
  m15 := by kernel_rfl
  m16 := by kernel_rfl
  m17 := by kernel_rfl
  m18 := by kernel_rfl
  m19 := by kernel_rfl
  c0 := by kernel_rfl
  c2 := by kernel_rfl
  c3 := by kernel_rfl
  c4 := by kernel_rfl
  c5 := by kernel_rfl
  c9 := by kernel_rfl
  c20 := by kernel_rfl
  c21 := by kernel_rfl
  c37 := by kernel_rfl
  c46 := by kernel_rfl
  c51 := by kernel_rfl
  c53 := by kernel_rfl
  c75 := by kernel_rfl
  c76 := by kernel_rfl
  c80 := by kernel_rfl
  c85 := by kernel_rfl
  c127 := by kernel_rfl
  c143 := by kernel_rfl
  c145 := by kernel_rfl
  c167 := by kernel_rfl
  c168 := by kernel_rfl
  c171 := by kernel_rfl
  c173 := by kernel_rfl
  c175 := by kernel_rfl
  c210 := by kernel_rfl
  c212 := by kernel_rfl
  c213 := by kernel_rfl
  c232 := by kernel_rfl
  c233 := by kernel_rfl
theorem strconv_Atoi_spec (s : Str) (hs : s.length ≤ 10000000) : CtrR Tryz.prog 87 #[vstr s] [] (fun w => GVE 3 w ∧ GVE 4 w) (fun v B => (∃ k : Int, Lib.atoiAll s = .ok k ∧ v = .tuple #[.int .i64 k, .nilIface] ∧ B = []) ∨ (∃ (k : Int) (t : TypeId) (x : Value), (∀ j, Lib.atoiAll s ≠ .ok j) ∧ v = .tuple #[.int .i64 k, .iface t x] ∧ B = [])) :=
  atoi_ctr laysAtoi s hs (by kernel_rfl) (by kernel_rfl)
theorem words_Noun_spec (u : Str) (hu : u.length ≤ 5000000) (w : World) (gl0 : GVE 3 w) (gl1 : GVE 4 w) : Ret Tryz.prog 80 #[vstr u] w fun v w' => v = .tuple #[.int .i64 (Words.noun u).1, vstr (Words.noun u).2.1, .bool (Words.noun u).2.2.1, .int .i64 (Words.noun u).2.2.2] ∧ Keep w w' := by
 have hcut := Words.cut_len 46 u
 refine Ret_body [] [] Tryz.func80 rfl rfl rfl (St.start w []) ?_
 refine Gs ?_
 refine Ga rfl (Ga rfl (Ga rfl (Ga rfl ?_)))
 refine Gn (.t1 0) ?_
 refine Gss ?_
 refine Gm rfl ?_
 refine Gt (PS_eql_str rfl rfl) ?_
 refine Gn (.t2 0 14) ?_
 refine Gc (fun c1 => ?_) (fun c1 => ?_)
 ·
  have c1p := c1; try simp only [kk] at c1p
  refine Gs ?_
  refine Ga rfl (Ga rfl (Ga rfl (Ga rfl ?_)))
  refine Gn (.t4 2 3 4 5) ?_
  refine G_ret ?_
  refine GQ_then_ret ?_
  refine GQ_ret rfl (.tmp rfl (.tmp rfl (.tmp rfl (.tmp rfl .nil)))) ?_
  intro w1 hS; refine ⟨?_, hS.toKeep⟩; rw [show Words.noun u = _ from (if_t c1)]; rfl
 ·
  have c1p := c1; try simp only [kk] at c1p
  refine G_skip ?_
  refine GQ_sub (.t1 0) ?_
  refine GQ_then ?_
  refine Gss ?_
  refine Gm rfl ?_
  refine GL_pure rfl cf84 (.cons rfl (.cons rfl .nil)) (fun w hS => strings_CutPrefix_spec _ _ w) ?_
  refine Gm rfl ?_
  refine Gt (PS_extract rfl rfl) ?_
  refine Gt (PS_extract rfl rfl) ?_
  refine Ga rfl (Ga rfl ?_)
  refine Gn (.t3 0 6 7) ?_
  refine Gs ?_
  refine Gm rfl (Gm rfl ?_)
  refine GL_gt (t := 21) rfl rfl rfl (fun q => PS_move rfl) ?_
  refine GL_gt (t := 21) rfl rfl rfl (fun q => PS_neq_str (cvE rfl q) rfl) ?_
  refine Gt (PS_and rfl rfl (fun h => h)) ?_
  refine Gm rfl ?_
  refine GL_gt (t := 25) rfl rfl rfl (fun q => PS_move rfl) ?_
  refine GL_pgt (t := 25) rfl rfl rfl (fun q => PC_of cf85 (.cons (cvE rfl q) (.cons rfl .nil)) (fun w hS => strings_Contains_spec _ 46 w)) ?_
  refine GL_gt (t := 25) rfl rfl rfl (fun q => PS_not (cvE rfl q)) ?_
  refine Gt (PS_and rfl rfl (fun h => h)) ?_
  refine Gn (.t3 0 6 29) ?_
  refine Gc (fun c2 => ?_) (fun c2 => ?_)
  ·
   have c2p := c2; try simp only [kk] at c2p
   refine Gs ?_
   refine Gm rfl (Ga rfl (Ga rfl (Ga rfl (Ga rfl ?_))))
   refine Gn (.t4 2 3 4 5) ?_
   refine G_ret ?_
   refine GQ_then_ret ?_
   refine GQ_ret rfl (.tmp rfl (.tmp rfl (.tmp rfl (.tmp rfl .nil)))) ?_
   intro w1 hS; refine ⟨?_, hS.toKeep⟩; rw [show Words.noun u = _ from ((if_f c1).trans (if_t c2))]; rfl
  ·
   have c2p := c2; try simp only [kk] at c2p
   refine G_skip ?_
   refine GQ_sub (.t1 0) ?_
   refine GQ_then ?_
   refine Gs ?_
   refine Gm rfl ?_
   refine GL_pure rfl cf86 (.cons rfl (.cons rfl .nil)) (fun w hS => strings_Cut_spec _ 46 (by omega) w) ?_
   refine Gm rfl ?_
   refine Gt (PS_extract rfl rfl) ?_
   refine Gt (PS_extract rfl rfl) ?_
   refine Gt (PS_extract rfl rfl) ?_
   refine Ga rfl (Ga rfl (Ga rfl ?_))
   refine Gn (.t4 0 8 9 10) ?_
   refine Gss ?_
   refine Gm rfl ?_
   refine Gt (PS_not rfl) ?_
   refine Gn (.t4 0 8 9 38) ?_
   refine Gc (fun c3 => ?_) (fun c3 => ?_)
   ·
    have c3p := c3; try simp only [kk] at c3p
    refine Gss ?_
    refine Gm rfl ?_
    refine Gt (PS_eql_str rfl rfl) ?_
    refine Gn (.t2 0 40) ?_
    refine Gc (fun c4 => ?_) (fun c4 => ?_)
    ·
     have c4p := c4; try simp only [kk] at c4p
     refine Gs ?_
     refine Ga rfl (Ga rfl (Ga rfl (Ga rfl ?_)))
     refine Gn (.t4 2 3 4 5) ?_
     refine G_ret ?_
     refine GQ_then_ret ?_
     refine GQ_then_ret ?_
     refine GQ_ret rfl (.tmp rfl (.tmp rfl (.tmp rfl (.tmp rfl .nil)))) ?_
     intro w1 hS; refine ⟨?_, hS.toKeep⟩; rw [show Words.noun u = _ from ((if_f c1).trans ((if_f c2).trans ((if_t c3).trans (if_t c4))))]; rfl
    ·
     have c4p := c4; try simp only [kk] at c4p
     refine G_skip ?_
     refine GQ_sub (.t1 0) ?_
     refine GQ_then ?_
     refine Gs ?_
     refine Gm rfl (Ga rfl (Ga rfl (Ga rfl (Ga rfl ?_))))
     refine Gn (.t4 2 3 4 5) ?_
     refine G_ret ?_
     refine GQ_then_ret ?_
     refine GQ_ret rfl (.tmp rfl (.tmp rfl (.tmp rfl (.tmp rfl .nil)))) ?_
     intro w1 hS; refine ⟨?_, hS.toKeep⟩; rw [show Words.noun u = _ from ((if_f c1).trans ((if_f c2).trans ((if_t c3).trans (if_f c4))))]; rfl
   ·
    have c3p := c3; try simp only [kk] at c3p
    refine G_skip ?_
    refine GQ_sub (.t2 8 9) ?_
    refine GQ_then ?_
    refine Gs ?_
    refine Gm rfl ?_
    refine GL_callR rfl cf87 (.cons rfl .nil) .nil (strconv_Atoi_spec _ (by omega)) (fun w hS => ⟨gl0.st hS, gl1.st hS⟩) (fun v1 B hv => ?_)
    rcases hv with ⟨y2, y3, rfl, rfl⟩ | ⟨y4, y5, y6, y7, rfl, rfl⟩
    ·
     refine Gm rfl ?_
     refine Gt (PS_extract rfl rfl) ?_
     refine Gt (PS_extract rfl rfl) ?_
     refine Ga rfl (Ga rfl ?_)
     refine Gn (.t4 8 9 11 12) ?_
     refine Gss ?_
     refine Gm rfl ?_
     refine Gt (PS_neqi_nil Tryz.underlying106 rfl) ?_
     refine Gm rfl ?_
     refine GL_guard (t := 49) rfl rfl rfl (PS_move rfl) ?_
     refine GL_guard (t := 49) rfl rfl rfl (PS_lss rfl rfl) ?_
     refine Gt (PS_pick_false rfl rfl) ?_
     refine Gm rfl ?_
     refine GL_gf (t := 53) rfl rfl rfl (fun q => PS_move rfl) ?_
     refine GL_gf (t := 53) rfl rfl rfl (fun q => PS_gtr (cF rfl q) rfl) ?_
     refine Gt (PS_or rfl rfl (fun h => by rw [h]; rfl)) ?_
     refine Gm rfl ?_
     refine GL_gf (t := 57) rfl rfl rfl (fun q => PS_move rfl) ?_
     refine GL_gf (t := 57) rfl rfl rfl (fun q => by have q1 := q; (try simp at q1); exact PS_index_str Tryz.underlying9 (cF rfl q) rfl (by decide) (by first | omega | (have hq := Words.atoi_pos (by assumption); omega))) ?_
     refine GL_gf (t := 57) rfl rfl rfl (fun q => PS_lss (cF rfl q) rfl) ?_
     refine Gt (PS_or rfl rfl (fun h => by rw [h]; rfl)) ?_
     refine Gm rfl ?_
     refine GL_gf (t := 62) rfl rfl rfl (fun q => PS_move rfl) ?_
     refine GL_gf (t := 62) rfl rfl rfl (fun q => by have q1 := q; (try simp at q1); exact PS_index_str Tryz.underlying9 (cF rfl q) rfl (by decide) (by first | omega | (have hq := Words.atoi_pos (by assumption); omega))) ?_
     refine GL_gf (t := 62) rfl rfl rfl (fun q => PS_gtr (cF rfl q) rfl) ?_
     refine Gt (PS_or rfl rfl (fun h => by rw [h]; rfl)) ?_
     refine Gm rfl ?_
     refine GL_gf (t := 67) rfl rfl rfl (fun q => PS_move rfl) ?_
     refine GL_gf (t := 67) rfl rfl rfl (fun q => PS_eql_str (cF rfl q) rfl) ?_
     refine Gt (PS_or rfl rfl (fun h => by rw [h]; rfl)) ?_
     refine Gm rfl ?_
     refine GL_gf (t := 71) rfl rfl rfl (fun q => PS_move rfl) ?_
     refine GL_pgf (t := 71) rfl rfl rfl (fun q => by have q1 := q; (try simp at q1); exact PC_of cf85 (.cons (cF rfl q) (.cons rfl .nil)) (fun w hS => strings_Contains_spec _ 46 w)) ?_
     refine Gt (PS_or rfl rfl (fun h => by rw [h]; rfl)) ?_
     refine Gn (.t3 9 11 74) ?_
     refine Gc (fun c5 => ?_) (fun c5 => ?_)
     ·
      have c5p := c5; try simp only [kk] at c5p
      refine Gs ?_
      refine Ga rfl (Ga rfl (Ga rfl (Ga rfl ?_)))
      refine Gn (.t4 2 3 4 5) ?_
      refine G_ret ?_
      refine GQ_then_ret ?_
      refine GQ_ret rfl (.tmp rfl (.tmp rfl (.tmp rfl (.tmp rfl .nil)))) ?_
      intro w1 hS; refine ⟨?_, hS.toKeep⟩; rw [show Words.noun u = _ from ((if_f c1).trans ((if_f c2).trans (if_f c3))), Words.numN_ok y3, if_t c5]; rfl
     ·
      have c5p := c5; try simp only [kk] at c5p
      refine G_skip ?_
      refine GQ_sub (.t2 9 11) ?_
      refine GQ_then ?_
      refine Gs ?_
      refine Gm rfl (Gm rfl (Ga rfl (Ga rfl (Ga rfl (Ga rfl ?_)))))
      refine Gn (.t4 2 3 4 5) ?_
      refine G_ret ?_
      refine GQ_ret rfl (.tmp rfl (.tmp rfl (.tmp rfl (.tmp rfl .nil)))) ?_
      intro w1 hS; refine ⟨?_, hS.toKeep⟩; rw [show Words.noun u = _ from ((if_f c1).trans ((if_f c2).trans (if_f c3))), Words.numN_ok y3, if_f c5]; rfl
    ·
     refine Gm rfl ?_
     refine Gt (PS_extract rfl rfl) ?_
     refine Gt (PS_extract rfl rfl) ?_
     refine Ga rfl (Ga rfl ?_)
     refine Gn (.t4 8 9 11 12) ?_
     refine Gss ?_
     refine Gm rfl ?_
     refine Gt (PS_neqi Tryz.underlying106 rfl) ?_
     refine Gm rfl ?_
     refine GL_pass (t := 49) rfl rfl rfl rfl ?_
     refine GL_pass (t := 49) rfl rfl rfl rfl ?_
     refine Gt (PS_pick_true rfl rfl) ?_
     refine Gm rfl ?_
     refine GL_pass (t := 53) rfl rfl rfl rfl ?_
     refine GL_pass (t := 53) rfl rfl rfl rfl ?_
     refine Gt (PS_pick_true rfl rfl) ?_
     refine Gm rfl ?_
     refine GL_pass (t := 57) rfl rfl rfl rfl ?_
     refine GL_pass (t := 57) rfl rfl rfl rfl ?_
     refine GL_pass (t := 57) rfl rfl rfl rfl ?_
     refine Gt (PS_pick_true rfl rfl) ?_
     refine Gm rfl ?_
     refine GL_pass (t := 62) rfl rfl rfl rfl ?_
     refine GL_pass (t := 62) rfl rfl rfl rfl ?_
     refine GL_pass (t := 62) rfl rfl rfl rfl ?_
     refine Gt (PS_pick_true rfl rfl) ?_
     refine Gm rfl ?_
     refine GL_pass (t := 67) rfl rfl rfl rfl ?_
     refine GL_pass (t := 67) rfl rfl rfl rfl ?_
     refine Gt (PS_pick_true rfl rfl) ?_
     refine Gm rfl ?_
     refine GL_pass (t := 71) rfl rfl rfl rfl ?_
     refine GL_pass (t := 71) rfl rfl rfl rfl ?_
     refine Gt (PS_pick_true rfl rfl) ?_
     refine Gn (.t3 9 11 74) ?_
     refine G_true rfl rfl ?_
     refine Gs ?_
     refine Ga rfl (Ga rfl (Ga rfl (Ga rfl ?_)))
     refine Gn (.t4 2 3 4 5) ?_
     refine G_ret ?_
     refine GQ_then_ret ?_
     refine GQ_ret rfl (.tmp rfl (.tmp rfl (.tmp rfl (.tmp rfl .nil)))) ?_
     intro w1 hS; refine ⟨?_, hS.toKeep⟩; rw [show Words.noun u = _ from ((if_f c1).trans ((if_f c2).trans (if_f c3))), Words.numN_bad y7]; rfl
theorem rules_turn_somebody_spec (b : Nat) (T : Turn) (g : Hd) (u : Str) (hg : g.len = T.out.length) (hF : T.Fit) (hu : u.length ≤ 5000000) (hn : T.out.length ≤ 99000) : CtrR Tryz.prog 57 #[.pointer (some ⟨b, 0, none⟩), vstr u] [Res.box b 53 (TurnV.enc ⟨T.w, T.b, g⟩), Res.own g 60 16 (T.out.flatMap Ing.Event.enc)] (fun w => (GVE 3 w ∧ 3 ∉ feet [Res.box b 53 (TurnV.enc ⟨T.w, T.b, g⟩), Res.own g 60 16 (T.out.flatMap Ing.Event.enc)]) ∧ (GVE 4 w ∧ 4 ∉ feet [Res.box b 53 (TurnV.enc ⟨T.w, T.b, g⟩), Res.own g 60 16 (T.out.flatMap Ing.Event.enc)])) (fun v B => ∃ g' : Hd, v = .tuple #[.int .i64 (T.somebody u).2.1, .bool (T.somebody u).2.2] ∧ g'.len = ((T.somebody u).1).out.length ∧ B = [Res.box b 53 (TurnV.enc ⟨((T.somebody u).1).w, ((T.somebody u).1).b, g'⟩), Res.own g' 60 16 (((T.somebody u).1).out.flatMap Ing.Event.enc)]) := by
 intro w hS0 hH
 obtain ⟨⟨gl0, gm0⟩, ⟨gl1, gm1⟩⟩ := hH
 have hb := hF.b
 have hr := hF.room
 refine Ret_body _ _ Tryz.func57 rfl rfl rfl (hS0) ?_
 refine Gs ?_
 refine Ga rfl (Ga rfl ?_)
 refine Gn (.t2 0 1) ?_
 refine Gs ?_
 refine Gm rfl ?_
 refine GL_pure rfl cf80 (.cons rfl .nil) (fun w hS => words_Noun_spec _ (by first | assumption | omega) w (gl0.stM gm0 hS) (gl1.stM gm1 hS)) ?_
 refine Gm rfl ?_
 refine Gt (PS_extract rfl rfl) ?_
 refine Gt (PS_extract rfl rfl) ?_
 refine Gt (PS_extract rfl rfl) ?_
 refine Gt (PS_extract rfl rfl) ?_
 refine Ga rfl (Ga rfl (Ga rfl (Ga rfl ?_)))
 refine Gn (.t5 0 6 7 8 9) ?_
 refine Gss ?_
 refine Gm rfl ?_
 refine Gt (PS_eql rfl rfl) ?_
 refine Gm rfl ?_
 refine GL_gt (t := 20) rfl rfl rfl (fun q => PS_move rfl) ?_
 refine GL_gt (t := 20) rfl rfl rfl (fun q => PS_not (cvE rfl q)) ?_
 refine Gt (PS_and rfl rfl (fun h => h)) ?_
 refine Gn (.t4 0 6 7 23) ?_
 refine Gc (fun c1 => ?_) (fun c1 => ?_)
 ·
  have c1p := c1; try simp only [kk] at c1p
  have hnf := Words.noun_fine u (of_decide_eq_true (Bool.and_eq_true_iff.1 c1).1)
  refine Gs ?_
  refine Gm rfl ?_
  refine Gn (.t4 0 6 7 24) ?_
  refine G_block ?_
  refine G_subF (.t4 6 24 0 7) ?_
  refine G_loop2_ (fun (k : Int) (n : Int) => 0 ≤ k ∧ k ≤ 6 ∧ T.someF (Words.noun u).2.1 6 (Words.noun u).1 = T.someF (Words.noun u).2.1 (6 - k).toNat n ∧ -k ≤ n ∧ n ≤ 99) (fun (k : Int) (n : Int) => (6 - k).toNat) (fun (k : Int) (n : Int) => [(6, .int .i64 n), (24, .int .i64 k)]) (fun (k : Int) (n : Int) => []) (0) (_) ?_ rfl rfl (fun k n hI1 => ?_)
  · exact ⟨by omega, by omega, rfl, by omega, by omega⟩
  obtain ⟨hI11, hI12, hI13, hI14, hI15⟩ := hI1
  refine Gs ?_
  refine Gt (PS_lss rfl rfl) ?_
  refine GL_nil ?_
  refine GQ_then ?_
  refine G_seq ?_
  refine Gc (fun c2 => ?_) (fun c2 => ?_)
  ·
   have c2p := c2; try simp only [kk] at c2p
   refine G_skip ?_
   refine GQ_sub (.t4 0 6 7 24) ?_
   refine GQ_then ?_
   refine G_seq ?_
   refine G_block ?_
   refine Gs ?_
   refine Gm rfl (Ga rfl ?_)
   refine Gn (.t5 0 6 7 10 24) ?_
   refine G_seq ?_
   refine G_seq ?_
   refine G_planN (N := 31) [0, 0, 2, 6, 14, 31, 63, 127, 127, 255, 767, 1791, 4095, 8191, 16383, 127, 65535, 131071, 262143, 524287, 1048575, 2097151, 4194303, 524287, 8912895, 25690111, 59244543, 524287, 268435455, 536870911, 1073741823] mix (by kernel_rfl) rfl ?_
   refine Pf 0 rfl (PS_move rfl) (Pf 1 rfl (PS_move rfl) (Pf 2 rfl (PSn rfl) (Pf 3 rfl (PSf fa53_1 rfl) ?_)))
   refine Pf 4 rfl (PS_load rfl tys3 (.head _) TurnV.l1 rfl rfl) ?_
   refine Pf 5 rfl (PS_eql rfl rfl) ?_
   refine Pf 6 rfl (PS_move rfl) ?_
   refine Pgf 7 33 rfl rfl rfl (fun q => PS_move rfl) ?_
   refine Pgf 8 33 rfl rfl rfl (fun q => PS_move rfl) ?_
   refine Pgf 9 33 rfl rfl rfl (fun q => PSn (cF rfl q)) ?_
   refine Pgf 10 33 rfl rfl rfl (fun q => PSf fa53_0 (cF rfl q)) ?_
   refine Pgf 11 33 rfl rfl rfl (fun q => PSf fa34_2 (cF rfl q)) ?_
   refine Plan_float 12 rfl rfl (by kernel_rfl) (OK_gf (t := 33) rfl rfl (fun q => by have q1 := q; (try simp at q1); exact EX_s (PS_indexAddr ia32 (cF rfl q) (cF rfl q) (by first | omega | exact hb.1 | exact hb.2 | (dsimp only; omega)) (by first | omega | exact hb.1 | exact hb.2 | (dsimp only; omega))))) ?_
   refine Pgf 13 33 rfl rfl rfl (fun q => PSf fa31_0 (cF rfl q)) ?_
   refine Plan_float 14 rfl rfl (by kernel_rfl) (OK_gf (t := 33) rfl rfl (fun q => by have q1 := q; (try simp at q1); exact EX_s (PS_load (cF rfl q) tys9 (.head _) (((TurnV.l0.comp Land.l2).comp (Lens.ar (n := 6) Being.fl (by first | omega | exact hb | (dsimp only; omega)))).comp Being.l0) rfl rfl))) ?_
   refine Pgf 15 33 rfl rfl rfl (fun q => PS_move rfl) ?_
   refine Pgf 16 33 rfl rfl rfl (fun q => PS_neq_str (cF rfl q) (cF rfl q)) ?_
   refine Pf 17 rfl (PS_or rfl rfl (fun h => by rw [h]; rfl)) ?_
   refine Pf 18 rfl (PS_move rfl) ?_
   refine Pgf 19 45 rfl rfl rfl (fun q => PS_move rfl) ?_
   refine Pgf 20 45 rfl rfl rfl (fun q => PSn (cF rfl q)) ?_
   refine Pgf 21 45 rfl rfl rfl (fun q => PSf fa53_0 (cF rfl q)) ?_
   refine Pgf 22 45 rfl rfl rfl (fun q => PS_loadA (cF rfl q) tya34 (.head _) TurnV.l0 rfl) ?_
   refine Pgf 23 45 rfl rfl rfl (fun q => PS_move rfl) ?_
   refine Pgf 24 45 rfl rfl rfl (fun q => PSn (cF rfl q)) ?_
   refine Pgf 25 45 rfl rfl rfl (fun q => PSf fa53_1 (cF rfl q)) ?_
   refine Pgf 26 45 rfl rfl rfl (fun q => PS_load (cF rfl q) tys3 (.head _) TurnV.l1 rfl rfl) ?_
   refine Pgf 27 45 rfl rfl rfl (fun q => PS_move rfl) ?_
   refine Plan_float 28 rfl rfl (by kernel_rfl) (OK_gf (t := 45) rfl rfl (fun q => by have q1 := q; (try simp at q1); exact EX_c (PC_of cf47 (.cons (cF rfl q) (.cons (cF rfl q) (.cons (cF rfl q) .nil))) (fun w hS => sense_Sees_spec _ _ _ w)))) ?_
   refine Pgf 29 45 rfl rfl rfl (fun q => PS_not (cF rfl q)) ?_
   refine Pf 30 rfl (PS_or rfl rfl (fun h => by rw [h]; rfl)) ?_
   refine Plan_end (by kernel_rfl) ?_
   refine GQ_sub (.t6 0 6 7 10 24 57) ?_
   refine GQ_then ?_
   refine Gc (fun c3 => ?_) (fun c3 => ?_)
   ·
    have c3p := c3; try simp only [kk] at c3p
    refine G_exit ?_
    refine GQ_then_exit ?_
    refine GQ_block_exit ?_
    refine GQ_sub (.t4 0 6 7 24) ?_
    refine GQ_then ?_
    refine G_region ?_
    refine Gt (PS_add rfl rfl (IntWalk.i64_in _ (by first | omega | exact hb.1 | exact hb.2 | (dsimp only; omega)))) ?_
    refine Gm rfl ?_
    refine GL_nil (GQ_sub (.t4 0 6 7 24) ?_)
    refine GQ_next2_ (k + 1) (n) ?_ ?_ (.t4 6 24 0 7) (.refl _)
    · exact ⟨by omega, by omega, by rw [hI13, Turn.someF_step hI11 (by omega), if_t c3], by omega, by omega⟩
    · omega
   ·
    have c3p := c3; try simp only [kk] at c3p
    refine G_skip ?_
    refine GQ_sub (.t5 0 6 7 10 24) ?_
    refine GQ_then ?_
    refine Gs ?_
    refine Gm rfl ?_
    refine Gt (PS_sub rfl rfl (IntWalk.i64_in _ (by first | omega | exact hb.1 | exact hb.2 | (dsimp only; omega)))) ?_
    refine Ga rfl ?_
    refine Gn (.t5 0 6 7 10 24) ?_
    refine Gs ?_
    refine Gm rfl ?_
    refine Gt (PS_eql rfl rfl) ?_
    refine Gn (.t6 0 6 7 10 24 61) ?_
    refine Gc (fun c4 => ?_) (fun c4 => ?_)
    ·
     have c4p := c4; try simp only [kk] at c4p
     refine Gs ?_
     refine Gm rfl (Ga rfl (Ga rfl ?_))
     refine Gn (.t2 4 5) ?_
     refine G_ret ?_
     refine GQ_block_ret ?_
     refine GQ_then_ret ?_
     refine GQ_then_ret ?_
     refine GQ_block_ret ?_
     refine GQ_then_ret ?_
     refine GQ_ret rfl (.tmp rfl (.tmp rfl .nil)) ?_
     intro w1 hS
     have hS := (hS.perm (Pulls.perm (.cons .head (.cons .head .nil)))).headL
     have hs : T.someF (Words.noun u).2.1 6 (Words.noun u).1 = some k := by rw [hI13, Turn.someF_step hI11 (by omega), if_f c3, if_t c4]
     have hq : T.somebody u = (T, k, true) := (show T.somebody u = _ from if_t c1).trans (by simp only [hs])
     refine ⟨_, ⟨?gq1, ?hv1, ?hl1, ?hB1⟩, hS⟩
     case hB1 => rw [hq]; (try rfl)
     case hv1 => rw [hq]; (try rfl)
     case hl1 => rw [hq]; assumption
    ·
     have c4p := c4; try simp only [kk] at c4p
     refine G_skip ?_
     refine GQ_sub (.t4 0 6 7 24) ?_
     refine GQ_block ?_
     refine GQ_then ?_
     refine G_region ?_
     refine Gt (PS_add rfl rfl (IntWalk.i64_in _ (by first | omega | exact hb.1 | exact hb.2 | (dsimp only; omega)))) ?_
     refine Gm rfl ?_
     refine GL_nil (GQ_sub (.t4 0 6 7 24) ?_)
     refine GQ_next2_ (k + 1) (n - 1) ?_ ?_ (.t4 6 24 0 7) (.refl _)
     · exact ⟨by omega, by omega, by rw [hI13, Turn.someF_step hI11 (by omega), if_f c3, if_f c4], by omega, by omega⟩
     · omega
  ·
   have c2p := c2; try simp only [kk] at c2p
   obtain rfl : k = 6 := by omega
   refine G_exit ?_
   refine GQ_then_exit ?_
   refine GQ_then_exit ?_
   refine GQ_block_exit ?_
   refine GQ_sub (.t1 0) ?_
   refine GQ_then ?_
   refine Gs ?_
   refine Gm rfl ?_
   refine GL_callL rfl cf45 (.cons rfl (.cons rfl .nil)) (.cons .head (.cons .head .nil)) (rules_turn_tell_spec _ _ _ _ hg hb (by omega)) (fun v1 B hv => ?_)
   obtain ⟨y2, rfl, y3, rfl⟩ := hv
   refine Gn (.nil _) ?_
   refine Gs ?_
   refine Ga rfl (Ga rfl ?_)
   refine GL_nil ?_
   refine GQ_then ?_
   refine G_ret ?_
   refine GQ_ret rfl (.tmp rfl (.tmp rfl .nil)) ?_
   intro w1 hS
   have hS := (hS.perm (Pulls.perm (.cons .head (.cons .head .nil)))).headL
   have hs : T.someF (Words.noun u).2.1 6 (Words.noun u).1 = none := by rw [hI13]; rfl
   have hq : T.somebody u = (T.tell Turn.noBody, 0, false) := (show T.somebody u = _ from if_t c1).trans (by simp only [hs])
   refine ⟨_, ⟨?gq2, ?hv2, ?hl2, ?hB2⟩, hS⟩
   case hB2 => rw [hq]; (try rfl)
   case hv2 => rw [hq]; (try rfl)
   case hl2 => rw [hq]; assumption
 ·
  have c1p := c1; try simp only [kk] at c1p
  refine G_skip ?_
  refine GQ_sub (.t1 0) ?_
  refine GQ_then ?_
  refine Gs ?_
  refine Gm rfl ?_
  refine GL_callL rfl cf45 (.cons rfl (.cons rfl .nil)) (.cons .head (.cons .head .nil)) (rules_turn_tell_spec _ _ _ _ hg hb (by omega)) (fun v4 B hv => ?_)
  obtain ⟨y5, rfl, y6, rfl⟩ := hv
  refine Gn (.nil _) ?_
  refine Gs ?_
  refine Ga rfl (Ga rfl ?_)
  refine GL_nil ?_
  refine GQ_then ?_
  refine G_ret ?_
  refine GQ_ret rfl (.tmp rfl (.tmp rfl .nil)) ?_
  intro w1 hS
  have hS := (hS.perm (Pulls.perm (.cons .head (.cons .head .nil)))).headL
  have hq : T.somebody u = (T.tell Turn.noBody, 0, false) := if_f c1
  refine ⟨_, ⟨?gq3, ?hv3, ?hl3, ?hB3⟩, hS⟩
  case hB3 => rw [hq]; (try rfl)
  case hv3 => rw [hq]; (try rfl)
  case hl3 => rw [hq]; assumption
theorem rules_turn_fight_spec (b : Nat) (T : Turn) (g : Hd) (o : Order) (hg : g.len = T.out.length) (hF : T.Fit) (hm : o.name.length ≤ 5000000) (hn : T.out.length ≤ 90000) : CtrR Tryz.prog 31 #[.pointer (some ⟨b, 0, none⟩), .agg o.enc.toArray] [Res.box b 53 (TurnV.enc ⟨T.w, T.b, g⟩), Res.own g 60 16 (T.out.flatMap Ing.Event.enc)] (fun w => (GVE 3 w ∧ 3 ∉ feet [Res.box b 53 (TurnV.enc ⟨T.w, T.b, g⟩), Res.own g 60 16 (T.out.flatMap Ing.Event.enc)]) ∧ (GVE 4 w ∧ 4 ∉ feet [Res.box b 53 (TurnV.enc ⟨T.w, T.b, g⟩), Res.own g 60 16 (T.out.flatMap Ing.Event.enc)])) (fun v B => ∃ g' : Hd, v = .tuple #[] ∧ g'.len = (T.fight o).out.length ∧ B = [Res.box b 53 (TurnV.enc ⟨(T.fight o).w, (T.fight o).b, g'⟩), Res.own g' 60 16 ((T.fight o).out.flatMap Ing.Event.enc)]) := by
 intro w hS0 hH
 obtain ⟨⟨gl0, gm0⟩, ⟨gl1, gm1⟩⟩ := hH
 have hb := hF.b
 have hr := hF.room
 have hsr := T.somebody_rng (if (!decide (o.nth = 1) || o.all_) = true then [] else o.name)
 have hsb : 0 ≤ (T.somebody (if (!decide (o.nth = 1) || o.all_) = true then [] else o.name)).1.b ∧ (T.somebody (if (!decide (o.nth = 1) || o.all_) = true then [] else o.name)).1.b < 6 := by rw [(T.somebody_w _).2]; exact hb
 refine Ret_body _ _ Tryz.func31 rfl rfl rfl (hS0) ?_
 refine Gs ?_
 refine GL_box rfl rfl rfl (fun b1 => ?_)
 refine Gn (.t2 0 3) ?_
 refine Gs ?_
 refine Gt (PSf fa47_3 rfl) ?_
 refine Gt (PS_load rfl tys9 (.head _) Order.l3 rfl rfl) ?_
 refine Ga rfl ?_
 refine Gn (.t3 0 3 4) ?_
 refine Gss ?_
 refine Gt (PSf fa47_1 rfl) ?_
 refine Gt (PS_load rfl tys3 (.head _) Order.l1 rfl rfl) ?_
 refine Gt (PS_neq rfl rfl) ?_
 refine Gm rfl ?_
 refine GL_gf (t := 12) rfl rfl rfl (fun q => PSf fa47_2 rfl) ?_
 refine GL_gf (t := 12) rfl rfl rfl (fun q => PS_load (cF rfl q) tys4 (.head _) Order.l2 rfl rfl) ?_
 refine Gt (PS_or rfl rfl (fun h => by rw [h]; rfl)) ?_
 refine Gn (.t3 0 4 15) ?_
 refine G_set1 (vstr) (s := (if (!decide (o.nth = 1) || o.all_) = true then [] else o.name)) rfl rfl rfl rfl rfl ?_
 refine GQ_sub (.t2 0 4) ?_
 refine GQ_then ?_
 refine Gs ?_
 refine Gm rfl (Gm rfl ?_)
 refine GL_callR rfl cf57 (.cons rfl (.cons rfl .nil)) (.cons (.tail .head) (.cons (.tail .head) .nil)) (rules_turn_somebody_spec _ T _ _ hg hF (by split <;> (try simp) <;> omega) (by omega)) (fun w hS => ⟨gl0.pull gm0 hS (.cons (.tail .head) (.cons (.tail .head) .nil)), gl1.pull gm1 hS (.cons (.tail .head) (.cons (.tail .head) .nil))⟩) (fun v1 B hv => ?_)
 obtain ⟨y2, rfl, y3, rfl⟩ := hv
 refine Gm rfl ?_
 refine Gt (PS_extract rfl rfl) ?_
 refine Gt (PS_extract rfl rfl) ?_
 refine Ga rfl (Ga rfl ?_)
 refine Gn (.t3 0 5 6) ?_
 refine Gss ?_
 refine Gm rfl ?_
 refine Gt (PS_not rfl) ?_
 refine Gn (.t3 0 5 23) ?_
 refine Gc (fun c1 => ?_) (fun c1 => ?_)
 ·
  have c1p := c1; try simp only [kk] at c1p
  refine G_ret ?_
  refine GQ_then_ret ?_
  refine GQ_ret rfl .nil ?_
  intro w1 hS
  have hS := (hS.perm (Pulls.perm (.cons .head (.cons .head .nil)))).headL
  have hq : T.fight o = _ := if_t c1
  refine ⟨_, ⟨?gq1, rfl, ?hl1, ?hB1⟩, hS⟩
  case hB1 => rw [hq]; (try rfl)
  case hl1 => rw [hq]; assumption
 ·
  have c1p := c1; try simp only [kk] at c1p
  refine G_skip ?_
  refine GQ_sub (.t2 0 5) ?_
  refine GQ_then ?_
  refine G_seq ?_
  refine G_planN (N := 13) [0, 0, 2, 6, 14, 0, 32, 1, 129, 385, 1023, 2047, 4095] mix (by kernel_rfl) rfl ?_
  refine Pf 0 rfl (PS_move rfl) (Pf 1 rfl (PS_move rfl) (Pf 2 rfl (PSn rfl) (Pf 3 rfl (PSf fa53_1 rfl) ?_)))
  refine Pf 4 rfl (PS_load rfl tys3 (.head _) TurnV.l1 rfl rfl) ?_
  refine Pf 5 rfl (PS_move rfl) ?_
  refine Pf 6 rfl (PS_add rfl rfl (IntWalk.i64_in _ (by first | omega | exact hsb.1 | exact hsb.2 | (dsimp only; omega)))) ?_
  refine Pf 7 rfl (PSn rfl) (Pf 8 rfl (PSf fa53_0 rfl) (Pf 9 rfl (PSf fa34_2 rfl) ?_))
  refine Pf 10 rfl (PS_indexAddr ia32 rfl rfl (by first | omega | exact hsb.1 | exact hsb.2 | (dsimp only; omega)) (by first | omega | exact hsb.1 | exact hsb.2 | (dsimp only; omega))) ?_
  refine Pf 11 rfl (PSf fa31_5 rfl) ?_
  refine Plan_chain 12 rfl (by kernel_rfl) ?_
  refine GL_unit (PU_store (((TurnV.l0.comp Land.l2).comp (Lens.ar (n := 6) Being.fl (by first | omega | exact hsb | (dsimp only; omega)))).comp Being.l5) rfl rfl rfl sz3 rfl .head) ?_
  refine GL_hand0 rfl ⟨?_, ?_⟩
  · exact (Pk (Pk (Pk (Pk (Pk (Pk (Pk (Pk (Pk (Pk (Pk (Pk Pend_nil))))))))))))
  refine Plan_end (by kernel_rfl) ?_
  refine GQ_sub (.t2 0 5) ?_
  refine GQ_then ?_
  refine Gss ?_
  refine Gm rfl (Gm rfl (Gt (PSn rfl) (Gt (PSf fa53_0 rfl) (Gt (PSf fa34_2 rfl) ?_))))
  refine Gt (PS_indexAddr ia32 rfl rfl (by first | omega | exact hsb.1 | exact hsb.2 | (dsimp only; omega)) (by first | omega | exact hsb.1 | exact hsb.2 | (dsimp only; omega))) ?_
  refine Gt (PSf fa31_5 rfl) ?_
  refine Gt (PS_load rfl tys3 (.head _) (((TurnV.l0.comp Land.l2).comp (Lens.ar (n := 6) Being.fl (by first | omega | exact hsb | (dsimp only; omega)))).comp Being.l5) rfl rfl) ?_
  refine Gt (PS_eql rfl rfl) ?_
  refine Gn (.t3 0 5 44) ?_
  refine Gc (fun c2 => ?_) (fun c2 => ?_)
  ·
   have c2p := c2; try simp only [kk] at c2p
   refine G_planN (N := 13) [0, 0, 0, 4, 12, 28, 60, 1, 129, 385, 1023, 2047, 4095] mix (by kernel_rfl) rfl ?_
   refine Pf 0 rfl (PS_move rfl) (Pf 1 rfl (PS_move rfl) (Pf 2 rfl (PS_move rfl) (Pf 3 rfl (PSn rfl) (Pf 4 rfl (PSf fa53_1 rfl) ?_))))
   refine Pf 5 rfl (PS_load rfl tys3 (.head _) TurnV.l1 rfl rfl) ?_
   refine Pf 6 rfl (PS_add rfl rfl (IntWalk.i64_in _ (by first | omega | exact hsb.1 | exact hsb.2 | (dsimp only; omega)))) ?_
   refine Pf 7 rfl (PSn rfl) (Pf 8 rfl (PSf fa53_0 rfl) (Pf 9 rfl (PSf fa34_2 rfl) ?_))
   refine Pf 10 rfl (PS_indexAddr ia32 rfl rfl (by first | omega | exact hsb.1 | exact hsb.2 | (dsimp only; omega)) (by first | omega | exact hsb.1 | exact hsb.2 | (dsimp only; omega))) ?_
   refine Pf 11 rfl (PSf fa31_5 rfl) ?_
   refine Plan_chain 12 rfl (by kernel_rfl) ?_
   refine GL_unit (PU_store (((TurnV.l0.comp Land.l2).comp (Lens.ar (n := 6) Being.fl (by first | omega | exact hsb | (dsimp only; omega)))).comp Being.l5) rfl rfl rfl sz3 rfl .head) ?_
   refine GL_hand0 rfl ⟨?_, ?_⟩
   · exact (Pk (Pk (Pk (Pk (Pk (Pk (Pk (Pk (Pk (Pk (Pk (Pk Pend_nil))))))))))))
   refine Plan_end (by kernel_rfl) ?_
   refine GQ_sub (.t1 0) ?_
   refine GQ_then ?_
   refine G_region ?_
   refine Gm rfl ?_
   refine GL_callL rfl cf45 (.cons rfl (.cons rfl .nil)) (.cons .head (.cons .head .nil)) (rules_turn_tell_spec _ (Turn.setFoe (Turn.setFoe (T.somebody (if (!decide (o.nth = 1) || o.all_) = true then [] else o.name)).1 (T.somebody (if (!decide (o.nth = 1) || o.all_) = true then [] else o.name)).1.b ((T.somebody (if (!decide (o.nth = 1) || o.all_) = true then [] else o.name)).2.1 + 1)) (T.somebody (if (!decide (o.nth = 1) || o.all_) = true then [] else o.name)).2.1 ((T.somebody (if (!decide (o.nth = 1) || o.all_) = true then [] else o.name)).1.b + 1)) _ _ (by assumption) hsb (by show (T.somebody (if (!decide (o.nth = 1) || o.all_) = true then [] else o.name)).1.out.length ≤ 100000; have := T.somebody_out (if (!decide (o.nth = 1) || o.all_) = true then [] else o.name); omega)) (fun v4 B hv => ?_)
   obtain ⟨y5, rfl, y6, rfl⟩ := hv
   refine GL_nil ?_
   refine GQ_end rfl .nil ?_
   intro w1 hS
   have hS := (hS.perm (Pulls.perm (.cons .head (.cons .head .nil)))).headL
   have hq : T.fight o = _ := (show T.fight o = _ from if_f c1).trans (congrArg (fun q => Turn.tell q Turn.fightT) (if_t c2))
   refine ⟨_, ⟨?gq2, rfl, ?hl2, ?hB2⟩, hS⟩
   case hB2 => rw [hq]; (try rfl)
   case hl2 => rw [hq]; assumption
  ·
   have c2p := c2; try simp only [kk] at c2p
   refine G_skip ?_
   refine GQ_sub (.t1 0) ?_
   refine GQ_then ?_
   refine G_region ?_
   refine Gm rfl ?_
   refine GL_callL rfl cf45 (.cons rfl (.cons rfl .nil)) (.cons .head (.cons .head .nil)) (rules_turn_tell_spec _ (Turn.setFoe (T.somebody (if (!decide (o.nth = 1) || o.all_) = true then [] else o.name)).1 (T.somebody (if (!decide (o.nth = 1) || o.all_) = true then [] else o.name)).1.b ((T.somebody (if (!decide (o.nth = 1) || o.all_) = true then [] else o.name)).2.1 + 1)) _ _ (by assumption) hsb (by show (T.somebody (if (!decide (o.nth = 1) || o.all_) = true then [] else o.name)).1.out.length ≤ 100000; have := T.somebody_out (if (!decide (o.nth = 1) || o.all_) = true then [] else o.name); omega)) (fun v7 B hv => ?_)
   obtain ⟨y8, rfl, y9, rfl⟩ := hv
   refine GL_nil ?_
   refine GQ_end rfl .nil ?_
   intro w1 hS
   have hS := (hS.perm (Pulls.perm (.cons .head (.cons .head .nil)))).headL
   have hq : T.fight o = _ := (show T.fight o = _ from if_f c1).trans (congrArg (fun q => Turn.tell q Turn.fightT) (if_f c2))
   refine ⟨_, ⟨?gq3, rfl, ?hl3, ?hB3⟩, hS⟩
   case hB3 => rw [hq]; (try rfl)
   case hl3 => rw [hq]; assumption
theorem rules_turn_seen_spec (b : Nat) (T : Turn) (g : Hd) (hF : T.Fit) : Ctr Tryz.prog 58 #[.pointer (some ⟨b, 0, none⟩)] [Res.box b 53 (TurnV.enc ⟨T.w, T.b, g⟩)] (fun v B => ∃ f : Hd, v = f.val ∧ f.len = (T.seen).length ∧ B = [Res.box b 53 (TurnV.enc ⟨T.w, T.b, g⟩), Res.own f 3 1 ((T.seen).flatMap encI)]) := by
 intro w hS0
 have hb := hF.b
 have hr := hF.room
 refine Ret_body _ _ Tryz.func58 rfl rfl rfl (hS0) ?_
 refine Gs ?_
 refine Ga rfl ?_
 refine Gn (.t1 0) ?_
 refine G_seq ?_
 refine G_planN (N := 12) [0, 0, 2, 6, 14, 1, 33, 97, 255, 511, 1023, 2047] mix (by kernel_rfl) rfl ?_
 refine Pf 0 rfl (PS_move rfl) (Pf 1 rfl (PS_move rfl) (Pf 2 rfl (PSn rfl) (Pf 3 rfl (PSf fa53_1 rfl) ?_)))
 refine Pf 4 rfl (PS_load rfl tys3 (.head _) TurnV.l1 rfl rfl) ?_
 refine Pf 5 rfl (PSn rfl) (Pf 6 rfl (PSf fa53_0 rfl) (Pf 7 rfl (PSf fa34_2 rfl) ?_))
 refine Pf 8 rfl (PS_indexAddr ia32 rfl rfl (by first | omega | exact hb.1 | exact hb.2 | (dsimp only; omega)) (by first | omega | exact hb.1 | exact hb.2 | (dsimp only; omega))) ?_
 refine Pf 9 rfl (PSf fa31_3 rfl) ?_
 refine Pf 10 rfl (PS_load rfl tys3 (.head _) (((TurnV.l0.comp Land.l2).comp (Lens.ar (n := 6) Being.fl (by first | omega | exact hb | (dsimp only; omega)))).comp Being.l3) rfl rfl) ?_
 refine Pf 11 rfl (PS_assign rfl) ?_
 refine Plan_end (by kernel_rfl) ?_
 refine GQ_sub (.t2 0 3) ?_
 refine GQ_then ?_
 refine Gss ?_
 refine Gm rfl (Gt (PSn rfl) (Gt (PSf fa53_0 rfl) ?_))
 refine Gt (PS_loadA rfl tya34 (.head _) TurnV.l0 rfl) ?_
 refine Gm rfl ?_
 refine GL_pure rfl cf44 (.cons rfl (.cons rfl .nil)) (fun w hS => sense_Bright_spec _ _ w) ?_
 refine Gt (PS_not rfl) ?_
 refine Gn (.t3 0 3 21) ?_
 refine Gc (fun c1 => ?_) (fun c1 => ?_)
 ·
  have c1p := c1; try simp only [kk] at c1p
  refine Gs ?_
  refine Ga rfl ?_
  refine Gn (.t1 2) ?_
  refine G_ret ?_
  refine GQ_then_ret ?_
  refine GQ_ret rfl (.tmp rfl .nil) ?_
  intro w1 hS
  have hS := hS.own_nil 3 1
  have hS := (hS.perm (Pulls.perm (.cons (.tail .head) (.cons .head .nil)))).headL
  have hq : T.seen = _ := if_t c1
  exact ⟨_, ⟨⟨none, 0, 0⟩, rfl, by rw [hq]; rfl, by rw [hq]; rfl⟩, hS⟩
 ·
  have c1p := c1; try simp only [kk] at c1p
  refine G_skip ?_
  refine GQ_sub (.t2 0 3) ?_
  refine GQ_then ?_
  refine Gs ?_
  refine Gm rfl (Gt (PSn rfl) (Gt (PSf fa53_0 rfl) ?_))
  refine Gt (PS_loadA rfl tya34 (.head _) TurnV.l0 rfl) ?_
  refine Gm rfl ?_
  refine GL_callL rfl cf29 (.cons rfl (.cons rfl (.cons rfl .nil))) .nil (land_Has_spec _ _ _) (fun v2 B hv => ?_)
  obtain ⟨y3, rfl, y4, rfl⟩ := hv
  refine Ga rfl ?_
  refine Gn (.t1 2) ?_
  refine G_ret ?_
  refine GQ_ret rfl (.tmp rfl .nil) ?_
  intro w1 hS
  have hS := (hS.perm (Pulls.perm (.cons (.tail .head) (.cons .head .nil)))).headL
  have hq : T.seen = _ := (if_f c1)
  exact ⟨_, ⟨_, rfl, by rw [hq]; first | rfl | assumption, by rw [hq]; rfl⟩, hS⟩
theorem rules_turn_pick_spec (b : Nat) (T : Turn) (g : Hd) (f : Hd) (l : List Int) (z : Int) (u : Str) (a : Bool) (hF : T.Fit) (hf : f.len = l.length) (hl : l.length ≤ 100) (hi : ∀ i ∈ l, 0 ≤ i ∧ i < 9) : Ctr Tryz.prog 60 #[.pointer (some ⟨b, 0, none⟩), f.val, .int .i64 z, vstr u, .bool a] [Res.box b 53 (TurnV.enc ⟨T.w, T.b, g⟩), Res.own f 3 1 (l.flatMap encI)] (fun v B => ∃ h : Hd, v = h.val ∧ h.len = (Turn.pickL T.w l z u a).length ∧ B = [Res.box b 53 (TurnV.enc ⟨T.w, T.b, g⟩), Res.own f 3 1 (l.flatMap encI), Res.own h 3 1 ((Turn.pickL T.w l z u a).flatMap encI)]) := by
 intro w hS0
 have hb := hF.b
 have hr := hF.room
 refine Ret_body _ _ Tryz.func60 rfl rfl rfl (hS0) ?_
 refine Gs ?_
 refine Ga rfl ?_
 refine Gn (.t5 0 1 2 3 4) ?_
 refine Gs ?_
 refine Ga rfl ?_
 refine GL_nil ?_
 refine GQ_then ?_
 refine Gss ?_
 refine Gm rfl ?_
 refine Gt (PS_len_slice rfl Tryz.underlying66 rfl) ?_
 refine Gm rfl ?_
 refine Gn (.t8 0 2 3 4 11 14 15 16) ?_
 refine G_block ?_
 refine G_subF (.t8 11 16 0 2 3 4 14 15) ?_
 refine G_nilF encI 3 1 ?_
 refine G_loop3_ (fun (k : Int) (xs : List Int) (h : Hd) => 0 ≤ k ∧ k ≤ (l.length : Int) ∧ xs = Turn.pickA T.w u (l.take k.toNat) ∧ h.len = xs.length ∧ xs.length ≤ k.toNat) (fun (k : Int) (xs : List Int) (h : Hd) => ((l.length : Int) - k).toNat) (fun (k : Int) (xs : List Int) (h : Hd) => [(11, h.val), (16, .int .i64 k)]) (fun (k : Int) (xs : List Int) (h : Hd) => [Res.own h 3 1 (xs.flatMap encI)]) (0) ([]) (_) ?_ rfl rfl (fun k xs h hI1 => ?_)
 · exact ⟨by omega, by omega, rfl, rfl, by simp⟩
 obtain ⟨hI11, hI12, hI13, hI14, hI15⟩ := hI1
 refine Gs ?_
 refine Gt (PS_lss rfl rfl) ?_
 refine GL_nil ?_
 refine GQ_then ?_
 refine G_seq ?_
 refine Gc (fun c1 => ?_) (fun c1 => ?_)
 ·
  have c1p := c1; try simp only [kk] at c1p
  have hx := hi _ (Line.getD_memI (xs := l) (i := k.toNat) (by omega))
  refine G_skip ?_
  refine GQ_sub (.t8 0 2 3 4 11 14 15 16) ?_
  refine GQ_then ?_
  refine G_seq ?_
  refine G_block ?_
  refine Gs ?_
  refine Gt (PS_idxS is66 (by decide) (Kn.own (.tail _ (.tail _ (.head _)))) rfl rfl (by omega) (by omega)) ?_
  refine Gt (PS_ldInt rfl tys3 (Kn.own (.tail _ (.tail _ (.head _)))) (by omega)) ?_
  refine Ga rfl ?_
  refine Gn (.t9 0 2 3 4 11 13 14 15 16) ?_
  refine Gs ?_
  refine Gm rfl ?_
  refine Gt (PS_eql_str rfl rfl) ?_
  refine Gm rfl ?_
  refine GL_gf (t := 22) rfl rfl rfl (fun q => PS_move rfl) ?_
  refine GL_gf (t := 22) rfl rfl rfl (fun q => PS_move rfl) ?_
  refine GL_gf (t := 22) rfl rfl rfl (fun q => PSn (cF rfl q)) ?_
  refine GL_gf (t := 22) rfl rfl rfl (fun q => PSf fa53_0 (cF rfl q)) ?_
  refine GL_gf (t := 22) rfl rfl rfl (fun q => PSf fa34_1 (cF rfl q)) ?_
  refine GL_gf (t := 22) rfl rfl rfl (fun q => by have q1 := q; (try simp at q1); exact PS_indexAddr ia29 (cF rfl q) (cF rfl q) (by first | omega | exact hb.1 | exact hb.2) (by first | omega | exact hb.1 | exact hb.2)) ?_
  refine GL_gf (t := 22) rfl rfl rfl (fun q => PSf fa28_0 (cF rfl q)) ?_
  refine GL_gf (t := 22) rfl rfl rfl (fun q => by have q1 := q; (try simp at q1); exact PS_load (cF rfl q) tys9 (.tail _ (.head _)) (((TurnV.l0.comp Land.l1).comp (Lens.ar (n := 9) Thing.fl (by first | omega | exact hb))).comp Thing.l0) rfl rfl) ?_
  refine GL_gf (t := 22) rfl rfl rfl (fun q => PS_move rfl) ?_
  refine GL_gf (t := 22) rfl rfl rfl (fun q => PS_eql_str (cF rfl q) (cF rfl q)) ?_
  refine Gt (PS_or rfl rfl (fun h => by rw [h]; rfl)) ?_
  refine Gn (.t10 0 2 3 4 11 13 14 15 16 33) ?_
  refine Gc (fun c2 => ?_) (fun c2 => ?_)
  ·
   have c2p := c2; try simp only [kk] at c2p
   refine G_region ?_
   refine Gm rfl (Gm rfl ?_)
   refine GL_bs1F encI flI rfl Tryz.underlying66 sz3 zv3 rfl (by decide) (by decide) rfl rfl (fun b1 => ?_)
   refine GL_appendF flI rfl Tryz.underlying66 sz3 zv3 rfl by3 (by decide) (by decide) rfl rfl (fun w hS => Src.sliceT Tryz.underlying66 ((Kn.own (.head _)) w hS)) (by (try dsimp only); omega) (fun _ => (.tail .head)) (fun h1 h1l h1z => ?_)
   refine Ga rfl ?_
   refine GL_nil (GQ_sub (.t8 0 2 3 4 11 14 15 16) ?_)
   refine GQ_block ?_
   refine GQ_then ?_
   refine G_region ?_
   refine Gt (PS_add rfl rfl (IntWalk.i64_in _ (by first | omega | exact hb.1 | exact hb.2))) ?_
   refine Gm rfl ?_
   refine GL_nil (GQ_sub (.t8 0 2 3 4 11 14 15 16) ?_)
   refine GQ_next3_ (k + 1) _ _ ?_ ?_ (.t8 11 16 0 2 3 4 14 15) (.cons _ (.refl _))
   · exact ⟨by omega, by omega, by rw [Turn.pickA_t hI11 (by omega) c2, ← hI13], (by (try dsimp only at *) <;> (try simp only [List.length_append, List.length_cons, List.length_nil]) <;> omega), (by (try simp only [List.length_append, List.length_cons, List.length_nil]); omega)⟩
   · omega
  ·
   have c2p := c2; try simp only [kk] at c2p
   refine G_skip ?_
   refine GQ_sub (.t8 0 2 3 4 11 14 15 16) ?_
   refine GQ_block ?_
   refine GQ_then ?_
   refine G_region ?_
   refine Gt (PS_add rfl rfl (IntWalk.i64_in _ (by first | omega | exact hb.1 | exact hb.2))) ?_
   refine Gm rfl ?_
   refine GL_nil (GQ_sub (.t8 0 2 3 4 11 14 15 16) ?_)
   refine GQ_next3_ (k + 1) _ _ ?_ ?_ (.t8 11 16 0 2 3 4 14 15) (.refl _)
   · exact ⟨by omega, by omega, by rw [Turn.pickA_f hI11 (by omega) c2, ← hI13], (by (try dsimp only at *) <;> (try simp only [List.length_append, List.length_cons, List.length_nil]) <;> omega), (by (try simp only [List.length_append, List.length_cons, List.length_nil]); omega)⟩
   · omega
 ·
  have c1p := c1; try simp only [kk] at c1p
  obtain rfl : k = (l.length : Int) := by omega
  have hx3 := hI13
  rw [show (l.length : Int).toNat = l.length by omega, List.take_length] at hx3
  have hpa := Turn.pickA_len T.w u l
  rw [← hx3] at hpa
  refine G_exit ?_
  refine GQ_then_exit ?_
  refine GQ_then_exit ?_
  refine GQ_block_exit ?_
  refine GQ_sub (.t3 2 4 11) ?_
  refine GQ_then ?_
  refine Gss ?_
  refine Gm rfl ?_
  refine Gn (.t3 2 11 39) ?_
  refine Gc (fun c3 => ?_) (fun c3 => ?_)
  ·
   have c3p := c3; try simp only [kk] at c3p
   refine Gs ?_
   refine Gm rfl (Ga rfl ?_)
   refine Gn (.t1 10) ?_
   refine G_ret ?_
   refine GQ_then_ret ?_
   refine GQ_ret rfl (.tmp rfl .nil) ?_
   intro w1 hS
   have hS := (hS.perm (Pulls.perm (.cons (.tail .head) (.cons (.tail .head) (.cons .head .nil))))).headL
   have hq : Turn.pickL T.w l z u a = _ := (if_t c3)
   refine ⟨_, ⟨_, rfl, ?hl1, ?hB1⟩, hS⟩
   case hB1 => rw [hq]; (try rw [← hx3]); (try rfl)
   case hl1 => rw [hq]; first | rfl | (rw [← hx3]; first | assumption | (simp only [Hd.cut, List.length_drop, List.length_take]; omega))
  ·
   have c3p := c3; try simp only [kk] at c3p
   refine G_skip ?_
   refine GQ_sub (.t2 2 11) ?_
   refine GQ_then ?_
   refine Gss ?_
   refine Gm rfl ?_
   refine Gt (PS_lss rfl rfl) ?_
   refine Gm rfl ?_
   refine GL_gf (t := 43) rfl rfl rfl (fun q => PS_move rfl) ?_
   refine GL_gf (t := 43) rfl rfl rfl (fun q => PS_move rfl) ?_
   refine GL_gf (t := 43) rfl rfl rfl (fun q => PS_len_slice rfl Tryz.underlying66 (cF rfl q)) ?_
   refine GL_gf (t := 43) rfl rfl rfl (fun q => PS_gtr (cF rfl q) (cF rfl q)) ?_
   refine Gt (PS_or rfl rfl (fun h => by rw [h]; rfl)) ?_
   refine Gn (.t3 2 11 48) ?_
   refine Gc (fun c4 => ?_) (fun c4 => ?_)
   ·
    have c4p := c4; try simp only [kk] at c4p
    rw [hI14, hx3] at c4
    refine Gs ?_
    refine Ga rfl ?_
    refine Gn (.t1 10) ?_
    refine G_ret ?_
    refine GQ_then_ret ?_
    refine GQ_ret rfl (.tmp rfl .nil) ?_
    intro w1 hS
    have hS := hS.own_nil 3 1
    have hS := (hS.perm (Pulls.perm (.cons (.tail (.tail .head)) (.cons (.tail (.tail .head)) (.cons .head .nil))))).headL
    have hq : Turn.pickL T.w l z u a = _ := ((if_f c3).trans (if_t c4))
    refine ⟨_, ⟨⟨none, 0, 0⟩, rfl, ?hl2, ?hB2⟩, hS⟩
    case hB2 => rw [hq]; (try rw [← hx3]); (try rfl)
    case hl2 => rw [hq]; first | rfl | (rw [← hx3]; first | assumption | (simp only [Hd.cut, List.length_drop, List.length_take]; omega))
   ·
    have c4p := c4; try simp only [kk] at c4p
    have c4q := c4p
    rw [hI14, hx3] at c4
    refine G_skip ?_
    refine GQ_sub (.t2 2 11) ?_
    refine GQ_then ?_
    refine Gs ?_
    refine Gm rfl (Gm rfl ?_)
    refine Gt (PS_sub rfl rfl (IntWalk.i64_in _ (by first | omega | exact hb.1 | exact hb.2))) ?_
    refine Gm rfl ?_
    refine GL_cutMidF flI rfl Tryz.underlying66 sz3 rfl rfl rfl (by first | omega | exact hb.1 | exact hb.2) (by first | omega | exact hb.1 | exact hb.2) (by first | omega | exact hb.1 | exact hb.2) (fun _ => .head) ?_
    refine Ga rfl ?_
    refine Gn (.t1 10) ?_
    refine G_ret ?_
    refine GQ_ret rfl (.tmp rfl .nil) ?_
    intro w1 hS
    have hS := (hS.perm (Pulls.perm (.cons (.tail .head) (.cons (.tail .head) (.cons .head .nil))))).headL
    have hq : Turn.pickL T.w l z u a = _ := ((if_f c3).trans (if_f c4))
    refine ⟨_, ⟨_, rfl, ?hl3, ?hB3⟩, hS⟩
    case hB3 => rw [hq]; (try rw [← hx3]); (try rfl)
    case hl3 => rw [hq]; first | rfl | (rw [← hx3]; first | assumption | (simp only [Hd.cut, List.length_drop, List.length_take]; omega))
theorem rules_turn_one_spec (b : Nat) (T : Turn) (g : Hd) (u : Str) (hF : T.Fit) (hu : u.length ≤ 5000000) : CtrR Tryz.prog 81 #[.pointer (some ⟨b, 0, none⟩), vstr u] [Res.box b 53 (TurnV.enc ⟨T.w, T.b, g⟩)] (fun w => (GVE 3 w ∧ 3 ∉ feet [Res.box b 53 (TurnV.enc ⟨T.w, T.b, g⟩)]) ∧ (GVE 4 w ∧ 4 ∉ feet [Res.box b 53 (TurnV.enc ⟨T.w, T.b, g⟩)])) (fun v B => v = .tuple #[.int .i64 (T.one u).1, .bool (T.one u).2] ∧ B = [Res.box b 53 (TurnV.enc ⟨T.w, T.b, g⟩)]) := by
 intro w hS0 hH
 obtain ⟨⟨gl0, gm0⟩, ⟨gl1, gm1⟩⟩ := hH
 have hb := hF.b
 have hr := hF.room
 have ho9 := T.own_len
 have hs9 := T.seen_len
 refine Ret_body _ _ Tryz.func81 rfl rfl rfl (hS0) ?_
 refine Gs ?_
 refine Ga rfl (Ga rfl ?_)
 refine Gn (.t2 0 1) ?_
 refine Gs ?_
 refine Gm rfl ?_
 refine GL_pure rfl cf80 (.cons rfl .nil) (fun w hS => words_Noun_spec _ (by first | assumption | omega) w (gl0.stM gm0 hS) (gl1.stM gm1 hS)) ?_
 refine Gm rfl ?_
 refine Gt (PS_extract rfl rfl) ?_
 refine Gt (PS_extract rfl rfl) ?_
 refine Gt (PS_extract rfl rfl) ?_
 refine Gt (PS_extract rfl rfl) ?_
 refine Ga rfl (Ga rfl (Ga rfl (Ga rfl ?_)))
 refine Gn (.t5 0 6 7 8 9) ?_
 refine Gss ?_
 refine Gm rfl ?_
 refine Gt (PS_neq rfl rfl) ?_
 refine Gm rfl ?_
 refine GL_gf (t := 20) rfl rfl rfl (fun q => PS_move rfl) ?_
 refine Gt (PS_or rfl rfl (fun h => by rw [h]; rfl)) ?_
 refine Gn (.t4 0 6 7 22) ?_
 refine Gc (fun c1 => ?_) (fun c1 => ?_)
 ·
  have c1p := c1; try simp only [kk] at c1p
  refine Gs ?_
  refine Ga rfl (Ga rfl ?_)
  refine Gn (.t2 4 5) ?_
  refine G_ret ?_
  refine GQ_then_ret ?_
  refine GQ_ret rfl (.tmp rfl (.tmp rfl .nil)) ?_
  intro w1 hS
  have hS := (hS.perm (Pulls.perm (.cons .head .nil))).headL
  have hq : T.one u = _ := (if_t c1)
  exact ⟨_, ⟨by rw [hq]; rfl, rfl⟩, hS⟩
 ·
  have c1p := c1; try simp only [kk] at c1p
  refine G_skip ?_
  refine GQ_sub (.t3 0 6 7) ?_
  refine GQ_then ?_
  refine Gs ?_
  refine Gm rfl (Gm rfl ?_)
  refine GL_callL rfl cf62 (.cons rfl .nil) (.cons .head .nil) (rules_turn_own_spec _ _ _ (by first | assumption | omega)) (fun v1 B hv => ?_)
  obtain ⟨y2, rfl, y3, rfl⟩ := hv
  refine Gm rfl ?_
  refine GL_callL rfl cf58 (.cons rfl .nil) (.cons .head .nil) (rules_turn_seen_spec _ _ _ (by first | assumption | omega)) (fun v5 B hv => ?_)
  obtain ⟨y6, rfl, y7, rfl⟩ := hv
  refine GL_appendF flI rfl Tryz.underlying66 sz3 zv3 rfl by3 (by decide) (by decide) rfl rfl (fun w hS => Src.sliceT Tryz.underlying66 ((Kn.own (.tail _ (.head _))) w hS)) (by (try dsimp only); omega) (fun _ => (.tail (.tail .head))) (fun h9 h9l h9z => ?_)
  refine Gm rfl (Gm rfl ?_)
  refine GL_callL rfl cf60 (.cons rfl (.cons rfl (.cons rfl (.cons rfl (.cons rfl .nil))))) (.cons .head (.cons (.tail .head) .nil)) (rules_turn_pick_spec _ T _ _ (T.own ++ T.seen) _ _ _ hF (by rw [List.length_append]; omega) (by rw [List.length_append]; omega) (fun i hi => Turn.at_hand hi)) (fun v10 B hv => ?_)
  obtain ⟨y11, rfl, y12, rfl⟩ := hv
  refine Ga rfl ?_
  refine Gn (.t1 10) ?_
  refine Gss ?_
  refine Gm rfl ?_
  refine Gt (PS_len_slice rfl Tryz.underlying66 rfl) ?_
  refine Gt (PS_eql rfl rfl) ?_
  refine Gn (.t2 10 34) ?_
  refine Gc (fun c2 => ?_) (fun c2 => ?_)
  ·
   have c2p := c2; try simp only [kk] at c2p
   have hpl := y12
   rw [hpl] at c2 c2p
   refine Gs ?_
   refine Ga rfl (Ga rfl ?_)
   refine Gn (.t2 4 5) ?_
   refine G_ret ?_
   refine GQ_then_ret ?_
   refine GQ_ret rfl (.tmp rfl (.tmp rfl .nil)) ?_
   intro w1 hS
   have hS := (hS.perm (Pulls.perm (.cons .head .nil))).headL
   have hq : T.one u = _ := ((if_f c1).trans (if_t c2))
   exact ⟨_, ⟨by rw [hq]; rfl, rfl⟩, hS⟩
  ·
   have c2p := c2; try simp only [kk] at c2p
   have hpl := y12
   rw [hpl] at c2 c2p
   refine G_skip ?_
   refine GQ_sub (.t1 10) ?_
   refine GQ_then ?_
   refine Gs ?_
   refine Gm rfl ?_
   refine Gt (PS_idxS is66 (by decide) (Kn.own (.tail _ (.tail _ (.head _)))) rfl rfl (by omega) (by omega)) ?_
   refine Gt (PS_ldInt rfl tys3 (Kn.own (.tail _ (.tail _ (.head _)))) (by omega)) ?_
   refine Ga rfl (Ga rfl ?_)
   refine Gn (.t2 4 5) ?_
   refine G_ret ?_
   refine GQ_ret rfl (.tmp rfl (.tmp rfl .nil)) ?_
   intro w1 hS
   have hS := (hS.perm (Pulls.perm (.cons .head .nil))).headL
   have hq : T.one u = _ := ((if_f c1).trans (if_f c2))
   exact ⟨_, ⟨by rw [hq]; rfl, rfl⟩, hS⟩
theorem rules_turn_box_spec (b : Nat) (T : Turn) (g : Hd) (u : Str) (hg : g.len = T.out.length) (hF : T.Fit) (hu : u.length ≤ 5000000) (hn : T.out.length ≤ 99000) : CtrR Tryz.prog 59 #[.pointer (some ⟨b, 0, none⟩), vstr u] [Res.box b 53 (TurnV.enc ⟨T.w, T.b, g⟩), Res.own g 60 16 (T.out.flatMap Ing.Event.enc)] (fun w => (GVE 3 w ∧ 3 ∉ feet [Res.box b 53 (TurnV.enc ⟨T.w, T.b, g⟩), Res.own g 60 16 (T.out.flatMap Ing.Event.enc)]) ∧ (GVE 4 w ∧ 4 ∉ feet [Res.box b 53 (TurnV.enc ⟨T.w, T.b, g⟩), Res.own g 60 16 (T.out.flatMap Ing.Event.enc)])) (fun v B => ∃ g' : Hd, v = .tuple #[.int .i64 (T.box u).2.1, .bool (T.box u).2.2] ∧ g'.len = ((T.box u).1).out.length ∧ B = [Res.box b 53 (TurnV.enc ⟨((T.box u).1).w, ((T.box u).1).b, g'⟩), Res.own g' 60 16 (((T.box u).1).out.flatMap Ing.Event.enc)]) := by
 intro w hS0 hH
 obtain ⟨⟨gl0, gm0⟩, ⟨gl1, gm1⟩⟩ := hH
 have hb := hF.b
 have hr := hF.room
 have ho := T.one_rng u
 refine Ret_body _ _ Tryz.func59 rfl rfl rfl (hS0) ?_
 refine Gs ?_
 refine Ga rfl (Ga rfl ?_)
 refine Gn (.t2 0 1) ?_
 refine Gs ?_
 refine Gm rfl (Gm rfl ?_)
 refine GL_callR rfl cf81 (.cons rfl (.cons rfl .nil)) (.cons .head .nil) (rules_turn_one_spec _ T _ _ hF hu) (fun w hS => ⟨gl0.pull gm0 hS (.cons .head .nil), gl1.pull gm1 hS (.cons .head .nil)⟩) (fun v1 B hv => ?_)
 obtain ⟨rfl, rfl⟩ := hv
 refine Gm rfl ?_
 refine Gt (PS_extract rfl rfl) ?_
 refine Gt (PS_extract rfl rfl) ?_
 refine Ga rfl (Ga rfl ?_)
 refine Gn (.t3 0 6 7) ?_
 refine Gss ?_
 refine Gm rfl ?_
 refine Gt (PS_not rfl) ?_
 refine Gm rfl ?_
 refine GL_gf (t := 16) rfl rfl rfl (fun q => PS_move rfl) ?_
 refine GL_gf (t := 16) rfl rfl rfl (fun q => PS_move rfl) ?_
 refine GL_gf (t := 16) rfl rfl rfl (fun q => PSn (cF rfl q)) ?_
 refine GL_gf (t := 16) rfl rfl rfl (fun q => PSf fa53_0 (cF rfl q)) ?_
 refine GL_gf (t := 16) rfl rfl rfl (fun q => PSf fa34_1 (cF rfl q)) ?_
 refine GL_gf (t := 16) rfl rfl rfl (fun q => by have q1 := q; (try simp at q1); exact PS_indexAddr ia29 (cF rfl q) (cF rfl q) (by first | omega | exact hb.1 | exact hb.2 | (dsimp only; omega)) (by first | omega | exact hb.1 | exact hb.2 | (dsimp only; omega))) ?_
 refine GL_gf (t := 16) rfl rfl rfl (fun q => PSf fa28_1 (cF rfl q)) ?_
 refine GL_gf (t := 16) rfl rfl rfl (fun q => by have q1 := q; (try simp at q1); exact PS_load (cF rfl q) tys3 (.head _) (((TurnV.l0.comp Land.l1).comp (Lens.ar (n := 9) Thing.fl (by first | omega | exact hb | (dsimp only; omega)))).comp Thing.l1) rfl rfl) ?_
 refine GL_gf (t := 16) rfl rfl rfl (fun q => PS_neq (cF rfl q) rfl) ?_
 refine Gt (PS_or rfl rfl (fun h => by rw [h]; rfl)) ?_
 refine Gn (.t3 0 6 26) ?_
 refine Gc (fun c1 => ?_) (fun c1 => ?_)
 ·
  have c1p := c1; try simp only [kk] at c1p
  refine Gs ?_
  refine Gm rfl ?_
  refine GL_callL rfl cf45 (.cons rfl (.cons rfl .nil)) (.cons .head (.cons .head .nil)) (rules_turn_tell_spec _ _ _ _ hg hb (by omega)) (fun v2 B hv => ?_)
  obtain ⟨y3, rfl, y4, rfl⟩ := hv
  refine Gn (.nil _) ?_
  refine Gs ?_
  refine Ga rfl (Ga rfl ?_)
  refine GL_nil ?_
  refine GQ_then ?_
  refine G_ret ?_
  refine GQ_then_ret ?_
  refine GQ_ret rfl (.tmp rfl (.tmp rfl .nil)) ?_
  intro w1 hS
  have hS := (hS.perm (Pulls.perm (.cons .head (.cons .head .nil)))).headL
  have hq : T.box u = _ := (if_t c1)
  refine ⟨_, ⟨?gq1, ?hv1, ?hl1, ?hB1⟩, hS⟩
  case hB1 => rw [hq]; (try rfl)
  case hv1 => rw [hq]; (try rfl)
  case hl1 => rw [hq]; assumption
 ·
  have c1p := c1; try simp only [kk] at c1p
  refine G_skip ?_
  refine GQ_sub (.t2 0 6) ?_
  refine GQ_then ?_
  refine Gss ?_
  refine Gm rfl (Gm rfl (Gt (PSn rfl) (Gt (PSf fa53_0 rfl) (Gt (PSf fa34_1 rfl) ?_))))
  refine Gt (PS_indexAddr ia29 rfl rfl (by first | omega | exact hb.1 | exact hb.2 | (dsimp only; omega)) (by first | omega | exact hb.1 | exact hb.2 | (dsimp only; omega))) ?_
  refine Gt (PSf fa28_4 rfl) ?_
  refine Gt (PS_load rfl tys4 (.head _) (((TurnV.l0.comp Land.l1).comp (Lens.ar (n := 9) Thing.fl (by first | omega | exact hb | (dsimp only; omega)))).comp Thing.l4) rfl rfl) ?_
  refine Gt (PS_not rfl) ?_
  refine Gn (.t3 0 6 37) ?_
  refine Gc (fun c2 => ?_) (fun c2 => ?_)
  ·
   have c2p := c2; try simp only [kk] at c2p
   refine Gs ?_
   refine Gm rfl ?_
   refine GL_callL rfl cf45 (.cons rfl (.cons rfl .nil)) (.cons .head (.cons .head .nil)) (rules_turn_tell_spec _ _ _ _ hg hb (by omega)) (fun v5 B hv => ?_)
   obtain ⟨y6, rfl, y7, rfl⟩ := hv
   refine Gn (.nil _) ?_
   refine Gs ?_
   refine Ga rfl (Ga rfl ?_)
   refine GL_nil ?_
   refine GQ_then ?_
   refine G_ret ?_
   refine GQ_then_ret ?_
   refine GQ_ret rfl (.tmp rfl (.tmp rfl .nil)) ?_
   intro w1 hS
   have hS := (hS.perm (Pulls.perm (.cons .head (.cons .head .nil)))).headL
   have hq : T.box u = _ := ((if_f c1).trans (if_t c2))
   refine ⟨_, ⟨?gq2, ?hv2, ?hl2, ?hB2⟩, hS⟩
   case hB2 => rw [hq]; (try rfl)
   case hv2 => rw [hq]; (try rfl)
   case hl2 => rw [hq]; assumption
  ·
   have c2p := c2; try simp only [kk] at c2p
   refine G_skip ?_
   refine GQ_sub (.t1 6) ?_
   refine GQ_then ?_
   refine Gs ?_
   refine Gm rfl (Ga rfl (Ga rfl ?_))
   refine Gn (.t2 4 5) ?_
   refine G_ret ?_
   refine GQ_ret rfl (.tmp rfl (.tmp rfl .nil)) ?_
   intro w1 hS
   have hS := (hS.perm (Pulls.perm (.cons .head (.cons .head .nil)))).headL
   have hq : T.box u = _ := ((if_f c1).trans (if_f c2))
   refine ⟨_, ⟨?gq3, ?hv3, ?hl3, ?hB3⟩, hS⟩
   case hB3 => rw [hq]; (try rfl)
   case hv3 => rw [hq]; (try rfl)
   case hl3 => rw [hq]; assumption
theorem rules_turn_thing_spec (b : Nat) (T : Turn) (g : Hd) (k i : Int) (hg : g.len = T.out.length) (hb : 0 ≤ T.b ∧ T.b < 6) (hi : 0 ≤ i ∧ i < 9) (hn : T.out.length ≤ 100000) : Ctr Tryz.prog 61 #[.pointer (some ⟨b, 0, none⟩), .int .i64 k, .int .i64 i] [Res.box b 53 (TurnV.enc ⟨T.w, T.b, g⟩), Res.own g 60 16 (T.out.flatMap Ing.Event.enc)] (fun v B => ∃ g' : Hd, v = .tuple #[] ∧ g'.len = (T.thing k i).out.length ∧ B = [Res.box b 53 (TurnV.enc ⟨(T.thing k i).w, (T.thing k i).b, g'⟩), Res.own g' 60 16 ((T.thing k i).out.flatMap Ing.Event.enc)]) := by
 intro w hS0
 refine Ret_body _ _ Tryz.func61 rfl rfl rfl (hS0) ?_
 refine G_region ?_
 refine Gm rfl (Gm rfl (Gm rfl (Gm rfl (Gt (PSn rfl) (Gt (PSf fa53_0 rfl) ?_)))))
 refine Gt (PSf fa34_1 rfl) ?_
 refine Gt (PS_indexAddr ia29 rfl rfl (by (try dsimp only at *); omega) (by (try dsimp only at *); omega)) ?_
 refine Gt (PSf fa28_0 rfl) ?_
 refine Gt (PS_load rfl tys9 (.head _) (((TurnV.l0.comp Land.l1).comp (Lens.arr (n := 9) Thing.fl (by (try dsimp only at *); omega) (by (try dsimp only at *); omega))).comp Thing.l0) rfl rfl) ?_
 refine Gt (PS_build pl60 zv60 rfl (.cons Ing.Event.l0 rfl rfl rfl (.cons Ing.Event.l3 rfl rfl rfl (.cons Ing.Event.l8 rfl rfl rfl .nil)))) ?_
 refine GL_callL rfl cf23 (.cons rfl (.cons rfl .nil)) (.cons .head (.cons .head .nil)) (rules_turn_happens_spec _ _ _ { Turn.evk k with thing := (T.w.things.at i).name } hg hb (show (-1 : Int) < 6 by decide) hn) (fun v1 B hv => ?_)
 obtain ⟨y2, rfl, y3, rfl⟩ := hv
 refine GL_nil ?_
 refine GQ_end rfl .nil ?_
 intro w1 hS
 have hS := (hS.perm (Pulls.perm (.cons .head (.cons .head .nil)))).headL
 exact ⟨_, ⟨_, rfl, by assumption, rfl⟩, hS⟩
theorem rules_turn_get_spec (b : Nat) (T : Turn) (g : Hd) (o : Order) (hg : g.len = T.out.length) (hF : T.Fit) (hu : o.second.length ≤ 5000000) (hn : T.out.length ≤ 90000) : CtrR Tryz.prog 32 #[.pointer (some ⟨b, 0, none⟩), .agg o.enc.toArray] [Res.box b 53 (TurnV.enc ⟨T.w, T.b, g⟩), Res.own g 60 16 (T.out.flatMap Ing.Event.enc)] (fun w => (GVE 3 w ∧ 3 ∉ feet [Res.box b 53 (TurnV.enc ⟨T.w, T.b, g⟩), Res.own g 60 16 (T.out.flatMap Ing.Event.enc)]) ∧ (GVE 4 w ∧ 4 ∉ feet [Res.box b 53 (TurnV.enc ⟨T.w, T.b, g⟩), Res.own g 60 16 (T.out.flatMap Ing.Event.enc)])) (fun v B => ∃ g' : Hd, v = .tuple #[] ∧ g'.len = (T.get o).out.length ∧ B = [Res.box b 53 (TurnV.enc ⟨(T.get o).w, (T.get o).b, g'⟩), Res.own g' 60 16 ((T.get o).out.flatMap Ing.Event.enc)]) := by
 intro w hS0 hH
 obtain ⟨⟨gl0, gm0⟩, ⟨gl1, gm1⟩⟩ := hH
 have hb := hF.b
 have hr := hF.room
 refine Ret_body _ _ Tryz.func32 rfl rfl rfl (hS0) ?_
 refine Gs ?_
 refine GL_box rfl rfl rfl (fun b1 => ?_)
 refine Gn (.t2 0 3) ?_
 refine Gs ?_
 refine Gm rfl ?_
 refine GL_callL rfl cf58 (.cons rfl .nil) (.cons (.tail .head) .nil) (rules_turn_seen_spec _ _ _ (by first | assumption | omega)) (fun v1 B hv => ?_)
 obtain ⟨y2, rfl, y3, rfl⟩ := hv
 refine Ga rfl ?_
 refine Gn (.t3 0 3 4) ?_
 refine Gss ?_
 refine Gt (PSf fa47_4 rfl) ?_
 refine Gt (PS_load rfl tys9 (.tail _ (.tail _ (.head _))) Order.l4 rfl rfl) ?_
 refine Gt (PS_neq_str rfl rfl) ?_
 refine Gn (.t4 0 3 4 14) ?_
 refine Gc (fun c1 => ?_) (fun c1 => ?_)
 ·
  have c1p := c1; try simp only [kk] at c1p
  refine Gs ?_
  refine Gm rfl (Gt (PSf fa47_4 rfl) ?_)
  refine Gt (PS_load rfl tys9 (.tail _ (.tail _ (.head _))) Order.l4 rfl rfl) ?_
  refine GL_callR rfl cf59 (.cons rfl (.cons rfl .nil)) (.cons .head (.cons (.tail (.tail .head)) .nil)) (rules_turn_box_spec _ T _ _ hg hF hu (by omega)) (fun w hS => ⟨gl0.pull gm0 hS (.cons .head (.cons (.tail (.tail .head)) .nil)), gl1.pull gm1 hS (.cons .head (.cons (.tail (.tail .head)) .nil))⟩) (fun v5 B hv => ?_)
  obtain ⟨y6, rfl, y7, rfl⟩ := hv
  refine Gm rfl ?_
  refine Gt (PS_extract rfl rfl) ?_
  refine Gt (PS_extract rfl rfl) ?_
  refine Ga rfl (Ga rfl ?_)
  refine Gn (.t4 0 3 5 6) ?_
  refine Gss ?_
  refine Gm rfl ?_
  refine Gt (PS_not rfl) ?_
  refine Gn (.t4 0 3 5 23) ?_
  refine Gc (fun c2 => ?_) (fun c2 => ?_)
  ·
   have c2p := c2; try simp only [kk] at c2p
   refine G_ret ?_
   refine GQ_then_ret ?_
   refine GQ_then_ret ?_
   refine GQ_ret rfl .nil ?_
   intro w1 hS
   have hS := (hS.perm (Pulls.perm (.cons .head (.cons .head .nil)))).headL
   have hq : T.get o = _ := ((if_t c1).trans (if_t c2))
   refine ⟨_, ⟨?gq1, rfl, ?hl1, ?hB1⟩, hS⟩
   case hB1 => rw [hq]; (try rfl)
   case hl1 => rw [hq]; assumption
  ·
   have c2p := c2; try simp only [kk] at c2p
   refine G_skip ?_
   refine GQ_sub (.t3 0 3 5) ?_
   refine GQ_then ?_
   refine G_region ?_
   refine Gm rfl (Gt (PSn rfl) (Gt (PSf fa53_0 rfl) ?_))
   refine Gt (PS_loadA rfl tya34 (.head _) TurnV.l0 rfl) ?_
   refine Gm rfl ?_
   refine GL_callL rfl cf29 (.cons rfl (.cons rfl (.cons rfl .nil))) .nil (land_Has_spec _ _ _) (fun v8 B hv => ?_)
   obtain ⟨y9, rfl, y10, rfl⟩ := hv
   refine Ga rfl ?_
   refine Gn (.t3 0 3 4) ?_
   refine Gs ?_
   refine Gm rfl (Gm rfl (Gt (PSf fa47_1 rfl) ?_))
   refine Gt (PS_load rfl tys3 (.tail _ (.tail _ (.tail _ (.tail _ (.head _))))) Order.l1 rfl rfl) ?_
   refine Gt (PSf fa47_3 rfl) ?_
   refine Gt (PS_load rfl tys9 (.tail _ (.tail _ (.tail _ (.tail _ (.head _))))) Order.l3 rfl rfl) ?_
   refine Gt (PSf fa47_2 rfl) ?_
   refine Gt (PS_load rfl tys4 (.tail _ (.tail _ (.tail _ (.tail _ (.head _))))) Order.l2 rfl rfl) ?_
   refine GL_callL rfl cf60 (.cons rfl (.cons rfl (.cons rfl (.cons rfl (.cons rfl .nil))))) (.cons (.tail .head) (.cons .head .nil)) (rules_turn_pick_spec _ (T.box o.second).1 _ _ ((T.box o.second).1.w.has 2 (T.box o.second).2.1) _ _ _ (hF.of_w (T.box_w _).1 (T.box_w _).2) (by assumption) (Nat.le_trans (Land.has_le _ _ _) (by decide)) (fun i hi => Land.has_mem hi)) (fun v12 B hv => ?_)
   obtain ⟨y13, rfl, y14, rfl⟩ := hv
   refine Ga rfl ?_
   refine Gn (.t2 0 4) ?_
   refine Gss ?_
   refine Gm rfl ?_
   refine Gt (PS_len_slice rfl Tryz.underlying66 rfl) ?_
   refine Gt (PS_eql rfl rfl) ?_
   refine Gn (.t3 0 4 41) ?_
   refine Gc (fun c3 => ?_) (fun c3 => ?_)
   ·
    have c3p := c3; try simp only [kk] at c3p
    rw [y14] at c3
    refine G_region ?_
    refine Gm rfl ?_
    refine GL_callL rfl cf45 (.cons rfl (.cons rfl .nil)) (.cons .head (.cons (.tail (.tail .head)) .nil)) (rules_turn_tell_spec _ (T.box o.second).1 _ _ (by assumption) (by rw [(T.box_w _).2]; exact hb) (by have := T.box_out o.second; omega)) (fun v16 B hv => ?_)
    obtain ⟨y17, rfl, y18, rfl⟩ := hv
    refine Gn (.t2 0 4) ?_
    refine Gs ?_
    refine Gm rfl ?_
    refine Gt (PS_len_slice rfl Tryz.underlying66 rfl) ?_
    refine Gm rfl ?_
    refine Gn (.t4 0 44 45 46) ?_
    refine G_block ?_
    refine G_subF (.t4 46 0 44 45) ?_
    refine G_pull (.tail .head) ?_
    refine G_pull (.tail .head) ?_
    refine G_loop3_ (fun (k : Int) (X : Turn) (h : Hd) => 0 ≤ k ∧ k ≤ ((Turn.pickL (T.box o.second).1.w ((T.box o.second).1.w.has 2 (T.box o.second).2.1) o.nth o.name o.all_).length : Int) ∧ T.get o = X.takeAll ((Turn.pickL (T.box o.second).1.w ((T.box o.second).1.w.has 2 (T.box o.second).2.1) o.nth o.name o.all_).drop k.toNat) ∧ X.b = T.b ∧ (X.out.length : Int) ≤ T.out.length + 2 + k ∧ h.len = X.out.length ∧ ((Turn.pickL (T.box o.second).1.w ((T.box o.second).1.w.has 2 (T.box o.second).2.1) o.nth o.name o.all_).length : Int) ≤ 9) (fun (k : Int) (X : Turn) (h : Hd) => (((Turn.pickL (T.box o.second).1.w ((T.box o.second).1.w.has 2 (T.box o.second).2.1) o.nth o.name o.all_).length : Int) - k).toNat) (fun (k : Int) (X : Turn) (h : Hd) => [(46, .int .i64 k)]) (fun (k : Int) (X : Turn) (h : Hd) => [Res.box b 53 (TurnV.enc ⟨X.w, X.b, h⟩), Res.own h 60 16 (X.out.flatMap Ing.Event.enc)]) (0) (_) (_) ?_ rfl rfl (fun k X h hI1 => ?_)
    · exact ⟨by omega, by omega, ((if_t c1).trans (if_f c2)).trans (congrArg (fun q => Turn.takeAll q _) (if_t c3)), (T.box_w _).2, by have := T.box_out o.second; (try simp only [Turn.tell_len]); omega, by assumption, by have := (Turn.pickL_sub (T.box o.second).1.w ((T.box o.second).1.w.has 2 (T.box o.second).2.1) o.nth o.name o.all_).length_le; have := Land.has_le (T.box o.second).1.w 2 (T.box o.second).2.1; omega⟩
    obtain ⟨hI11, hI12, hI13, hI14, hI15, hI16, hI17⟩ := hI1
    refine Gs ?_
    refine Gt (PS_lss rfl rfl) ?_
    refine GL_nil ?_
    refine GQ_then ?_
    refine G_seq ?_
    refine Gc (fun c4 => ?_) (fun c4 => ?_)
    ·
     have c4p := c4; try simp only [kk] at c4p
     have hx : 0 ≤ (Turn.pickL (T.box o.second).1.w ((T.box o.second).1.w.has 2 (T.box o.second).2.1) o.nth o.name o.all_).getD k.toNat 0 ∧ (Turn.pickL (T.box o.second).1.w ((T.box o.second).1.w.has 2 (T.box o.second).2.1) o.nth o.name o.all_).getD k.toNat 0 < 9 := (fun i hi => Land.has_mem (Turn.pickL_mem hi)) _ (Line.getD_memI (xs := (Turn.pickL (T.box o.second).1.w ((T.box o.second).1.w.has 2 (T.box o.second).2.1) o.nth o.name o.all_)) (i := k.toNat) (by omega))
     refine G_skip ?_
     refine GQ_sub (.t4 0 44 45 46) ?_
     refine GQ_then ?_
     refine G_seq ?_
     refine G_block ?_
     refine Gs ?_
     refine Gt (PS_idxS is66 (by decide) (Kn.own (.tail _ (.tail _ (.tail _ (.head _))))) rfl rfl (by omega) (by omega)) ?_
     refine Gt (PS_ldInt rfl tys3 (Kn.own (.tail _ (.tail _ (.tail _ (.head _))))) (by omega)) ?_
     refine Ga rfl ?_
     refine Gn (.t5 0 8 44 45 46) ?_
     refine Gs ?_
     refine Gm rfl (Gm rfl (Gt (PSn rfl) (Gt (PSf fa53_0 rfl) (Gt (PSf fa34_1 rfl) ?_))))
     refine Gt (PS_indexAddr ia29 rfl rfl (by first | omega | exact hb.1 | exact hb.2 | (dsimp only; omega)) (by first | omega | exact hb.1 | exact hb.2 | (dsimp only; omega))) ?_
     refine Ga rfl ?_
     refine Gn (.t6 0 8 9 44 45 46) ?_
     refine Gs ?_
     refine Gm rfl (Gm rfl (Gm rfl (Gt (PSn rfl) (Gt (PSf fa53_1 rfl) ?_))))
     refine Gt (PS_load rfl tys3 (.head _) TurnV.l1 rfl rfl) ?_
     refine Gt (PSn rfl) (Gt (PSf fa28_2 rfl) ?_)
     refine GL_unit (PU_store (((TurnV.l0.comp Land.l1).comp (Lens.ar (n := 9) Thing.fl (by first | omega | exact hb | (dsimp only; omega)))).comp Thing.l2) rfl rfl rfl sz3 rfl .head) ?_
     refine Gt (PSn rfl) (Gt (PSf fa28_3 rfl) ?_)
     refine GL_unit (PU_store (((TurnV.l0.comp Land.l1).comp (Lens.ar (n := 9) Thing.fl (by first | omega | exact hb | (dsimp only; omega)))).comp Thing.l3) rfl rfl rfl sz3 rfl .head) ?_
     refine Gn (.t5 0 8 44 45 46) ?_
     refine G_swap (fun _ => .head) (congrArg (fun q => TurnV.enc ⟨q, _, _⟩) (Turn.place_eq X hx.1 hx.2 1 X.b)) ?_
     refine G_region ?_
     refine Gm rfl (Gm rfl ?_)
     refine GL_callL rfl cf61 (.cons rfl (.cons rfl (.cons rfl .nil))) (.cons .head (.cons .head .nil)) (rules_turn_thing_spec _ (X.place ((Turn.pickL (T.box o.second).1.w ((T.box o.second).1.w.has 2 (T.box o.second).2.1) o.nth o.name o.all_).getD k.toNat 0) 1 X.b) _ 3 ((Turn.pickL (T.box o.second).1.w ((T.box o.second).1.w.has 2 (T.box o.second).2.1) o.nth o.name o.all_).getD k.toNat 0) (by assumption) (show 0 ≤ X.b ∧ X.b < 6 by rw [hI14]; exact hb) hx (show X.out.length ≤ 100000 by omega)) (fun v19 B hv => ?_)
     obtain ⟨y20, rfl, y21, rfl⟩ := hv
     refine GL_nil (GQ_sub (.t4 0 44 45 46) ?_)
     refine GQ_block ?_
     refine GQ_then ?_
     refine G_region ?_
     refine Gt (PS_add rfl rfl (IntWalk.i64_in _ (by first | omega | exact hb.1 | exact hb.2 | (dsimp only; omega)))) ?_
     refine Gm rfl ?_
     refine GL_nil (GQ_sub (.t4 0 44 45 46) ?_)
     refine GQ_next3_ (k + 1) _ _ ?_ ?_ (.t4 46 0 44 45) (.refl _)
     · exact ⟨by omega, by omega, by rw [hI13, Turn.takeAll_step hI11 (by omega)], hI14, (by rw [Turn.thing_len]; show ((X.out.length + 1 : Nat) : Int) ≤ _; omega), by assumption, hI17⟩
     · omega
    ·
     have c4p := c4; try simp only [kk] at c4p
     obtain rfl : k = ((Turn.pickL (T.box o.second).1.w ((T.box o.second).1.w.has 2 (T.box o.second).2.1) o.nth o.name o.all_).length : Int) := by omega
     rw [Turn.drop_end] at hI13
     refine G_exit ?_
     refine GQ_then_exit ?_
     refine GQ_then_exit ?_
     refine GQ_block_exit ?_
     refine GQ_end rfl .nil ?_
     intro w1 hS
     have hS := (hS.perm (Pulls.perm (.cons .head (.cons .head .nil)))).headL
     refine ⟨_, ⟨?gq2, rfl, ?hl2, ?hB2⟩, hS⟩
     case hB2 => rw [hI13]; rfl
     case hl2 => rw [hI13]; exact hI16
   ·
    have c3p := c3; try simp only [kk] at c3p
    rw [y14] at c3
    refine G_skip ?_
    refine GQ_sub (.t2 0 4) ?_
    refine GQ_then ?_
    refine Gs ?_
    refine Gm rfl ?_
    refine Gt (PS_len_slice rfl Tryz.underlying66 rfl) ?_
    refine Gm rfl ?_
    refine Gn (.t4 0 44 45 46) ?_
    refine G_block ?_
    refine G_subF (.t4 46 0 44 45) ?_
    refine G_pull (.tail (.tail (.tail .head))) ?_
    refine G_pull (.tail .head) ?_
    refine G_loop3_ (fun (k : Int) (X : Turn) (h : Hd) => 0 ≤ k ∧ k ≤ ((Turn.pickL (T.box o.second).1.w ((T.box o.second).1.w.has 2 (T.box o.second).2.1) o.nth o.name o.all_).length : Int) ∧ T.get o = X.takeAll ((Turn.pickL (T.box o.second).1.w ((T.box o.second).1.w.has 2 (T.box o.second).2.1) o.nth o.name o.all_).drop k.toNat) ∧ X.b = T.b ∧ (X.out.length : Int) ≤ T.out.length + 2 + k ∧ h.len = X.out.length ∧ ((Turn.pickL (T.box o.second).1.w ((T.box o.second).1.w.has 2 (T.box o.second).2.1) o.nth o.name o.all_).length : Int) ≤ 9) (fun (k : Int) (X : Turn) (h : Hd) => (((Turn.pickL (T.box o.second).1.w ((T.box o.second).1.w.has 2 (T.box o.second).2.1) o.nth o.name o.all_).length : Int) - k).toNat) (fun (k : Int) (X : Turn) (h : Hd) => [(46, .int .i64 k)]) (fun (k : Int) (X : Turn) (h : Hd) => [Res.box b 53 (TurnV.enc ⟨X.w, X.b, h⟩), Res.own h 60 16 (X.out.flatMap Ing.Event.enc)]) (0) (_) (_) ?_ rfl rfl (fun k X h hI1 => ?_)
    · exact ⟨by omega, by omega, ((if_t c1).trans (if_f c2)).trans (congrArg (fun q => Turn.takeAll q _) (if_f c3)), (T.box_w _).2, by have := T.box_out o.second; (try simp only [Turn.tell_len]); omega, by assumption, by have := (Turn.pickL_sub (T.box o.second).1.w ((T.box o.second).1.w.has 2 (T.box o.second).2.1) o.nth o.name o.all_).length_le; have := Land.has_le (T.box o.second).1.w 2 (T.box o.second).2.1; omega⟩
    obtain ⟨hI11, hI12, hI13, hI14, hI15, hI16, hI17⟩ := hI1
    refine Gs ?_
    refine Gt (PS_lss rfl rfl) ?_
    refine GL_nil ?_
    refine GQ_then ?_
    refine G_seq ?_
    refine Gc (fun c5 => ?_) (fun c5 => ?_)
    ·
     have c5p := c5; try simp only [kk] at c5p
     have hx : 0 ≤ (Turn.pickL (T.box o.second).1.w ((T.box o.second).1.w.has 2 (T.box o.second).2.1) o.nth o.name o.all_).getD k.toNat 0 ∧ (Turn.pickL (T.box o.second).1.w ((T.box o.second).1.w.has 2 (T.box o.second).2.1) o.nth o.name o.all_).getD k.toNat 0 < 9 := (fun i hi => Land.has_mem (Turn.pickL_mem hi)) _ (Line.getD_memI (xs := (Turn.pickL (T.box o.second).1.w ((T.box o.second).1.w.has 2 (T.box o.second).2.1) o.nth o.name o.all_)) (i := k.toNat) (by omega))
     refine G_skip ?_
     refine GQ_sub (.t4 0 44 45 46) ?_
     refine GQ_then ?_
     refine G_seq ?_
     refine G_block ?_
     refine Gs ?_
     refine Gt (PS_idxS is66 (by decide) (Kn.own (.tail _ (.tail _ (.tail _ (.head _))))) rfl rfl (by omega) (by omega)) ?_
     refine Gt (PS_ldInt rfl tys3 (Kn.own (.tail _ (.tail _ (.tail _ (.head _))))) (by omega)) ?_
     refine Ga rfl ?_
     refine Gn (.t5 0 8 44 45 46) ?_
     refine Gs ?_
     refine Gm rfl (Gm rfl (Gt (PSn rfl) (Gt (PSf fa53_0 rfl) (Gt (PSf fa34_1 rfl) ?_))))
     refine Gt (PS_indexAddr ia29 rfl rfl (by first | omega | exact hb.1 | exact hb.2 | (dsimp only; omega)) (by first | omega | exact hb.1 | exact hb.2 | (dsimp only; omega))) ?_
     refine Ga rfl ?_
     refine Gn (.t6 0 8 9 44 45 46) ?_
     refine Gs ?_
     refine Gm rfl (Gm rfl (Gm rfl (Gt (PSn rfl) (Gt (PSf fa53_1 rfl) ?_))))
     refine Gt (PS_load rfl tys3 (.head _) TurnV.l1 rfl rfl) ?_
     refine Gt (PSn rfl) (Gt (PSf fa28_2 rfl) ?_)
     refine GL_unit (PU_store (((TurnV.l0.comp Land.l1).comp (Lens.ar (n := 9) Thing.fl (by first | omega | exact hb | (dsimp only; omega)))).comp Thing.l2) rfl rfl rfl sz3 rfl .head) ?_
     refine Gt (PSn rfl) (Gt (PSf fa28_3 rfl) ?_)
     refine GL_unit (PU_store (((TurnV.l0.comp Land.l1).comp (Lens.ar (n := 9) Thing.fl (by first | omega | exact hb | (dsimp only; omega)))).comp Thing.l3) rfl rfl rfl sz3 rfl .head) ?_
     refine Gn (.t5 0 8 44 45 46) ?_
     refine G_swap (fun _ => .head) (congrArg (fun q => TurnV.enc ⟨q, _, _⟩) (Turn.place_eq X hx.1 hx.2 1 X.b)) ?_
     refine G_region ?_
     refine Gm rfl (Gm rfl ?_)
     refine GL_callL rfl cf61 (.cons rfl (.cons rfl (.cons rfl .nil))) (.cons .head (.cons .head .nil)) (rules_turn_thing_spec _ (X.place ((Turn.pickL (T.box o.second).1.w ((T.box o.second).1.w.has 2 (T.box o.second).2.1) o.nth o.name o.all_).getD k.toNat 0) 1 X.b) _ 3 ((Turn.pickL (T.box o.second).1.w ((T.box o.second).1.w.has 2 (T.box o.second).2.1) o.nth o.name o.all_).getD k.toNat 0) (by assumption) (show 0 ≤ X.b ∧ X.b < 6 by rw [hI14]; exact hb) hx (show X.out.length ≤ 100000 by omega)) (fun v22 B hv => ?_)
     obtain ⟨y23, rfl, y24, rfl⟩ := hv
     refine GL_nil (GQ_sub (.t4 0 44 45 46) ?_)
     refine GQ_block ?_
     refine GQ_then ?_
     refine G_region ?_
     refine Gt (PS_add rfl rfl (IntWalk.i64_in _ (by first | omega | exact hb.1 | exact hb.2 | (dsimp only; omega)))) ?_
     refine Gm rfl ?_
     refine GL_nil (GQ_sub (.t4 0 44 45 46) ?_)
     refine GQ_next3_ (k + 1) _ _ ?_ ?_ (.t4 46 0 44 45) (.refl _)
     · exact ⟨by omega, by omega, by rw [hI13, Turn.takeAll_step hI11 (by omega)], hI14, (by rw [Turn.thing_len]; show ((X.out.length + 1 : Nat) : Int) ≤ _; omega), by assumption, hI17⟩
     · omega
    ·
     have c5p := c5; try simp only [kk] at c5p
     obtain rfl : k = ((Turn.pickL (T.box o.second).1.w ((T.box o.second).1.w.has 2 (T.box o.second).2.1) o.nth o.name o.all_).length : Int) := by omega
     rw [Turn.drop_end] at hI13
     refine G_exit ?_
     refine GQ_then_exit ?_
     refine GQ_then_exit ?_
     refine GQ_block_exit ?_
     refine GQ_end rfl .nil ?_
     intro w1 hS
     have hS := (hS.perm (Pulls.perm (.cons .head (.cons .head .nil)))).headL
     refine ⟨_, ⟨?gq3, rfl, ?hl3, ?hB3⟩, hS⟩
     case hB3 => rw [hI13]; rfl
     case hl3 => rw [hI13]; exact hI16
 ·
  have c1p := c1; try simp only [kk] at c1p
  refine G_skip ?_
  refine GQ_sub (.t3 0 3 4) ?_
  refine GQ_then ?_
  refine Gs ?_
  refine Gm rfl (Gm rfl (Gt (PSf fa47_1 rfl) ?_))
  refine Gt (PS_load rfl tys3 (.tail _ (.tail _ (.head _))) Order.l1 rfl rfl) ?_
  refine Gt (PSf fa47_3 rfl) ?_
  refine Gt (PS_load rfl tys9 (.tail _ (.tail _ (.head _))) Order.l3 rfl rfl) ?_
  refine Gt (PSf fa47_2 rfl) ?_
  refine Gt (PS_load rfl tys4 (.tail _ (.tail _ (.head _))) Order.l2 rfl rfl) ?_
  refine GL_callL rfl cf60 (.cons rfl (.cons rfl (.cons rfl (.cons rfl (.cons rfl .nil))))) (.cons .head (.cons .head .nil)) (rules_turn_pick_spec _ T _ _ T.seen _ _ _ hF (by assumption) (Nat.le_trans T.seen_len (by decide)) (fun i hi => Turn.seen_rng hi)) (fun v25 B hv => ?_)
  obtain ⟨y26, rfl, y27, rfl⟩ := hv
  refine Ga rfl ?_
  refine Gn (.t2 0 4) ?_
  refine Gss ?_
  refine Gm rfl ?_
  refine Gt (PS_len_slice rfl Tryz.underlying66 rfl) ?_
  refine Gt (PS_eql rfl rfl) ?_
  refine Gn (.t3 0 4 41) ?_
  refine Gc (fun c6 => ?_) (fun c6 => ?_)
  ·
   have c6p := c6; try simp only [kk] at c6p
   rw [y27] at c6
   refine G_region ?_
   refine Gm rfl ?_
   refine GL_callL rfl cf45 (.cons rfl (.cons rfl .nil)) (.cons .head (.cons (.tail (.tail (.tail .head))) .nil)) (rules_turn_tell_spec _ T _ _ (by assumption) (by exact hb) (by have := T.box_out o.second; omega)) (fun v29 B hv => ?_)
   obtain ⟨y30, rfl, y31, rfl⟩ := hv
   refine Gn (.t2 0 4) ?_
   refine Gs ?_
   refine Gm rfl ?_
   refine Gt (PS_len_slice rfl Tryz.underlying66 rfl) ?_
   refine Gm rfl ?_
   refine Gn (.t4 0 44 45 46) ?_
   refine G_block ?_
   refine G_subF (.t4 46 0 44 45) ?_
   refine G_pull (.tail .head) ?_
   refine G_pull (.tail .head) ?_
   refine G_loop3_ (fun (k : Int) (X : Turn) (h : Hd) => 0 ≤ k ∧ k ≤ ((Turn.pickL T.w T.seen o.nth o.name o.all_).length : Int) ∧ T.get o = X.takeAll ((Turn.pickL T.w T.seen o.nth o.name o.all_).drop k.toNat) ∧ X.b = T.b ∧ (X.out.length : Int) ≤ T.out.length + 2 + k ∧ h.len = X.out.length ∧ ((Turn.pickL T.w T.seen o.nth o.name o.all_).length : Int) ≤ 9) (fun (k : Int) (X : Turn) (h : Hd) => (((Turn.pickL T.w T.seen o.nth o.name o.all_).length : Int) - k).toNat) (fun (k : Int) (X : Turn) (h : Hd) => [(46, .int .i64 k)]) (fun (k : Int) (X : Turn) (h : Hd) => [Res.box b 53 (TurnV.enc ⟨X.w, X.b, h⟩), Res.own h 60 16 (X.out.flatMap Ing.Event.enc)]) (0) (_) (_) ?_ rfl rfl (fun k X h hI1 => ?_)
   · exact ⟨by omega, by omega, (if_f c1).trans (congrArg (fun q => Turn.takeAll q _) (if_t c6)), rfl, by have := T.box_out o.second; (try simp only [Turn.tell_len]); omega, by assumption, by have := (Turn.pickL_sub T.w T.seen o.nth o.name o.all_).length_le; have := T.seen_len; omega⟩
   obtain ⟨hI11, hI12, hI13, hI14, hI15, hI16, hI17⟩ := hI1
   refine Gs ?_
   refine Gt (PS_lss rfl rfl) ?_
   refine GL_nil ?_
   refine GQ_then ?_
   refine G_seq ?_
   refine Gc (fun c7 => ?_) (fun c7 => ?_)
   ·
    have c7p := c7; try simp only [kk] at c7p
    have hx : 0 ≤ (Turn.pickL T.w T.seen o.nth o.name o.all_).getD k.toNat 0 ∧ (Turn.pickL T.w T.seen o.nth o.name o.all_).getD k.toNat 0 < 9 := (fun i hi => Turn.seen_rng (Turn.pickL_mem hi)) _ (Line.getD_memI (xs := (Turn.pickL T.w T.seen o.nth o.name o.all_)) (i := k.toNat) (by omega))
    refine G_skip ?_
    refine GQ_sub (.t4 0 44 45 46) ?_
    refine GQ_then ?_
    refine G_seq ?_
    refine G_block ?_
    refine Gs ?_
    refine Gt (PS_idxS is66 (by decide) (Kn.own (.tail _ (.tail _ (.tail _ (.head _))))) rfl rfl (by omega) (by omega)) ?_
    refine Gt (PS_ldInt rfl tys3 (Kn.own (.tail _ (.tail _ (.tail _ (.head _))))) (by omega)) ?_
    refine Ga rfl ?_
    refine Gn (.t5 0 8 44 45 46) ?_
    refine Gs ?_
    refine Gm rfl (Gm rfl (Gt (PSn rfl) (Gt (PSf fa53_0 rfl) (Gt (PSf fa34_1 rfl) ?_))))
    refine Gt (PS_indexAddr ia29 rfl rfl (by first | omega | exact hb.1 | exact hb.2 | (dsimp only; omega)) (by first | omega | exact hb.1 | exact hb.2 | (dsimp only; omega))) ?_
    refine Ga rfl ?_
    refine Gn (.t6 0 8 9 44 45 46) ?_
    refine Gs ?_
    refine Gm rfl (Gm rfl (Gm rfl (Gt (PSn rfl) (Gt (PSf fa53_1 rfl) ?_))))
    refine Gt (PS_load rfl tys3 (.head _) TurnV.l1 rfl rfl) ?_
    refine Gt (PSn rfl) (Gt (PSf fa28_2 rfl) ?_)
    refine GL_unit (PU_store (((TurnV.l0.comp Land.l1).comp (Lens.ar (n := 9) Thing.fl (by first | omega | exact hb | (dsimp only; omega)))).comp Thing.l2) rfl rfl rfl sz3 rfl .head) ?_
    refine Gt (PSn rfl) (Gt (PSf fa28_3 rfl) ?_)
    refine GL_unit (PU_store (((TurnV.l0.comp Land.l1).comp (Lens.ar (n := 9) Thing.fl (by first | omega | exact hb | (dsimp only; omega)))).comp Thing.l3) rfl rfl rfl sz3 rfl .head) ?_
    refine Gn (.t5 0 8 44 45 46) ?_
    refine G_swap (fun _ => .head) (congrArg (fun q => TurnV.enc ⟨q, _, _⟩) (Turn.place_eq X hx.1 hx.2 1 X.b)) ?_
    refine G_region ?_
    refine Gm rfl (Gm rfl ?_)
    refine GL_callL rfl cf61 (.cons rfl (.cons rfl (.cons rfl .nil))) (.cons .head (.cons .head .nil)) (rules_turn_thing_spec _ (X.place ((Turn.pickL T.w T.seen o.nth o.name o.all_).getD k.toNat 0) 1 X.b) _ 3 ((Turn.pickL T.w T.seen o.nth o.name o.all_).getD k.toNat 0) (by assumption) (show 0 ≤ X.b ∧ X.b < 6 by rw [hI14]; exact hb) hx (show X.out.length ≤ 100000 by omega)) (fun v32 B hv => ?_)
    obtain ⟨y33, rfl, y34, rfl⟩ := hv
    refine GL_nil (GQ_sub (.t4 0 44 45 46) ?_)
    refine GQ_block ?_
    refine GQ_then ?_
    refine G_region ?_
    refine Gt (PS_add rfl rfl (IntWalk.i64_in _ (by first | omega | exact hb.1 | exact hb.2 | (dsimp only; omega)))) ?_
    refine Gm rfl ?_
    refine GL_nil (GQ_sub (.t4 0 44 45 46) ?_)
    refine GQ_next3_ (k + 1) _ _ ?_ ?_ (.t4 46 0 44 45) (.refl _)
    · exact ⟨by omega, by omega, by rw [hI13, Turn.takeAll_step hI11 (by omega)], hI14, (by rw [Turn.thing_len]; show ((X.out.length + 1 : Nat) : Int) ≤ _; omega), by assumption, hI17⟩
    · omega
   ·
    have c7p := c7; try simp only [kk] at c7p
    obtain rfl : k = ((Turn.pickL T.w T.seen o.nth o.name o.all_).length : Int) := by omega
    rw [Turn.drop_end] at hI13
    refine G_exit ?_
    refine GQ_then_exit ?_
    refine GQ_then_exit ?_
    refine GQ_block_exit ?_
    refine GQ_end rfl .nil ?_
    intro w1 hS
    have hS := (hS.perm (Pulls.perm (.cons .head (.cons .head .nil)))).headL
    refine ⟨_, ⟨?gq4, rfl, ?hl4, ?hB4⟩, hS⟩
    case hB4 => rw [hI13]; rfl
    case hl4 => rw [hI13]; exact hI16
  ·
   have c6p := c6; try simp only [kk] at c6p
   rw [y27] at c6
   refine G_skip ?_
   refine GQ_sub (.t2 0 4) ?_
   refine GQ_then ?_
   refine Gs ?_
   refine Gm rfl ?_
   refine Gt (PS_len_slice rfl Tryz.underlying66 rfl) ?_
   refine Gm rfl ?_
   refine Gn (.t4 0 44 45 46) ?_
   refine G_block ?_
   refine G_subF (.t4 46 0 44 45) ?_
   refine G_pull (.tail (.tail (.tail (.tail .head)))) ?_
   refine G_pull (.tail .head) ?_
   refine G_loop3_ (fun (k : Int) (X : Turn) (h : Hd) => 0 ≤ k ∧ k ≤ ((Turn.pickL T.w T.seen o.nth o.name o.all_).length : Int) ∧ T.get o = X.takeAll ((Turn.pickL T.w T.seen o.nth o.name o.all_).drop k.toNat) ∧ X.b = T.b ∧ (X.out.length : Int) ≤ T.out.length + 2 + k ∧ h.len = X.out.length ∧ ((Turn.pickL T.w T.seen o.nth o.name o.all_).length : Int) ≤ 9) (fun (k : Int) (X : Turn) (h : Hd) => (((Turn.pickL T.w T.seen o.nth o.name o.all_).length : Int) - k).toNat) (fun (k : Int) (X : Turn) (h : Hd) => [(46, .int .i64 k)]) (fun (k : Int) (X : Turn) (h : Hd) => [Res.box b 53 (TurnV.enc ⟨X.w, X.b, h⟩), Res.own h 60 16 (X.out.flatMap Ing.Event.enc)]) (0) (_) (_) ?_ rfl rfl (fun k X h hI1 => ?_)
   · exact ⟨by omega, by omega, (if_f c1).trans (congrArg (fun q => Turn.takeAll q _) (if_f c6)), rfl, by have := T.box_out o.second; (try simp only [Turn.tell_len]); omega, by assumption, by have := (Turn.pickL_sub T.w T.seen o.nth o.name o.all_).length_le; have := T.seen_len; omega⟩
   obtain ⟨hI11, hI12, hI13, hI14, hI15, hI16, hI17⟩ := hI1
   refine Gs ?_
   refine Gt (PS_lss rfl rfl) ?_
   refine GL_nil ?_
   refine GQ_then ?_
   refine G_seq ?_
   refine Gc (fun c8 => ?_) (fun c8 => ?_)
   ·
    have c8p := c8; try simp only [kk] at c8p
    have hx : 0 ≤ (Turn.pickL T.w T.seen o.nth o.name o.all_).getD k.toNat 0 ∧ (Turn.pickL T.w T.seen o.nth o.name o.all_).getD k.toNat 0 < 9 := (fun i hi => Turn.seen_rng (Turn.pickL_mem hi)) _ (Line.getD_memI (xs := (Turn.pickL T.w T.seen o.nth o.name o.all_)) (i := k.toNat) (by omega))
    refine G_skip ?_
    refine GQ_sub (.t4 0 44 45 46) ?_
    refine GQ_then ?_
    refine G_seq ?_
    refine G_block ?_
    refine Gs ?_
    refine Gt (PS_idxS is66 (by decide) (Kn.own (.tail _ (.tail _ (.tail _ (.head _))))) rfl rfl (by omega) (by omega)) ?_
    refine Gt (PS_ldInt rfl tys3 (Kn.own (.tail _ (.tail _ (.tail _ (.head _))))) (by omega)) ?_
    refine Ga rfl ?_
    refine Gn (.t5 0 8 44 45 46) ?_
    refine Gs ?_
    refine Gm rfl (Gm rfl (Gt (PSn rfl) (Gt (PSf fa53_0 rfl) (Gt (PSf fa34_1 rfl) ?_))))
    refine Gt (PS_indexAddr ia29 rfl rfl (by first | omega | exact hb.1 | exact hb.2 | (dsimp only; omega)) (by first | omega | exact hb.1 | exact hb.2 | (dsimp only; omega))) ?_
    refine Ga rfl ?_
    refine Gn (.t6 0 8 9 44 45 46) ?_
    refine Gs ?_
    refine Gm rfl (Gm rfl (Gm rfl (Gt (PSn rfl) (Gt (PSf fa53_1 rfl) ?_))))
    refine Gt (PS_load rfl tys3 (.head _) TurnV.l1 rfl rfl) ?_
    refine Gt (PSn rfl) (Gt (PSf fa28_2 rfl) ?_)
    refine GL_unit (PU_store (((TurnV.l0.comp Land.l1).comp (Lens.ar (n := 9) Thing.fl (by first | omega | exact hb | (dsimp only; omega)))).comp Thing.l2) rfl rfl rfl sz3 rfl .head) ?_
    refine Gt (PSn rfl) (Gt (PSf fa28_3 rfl) ?_)
    refine GL_unit (PU_store (((TurnV.l0.comp Land.l1).comp (Lens.ar (n := 9) Thing.fl (by first | omega | exact hb | (dsimp only; omega)))).comp Thing.l3) rfl rfl rfl sz3 rfl .head) ?_
    refine Gn (.t5 0 8 44 45 46) ?_
    refine G_swap (fun _ => .head) (congrArg (fun q => TurnV.enc ⟨q, _, _⟩) (Turn.place_eq X hx.1 hx.2 1 X.b)) ?_
    refine G_region ?_
    refine Gm rfl (Gm rfl ?_)
    refine GL_callL rfl cf61 (.cons rfl (.cons rfl (.cons rfl .nil))) (.cons .head (.cons .head .nil)) (rules_turn_thing_spec _ (X.place ((Turn.pickL T.w T.seen o.nth o.name o.all_).getD k.toNat 0) 1 X.b) _ 3 ((Turn.pickL T.w T.seen o.nth o.name o.all_).getD k.toNat 0) (by assumption) (show 0 ≤ X.b ∧ X.b < 6 by rw [hI14]; exact hb) hx (show X.out.length ≤ 100000 by omega)) (fun v35 B hv => ?_)
    obtain ⟨y36, rfl, y37, rfl⟩ := hv
    refine GL_nil (GQ_sub (.t4 0 44 45 46) ?_)
    refine GQ_block ?_
    refine GQ_then ?_
    refine G_region ?_
    refine Gt (PS_add rfl rfl (IntWalk.i64_in _ (by first | omega | exact hb.1 | exact hb.2 | (dsimp only; omega)))) ?_
    refine Gm rfl ?_
    refine GL_nil (GQ_sub (.t4 0 44 45 46) ?_)
    refine GQ_next3_ (k + 1) _ _ ?_ ?_ (.t4 46 0 44 45) (.refl _)
    · exact ⟨by omega, by omega, by rw [hI13, Turn.takeAll_step hI11 (by omega)], hI14, (by rw [Turn.thing_len]; show ((X.out.length + 1 : Nat) : Int) ≤ _; omega), by assumption, hI17⟩
    · omega
   ·
    have c8p := c8; try simp only [kk] at c8p
    obtain rfl : k = ((Turn.pickL T.w T.seen o.nth o.name o.all_).length : Int) := by omega
    rw [Turn.drop_end] at hI13
    refine G_exit ?_
    refine GQ_then_exit ?_
    refine GQ_then_exit ?_
    refine GQ_block_exit ?_
    refine GQ_end rfl .nil ?_
    intro w1 hS
    have hS := (hS.perm (Pulls.perm (.cons .head (.cons .head .nil)))).headL
    refine ⟨_, ⟨?gq5, rfl, ?hl5, ?hB5⟩, hS⟩
    case hB5 => rw [hI13]; rfl
    case hl5 => rw [hI13]; exact hI16
theorem land_Inside_spec (X : Land) (i box : Int) (w : World) : Ret Tryz.prog 63 #[.agg X.enc.toArray, .int .i64 i, .int .i64 box] w fun v w' => v = .bool (X.isIn i box) ∧ Keep w w' := by
 refine Ret_body [] [] Tryz.func63 rfl rfl rfl (St.start w []) ?_
 refine Gs ?_
 refine GL_box rfl rfl rfl (fun b1 => ?_)
 refine Ga rfl ?_
 refine Gn (.t3 1 2 3) ?_
 refine Gss ?_
 refine Gm rfl ?_
 refine GL_nil ?_
 refine GQ_then ?_
 refine G_block ?_
 refine G_subF (.t4 1 7 2 3) ?_
 refine G_loop2_ (fun (k : Int) (j : Int) => 0 ≤ k ∧ k ≤ 10 ∧ X.isIn i box = X.inside box (10 - k).toNat j) (fun (k : Int) (j : Int) => (10 - k).toNat) (fun (k : Int) (j : Int) => [(1, .int .i64 j), (7, .int .i64 k)]) (fun (k : Int) (j : Int) => []) (0) (i) ?_ rfl rfl (fun k j hI1 => ?_)
 · exact ⟨Int.le_refl _, by omega, rfl⟩
 obtain ⟨hI11, hI12, hI13⟩ := hI1
 refine Gs ?_
 refine Gt (PS_lss rfl rfl) ?_
 refine GL_nil ?_
 refine GQ_then ?_
 refine G_seq ?_
 refine Gc (fun c1 => ?_) (fun c1 => ?_)
 ·
  have c1p := c1; try simp only [kk] at c1p
  rw [show (10 - k).toNat = (10 - (k + 1)).toNat + 1 from by omega, Land.inside] at hI13
  refine G_skip ?_
  refine GQ_sub (.t4 1 2 3 7) ?_
  refine GQ_then ?_
  refine G_seq ?_
  refine G_block ?_
  refine Gss ?_
  refine Gm rfl (Gm rfl ?_)
  refine Gt (PS_eql rfl rfl) ?_
  refine Gn (.t5 1 2 3 7 11) ?_
  refine Gc (fun c2 => ?_) (fun c2 => ?_)
  ·
   have c2p := c2; try simp only [kk] at c2p
   refine Gs ?_
   refine Ga rfl ?_
   refine Gn (.t1 6) ?_
   refine G_ret ?_
   refine GQ_then_ret ?_
   refine GQ_block_ret ?_
   refine GQ_then_ret ?_
   refine GQ_then_ret ?_
   refine GQ_block_ret ?_
   refine GQ_then_ret ?_
   refine GQ_ret rfl (.tmp rfl .nil) ?_
   intro w1 hS; refine ⟨congrArg Value.bool ?_, hS.toKeep⟩; rw [hI13]; simp only [c1, c2, ↓reduceIte, Bool.false_eq_true]
  ·
   have c2p := c2; try simp only [kk] at c2p
   refine G_skip ?_
   refine GQ_sub (.t4 1 2 3 7) ?_
   refine GQ_then ?_
   refine Gss ?_
   refine Gm rfl ?_
   refine Gt (PS_lss rfl rfl) ?_
   refine Gm rfl ?_
   refine GL_gf (t := 14) rfl rfl rfl (fun q => PS_move rfl) ?_
   refine GL_gf (t := 14) rfl rfl rfl (fun q => PS_geq (cF rfl q) rfl) ?_
   refine Gt (PS_or rfl rfl (fun h => by rw [h]; rfl)) ?_
   refine Gm rfl ?_
   refine GL_gf (t := 18) rfl rfl rfl (fun q => PS_move rfl) ?_
   refine GL_gf (t := 18) rfl rfl rfl (fun q => PSf fa34_1 rfl) ?_
   refine GL_gf (t := 18) rfl rfl rfl (fun q => by have q1 := q; (try simp at q1); exact PS_indexAddr ia29 (cF rfl q) (cF rfl q) (by omega) (by omega)) ?_
   refine GL_gf (t := 18) rfl rfl rfl (fun q => PSf fa28_2 (cF rfl q)) ?_
   refine GL_gf (t := 18) rfl rfl rfl (fun q => by have q1 := q; (try simp at q1); exact PS_load (cF rfl q) tys3 (.head _) ((Land.l1.comp (Lens.ar (n := 9) Thing.fl (by omega))).comp Thing.l2) rfl rfl) ?_
   refine GL_gf (t := 18) rfl rfl rfl (fun q => PS_neq (cF rfl q) rfl) ?_
   refine Gt (PS_or rfl rfl (fun h => by rw [h]; rfl)) ?_
   refine Gn (.t5 1 2 3 7 25) ?_
   refine Gc (fun c3 => ?_) (fun c3 => ?_)
   ·
    have c3p := c3; try simp only [kk] at c3p
    refine Gs ?_
    refine Ga rfl ?_
    refine Gn (.t1 6) ?_
    refine G_ret ?_
    refine GQ_then_ret ?_
    refine GQ_block_ret ?_
    refine GQ_then_ret ?_
    refine GQ_then_ret ?_
    refine GQ_block_ret ?_
    refine GQ_then_ret ?_
    refine GQ_ret rfl (.tmp rfl .nil) ?_
    intro w1 hS; refine ⟨congrArg Value.bool ?_, hS.toKeep⟩; rw [hI13]; simp only [c1, c2, c3, ↓reduceIte, Bool.false_eq_true]
   ·
    have c3p := c3; try simp only [kk] at c3p
    have h9 : 0 ≤ j ∧ j < 9 := by simp at c3; omega
    refine G_skip ?_
    refine GQ_sub (.t4 1 2 3 7) ?_
    refine GQ_then ?_
    refine G_region ?_
    refine Gm rfl (Gt (PSf fa34_1 rfl) ?_)
    refine Gt (PS_indexAddr ia29 rfl rfl (by omega) (by omega)) ?_
    refine Gt (PSf fa28_3 rfl) ?_
    refine Gt (PS_load rfl tys3 (.head _) ((Land.l1.comp (Lens.ar (n := 9) Thing.fl (by omega))).comp Thing.l3) rfl rfl) ?_
    refine Ga rfl ?_
    refine GL_nil (GQ_sub (.t4 1 2 3 7) ?_)
    refine GQ_block ?_
    refine GQ_then ?_
    refine G_region ?_
    refine Gt (PS_add rfl rfl (IntWalk.i64_in _ (by omega))) ?_
    refine Gm rfl ?_
    refine GL_nil (GQ_sub (.t4 1 2 3 7) ?_)
    refine GQ_next2_ (k + 1) ((X.things.at j).at_) ?_ ?_ (.t4 1 7 2 3) (.refl _)
    · exact ⟨by omega, by omega, by rw [hI13]; simp only [c1, c2, c3, ↓reduceIte, Bool.false_eq_true]⟩
    · omega
 ·
  have c1p := c1; try simp only [kk] at c1p
  obtain rfl : k = 10 := by omega
  refine G_exit ?_
  refine GQ_then_exit ?_
  refine GQ_then_exit ?_
  refine GQ_block_exit ?_
  refine GQ_sub (.nil _) ?_
  refine GQ_then ?_
  refine Gs ?_
  refine Ga rfl ?_
  refine GL_nil ?_
  refine GQ_then ?_
  refine G_ret ?_
  refine GQ_ret rfl (.tmp rfl .nil) ?_
  intro w1 hS; refine ⟨congrArg Value.bool ?_, hS.toKeep⟩; rw [hI13]; rfl
theorem rules_turn_let_spec (b : Nat) (T : Turn) (g : Hd) (o : Order) (hg : g.len = T.out.length) (hF : T.Fit) (hv : o.verb = 8 ∨ o.verb = 9 ∨ o.verb = 10) (hu : o.second.length ≤ 5000000) (hn : T.out.length ≤ 90000) : CtrR Tryz.prog 33 #[.pointer (some ⟨b, 0, none⟩), .agg o.enc.toArray] [Res.box b 53 (TurnV.enc ⟨T.w, T.b, g⟩), Res.own g 60 16 (T.out.flatMap Ing.Event.enc)] (fun w => (GVE 3 w ∧ 3 ∉ feet [Res.box b 53 (TurnV.enc ⟨T.w, T.b, g⟩), Res.own g 60 16 (T.out.flatMap Ing.Event.enc)]) ∧ (GVE 4 w ∧ 4 ∉ feet [Res.box b 53 (TurnV.enc ⟨T.w, T.b, g⟩), Res.own g 60 16 (T.out.flatMap Ing.Event.enc)])) (fun v B => ∃ g' : Hd, v = .tuple #[] ∧ g'.len = (T.letGo o).out.length ∧ B = [Res.box b 53 (TurnV.enc ⟨(T.letGo o).w, (T.letGo o).b, g'⟩), Res.own g' 60 16 ((T.letGo o).out.flatMap Ing.Event.enc)]) := by
 intro w hS0 hH
 obtain ⟨⟨gl0, gm0⟩, ⟨gl1, gm1⟩⟩ := hH
 have hb := hF.b
 have hr := hF.room
 refine Ret_body _ _ Tryz.func33 rfl rfl rfl (hS0) ?_
 refine Gs ?_
 refine GL_box rfl rfl rfl (fun b1 => ?_)
 refine Gn (.t2 0 3) ?_
 refine Gs ?_
 refine Ga rfl (Ga rfl ?_)
 refine GL_nil ?_
 refine GQ_then ?_
 refine G_pull (.tail (.tail .head)) ?_
 refine G_pull (.tail (.tail .head)) ?_
 refine G_cut4_ (Lm := [_, _]) (fun (X : Turn) (to : Int) (p : Bool) (j : Hd) => X = (T.letTo o).1 ∧ to = (T.letTo o).2.1 ∧ p = (T.letTo o).2.2 ∧ j.len = X.out.length) (fun (X : Turn) (to : Int) (p : Bool) (j : Hd) => [(4, .int .i64 to), (5, .bool p)]) (fun (X : Turn) (to : Int) (p : Bool) (j : Hd) => [Res.box b 53 (TurnV.enc ⟨X.w, X.b, j⟩), Res.own j 60 16 (X.out.flatMap Ing.Event.enc)]) (.t2 0 3) rfl ?_ (fun X to p j hC => ?_)
 ·
  refine Gs ?_
  refine Gt (PSf fa47_0 rfl) ?_
  refine Gt (PS_load rfl tys3 (.tail _ (.tail _ (.head _))) Order.l0 rfl rfl) ?_
  refine Gn (.t5 0 3 4 5 11) ?_
  refine G_block ?_
  refine Gs ?_
  refine Gt (PS_eql rfl rfl) ?_
  refine Ga rfl ?_
  refine Gn (.t6 0 3 4 5 11 12) ?_
  refine Gc (fun c1 => ?_) (fun c1 => ?_)
  ·
   have c1p := c1; try simp only [kk] at c1p
   refine G_region ?_
   refine Gm rfl (Gt (PSf fa47_4 rfl) ?_)
   refine Gt (PS_load rfl tys9 (.tail _ (.tail _ (.head _))) Order.l4 rfl rfl) ?_
   refine GL_callR rfl cf59 (.cons rfl (.cons rfl .nil)) (.cons .head (.cons .head .nil)) (rules_turn_box_spec _ T _ _ hg hF hu (by omega)) (fun w hS => ⟨gl0.pull gm0 hS (.cons .head (.cons .head .nil)), gl1.pull gm1 hS (.cons .head (.cons .head .nil))⟩) (fun v1 B hv => ?_)
   obtain ⟨y2, rfl, y3, rfl⟩ := hv
   refine Gm rfl ?_
   refine Gt (PS_extract rfl rfl) ?_
   refine Gt (PS_extract rfl rfl) ?_
   refine Ga rfl (Ga rfl ?_)
   refine GL_nil (GQ_sub (.t4 0 3 4 5) ?_)
   refine GQ_block ?_
   refine GQ_at4_ _ _ _ _ ?_ (.t4 4 5 0 3) (.refl _)
   · have ht : T.letTo o = _ := if_t c1
     exact ⟨by rw [ht], by rw [ht], by rw [ht], by assumption⟩
  ·
   have c1p := c1; try simp only [kk] at c1p
   refine Gs ?_
   refine Gt (PS_eql rfl rfl) ?_
   refine Ga rfl ?_
   refine Gn (.t5 0 3 4 5 21) ?_
   refine Gc (fun c2 => ?_) (fun c2 => ?_)
   ·
    have c2p := c2; try simp only [kk] at c2p
    refine G_region ?_
    refine Gm rfl (Gt (PSf fa47_4 rfl) ?_)
    refine Gt (PS_load rfl tys9 (.tail _ (.tail _ (.head _))) Order.l4 rfl rfl) ?_
    refine GL_callR rfl cf57 (.cons rfl (.cons rfl .nil)) (.cons .head (.cons .head .nil)) (rules_turn_somebody_spec _ T _ _ hg hF hu (by omega)) (fun w hS => ⟨gl0.pull gm0 hS (.cons .head (.cons .head .nil)), gl1.pull gm1 hS (.cons .head (.cons .head .nil))⟩) (fun v4 B hv => ?_)
    obtain ⟨y5, rfl, y6, rfl⟩ := hv
    refine Gm rfl ?_
    refine Gt (PS_extract rfl rfl) ?_
    refine Gt (PS_extract rfl rfl) ?_
    refine Ga rfl (Ga rfl ?_)
    refine GL_nil (GQ_sub (.t4 0 3 4 5) ?_)
    refine GQ_block ?_
    refine GQ_at4_ _ _ _ _ ?_ (.t4 4 5 0 3) (.refl _)
    · have ht : T.letTo o = _ := (if_f c1).trans (if_t c2)
      exact ⟨by rw [ht], by rw [ht], by rw [ht], by assumption⟩
   ·
    have c2p := c2; try simp only [kk] at c2p
    refine G_skip ?_
    refine GQ_sub (.t4 0 3 4 5) ?_
    refine GQ_block ?_
    refine GQ_at4_ _ _ _ _ ?_ (.t4 4 5 0 3) (.refl _)
    · have ht : T.letTo o = _ := (if_f c1).trans (if_f c2)
      exact ⟨by rw [ht], by rw [ht], by rw [ht], by assumption⟩
 ·
  obtain ⟨hD1, hD2, hD3, hD4⟩ := hC
  have hXw := T.letTo_w o
  have hXo : X.out.length ≤ T.out.length + 1 := by rw [hD1]; exact T.letTo_out o
  rw [← hD1] at hXw
  have hXF : X.Fit := hF.of_w hXw.1 hXw.2
  have hPl : ((Turn.pickL X.w X.own o.nth o.name o.all_)).length ≤ 9 := Turn.letP_mem.2.2
  refine Gss ?_
  refine Gm rfl ?_
  refine Gt (PS_not rfl) ?_
  refine Gn (.t4 0 3 4 31) ?_
  refine Gc (fun c3 => ?_) (fun c3 => ?_)
  ·
   have c3p := c3; try simp only [kk] at c3p
   refine G_ret ?_
   refine GQ_then_ret ?_
   refine GQ_ret rfl .nil ?_
   intro w1 hS
   have hS := (hS.perm (Pulls.perm (.cons .head (.cons .head .nil)))).headL
   have hq : T.letGo o = X := Turn.letGo_no' hD1 hD3 c3
   refine ⟨_, ⟨?gq1, rfl, ?hl1, ?hB1⟩, hS⟩
   case hB1 => rw [hq]; (try rfl)
   case hl1 => rw [hq]; exact hD4
  ·
   have c3p := c3; try simp only [kk] at c3p
   obtain ⟨hgo, hn0, hn9, hok⟩ := Turn.letGo_yes' hD1 hD2 hD3 c3
   refine G_skip ?_
   refine GQ_sub (.t3 0 3 4) ?_
   refine GQ_then ?_
   refine G_seq ?_
   refine G_planN (N := 11) [0, 0, 2, 0, 8, 0, 32, 0, 128, 511, 1023] mix (by kernel_rfl) rfl ?_
   refine Pf 0 rfl (PS_move rfl) (Pf 1 rfl (PS_move rfl) (Pf 3 rfl (PSf fa47_1 rfl) ?_))
   refine Pf 4 rfl (PS_load rfl tys3 (.tail _ (.tail _ (.head _))) Order.l1 rfl rfl) ?_
   refine Pf 5 rfl (PSf fa47_3 rfl) ?_
   refine Pf 6 rfl (PS_load rfl tys9 (.tail _ (.tail _ (.head _))) Order.l3 rfl rfl) ?_
   refine Pf 7 rfl (PSf fa47_2 rfl) ?_
   refine Pf 8 rfl (PS_load rfl tys4 (.tail _ (.tail _ (.head _))) Order.l2 rfl rfl) ?_
   refine Plan_chain 2 rfl (by kernel_rfl) ?_
   refine GL_callL rfl cf62 (.cons rfl .nil) (.cons .head .nil) (rules_turn_own_spec _ X _ hXF) (fun v7 B hv => ?_)
   obtain ⟨y8, rfl, y9, rfl⟩ := hv
   refine GL_hand rfl ⟨?_, ?_⟩
   · exact (Po rfl (PS_load rfl tys4 (.tail _ (.tail _ (.tail _ (.head _)))) Order.l2 rfl rfl) rfl rfl (Po rfl (PSf fa47_2 rfl) rfl rfl (Po rfl (PS_load rfl tys9 (.tail _ (.tail _ (.tail _ (.head _)))) Order.l3 rfl rfl) rfl rfl (Po rfl (PSf fa47_3 rfl) rfl rfl (Po rfl (PS_load rfl tys3 (.tail _ (.tail _ (.tail _ (.head _)))) Order.l1 rfl rfl) rfl rfl (Po rfl (PSf fa47_1 rfl) rfl rfl (Pk (Po rfl (PS_move rfl) rfl rfl Pend_nil))))))))
   refine Plan_chain 9 rfl (by kernel_rfl) ?_
   refine GL_callL rfl cf60 (.cons rfl (.cons rfl (.cons rfl (.cons rfl (.cons rfl .nil))))) (.cons .head (.cons .head .nil)) (rules_turn_pick_spec _ X _ _ X.own _ _ _ hXF (by assumption) (Nat.le_trans X.own_len (by decide)) (fun i hi => Turn.own_rng hi)) (fun v11 B hv => ?_)
   obtain ⟨y12, rfl, y13, rfl⟩ := hv
   refine GL_hand rfl ⟨?_, ?_⟩
   · exact (Pk (Pk (Pk (Pk (Pk (Pk (Pk (Pk Pend_nil))))))))
   refine Pf 10 rfl (PS_assign rfl) ?_
   refine Plan_end (by kernel_rfl) ?_
   refine GQ_sub (.t4 0 3 4 6) ?_
   refine GQ_then ?_
   refine G_pull (.tail (.tail (.tail .head))) ?_
   refine G_pull (.tail .head) ?_
   refine G_cut2_ (Lm := [_, _]) (fun (Z : Turn) (m : Hd) => Z = X.letS o ∧ m.len = Z.out.length) (fun (Z : Turn) (m : Hd) => []) (fun (Z : Turn) (m : Hd) => [Res.box b 53 (TurnV.enc ⟨Z.w, Z.b, m⟩), Res.own m 60 16 (Z.out.flatMap Ing.Event.enc)]) (.t4 0 3 4 6) rfl ?_ (fun Z m hC => ?_)
   ·
    refine Gs ?_
    refine Gm rfl ?_
    refine Gt (PS_len_slice rfl Tryz.underlying66 rfl) ?_
    refine Gt (PS_eql rfl rfl) ?_
    refine Gn (.t5 0 3 4 6 44) ?_
    refine Gc (fun c4 => ?_) (fun c4 => ?_)
    ·
     have c4p := c4; try simp only [kk] at c4p
     rw [y13] at c4
     refine G_region ?_
     refine Gm rfl ?_
     refine GL_callL rfl cf45 (.cons rfl (.cons rfl .nil)) (.cons .head (.cons .head .nil)) (rules_turn_tell_spec _ X _ _ (by assumption) (by rw [hXw.2]; exact hb) (by omega)) (fun v15 B hv => ?_)
     obtain ⟨y16, rfl, y17, rfl⟩ := hv
     refine GL_nil (GQ_sub (.t4 0 3 4 6) ?_)
     refine GQ_at2_ _ _ ?_ (.t4 0 3 4 6) (.refl _)
     · exact ⟨(Turn.letS_t (T := X) (o := o) c4).symm, by assumption⟩
    ·
     have c4p := c4; try simp only [kk] at c4p
     rw [y13] at c4
     refine G_skip ?_
     refine GQ_sub (.t4 0 3 4 6) ?_
     refine GQ_at2_ _ _ ?_ (.t4 0 3 4 6) (.refl _)
     · exact ⟨(Turn.letS_f (T := X) (o := o) c4).symm, by exact hD4⟩
   ·
    obtain ⟨hE1, hE2⟩ := hC
    refine Gs ?_
    refine Gm rfl ?_
    refine Gt (PS_len_slice rfl Tryz.underlying66 rfl) ?_
    refine Gm rfl ?_
    refine Gn (.t6 0 3 4 47 48 49) ?_
    refine G_block ?_
    refine G_subF (.t6 49 0 3 4 47 48) ?_
    refine G_pull (.tail .head) ?_
    refine G_pull (.tail .head) ?_
    refine G_loop3_ (fun (k : Int) (V : Turn) (f : Hd) => 0 ≤ k ∧ V = X.letK to o k.toNat ∧ k ≤ ((Turn.pickL X.w X.own o.nth o.name o.all_).length : Int) ∧ f.len = V.out.length) (fun (k : Int) (V : Turn) (f : Hd) => (((Turn.pickL X.w X.own o.nth o.name o.all_).length : Int) - k).toNat) (fun (k : Int) (V : Turn) (f : Hd) => [(49, .int .i64 k)]) (fun (k : Int) (V : Turn) (f : Hd) => [Res.box b 53 (TurnV.enc ⟨V.w, V.b, f⟩), Res.own f 60 16 (V.out.flatMap Ing.Event.enc)]) (0) (_) (_) ?_ rfl rfl (fun k V f hI1 => ?_)
    · exact ⟨by omega, hE1, by omega, hE2⟩
    obtain ⟨hI11, hI12, hI13, hI14⟩ := hI1
    refine Gs ?_
    refine Gt (PS_lss rfl rfl) ?_
    refine GL_nil ?_
    refine GQ_then ?_
    refine G_seq ?_
    refine Gc (fun c5 => ?_) (fun c5 => ?_)
    ·
     have c5p := c5; try simp only [kk] at c5p
     have hx : 0 ≤ ((Turn.pickL X.w X.own o.nth o.name o.all_).getD k.toNat 0) ∧ ((Turn.pickL X.w X.own o.nth o.name o.all_).getD k.toNat 0) < 9 := Turn.own_rng (Turn.pickL_mem (Line.getD_memI (xs := (Turn.pickL X.w X.own o.nth o.name o.all_)) (i := k.toNat) (by omega)))
     have hVK := Turn.letK_out X to o k.toNat
     rw [← hI12] at hVK
     have hVb := hVK.2
     have hVo := hVK.1
     have hbV : 0 ≤ V.b ∧ V.b < 6 := by rw [hVb, hXw.2]; exact hb
     refine G_skip ?_
     refine GQ_sub (.t6 0 3 4 47 48 49) ?_
     refine GQ_then ?_
     refine G_seq ?_
     refine G_block ?_
     refine Gs ?_
     refine Gt (PS_idxS is66 (by decide) (Kn.own (.tail _ (.tail _ (.tail _ (.head _))))) rfl rfl (by omega) (by omega)) ?_
     refine Gt (PS_ldInt rfl tys3 (Kn.own (.tail _ (.tail _ (.tail _ (.head _))))) (by omega)) ?_
     refine Ga rfl ?_
     refine Gn (.t7 0 3 4 8 47 48 49) ?_
     refine Gs ?_
     refine Gm rfl (Gm rfl (Gt (PSn rfl) (Gt (PSf fa53_0 rfl) (Gt (PSf fa34_1 rfl) ?_))))
     refine Gt (PS_indexAddr ia29 rfl rfl (by first | omega | exact hbV.1 | exact hbV.2 | (dsimp only; omega)) (by first | omega | exact hbV.1 | exact hbV.2 | (dsimp only; omega))) ?_
     refine Ga rfl ?_
     refine Gn (.t8 0 3 4 8 9 47 48 49) ?_
     refine G_block ?_
     refine Gs ?_
     refine Gm rfl (Gt (PSn rfl) (Gt (PSf fa28_1 rfl) ?_))
     refine Gt (PS_load rfl tys3 (.head _) (((TurnV.l0.comp Land.l1).comp (Lens.ar (n := 9) Thing.fl (by first | omega | exact hbV | (dsimp only; omega)))).comp Thing.l1) rfl rfl) ?_
     refine Gt (PS_eql rfl rfl) ?_
     refine Gm rfl ?_
     refine GL_gt (t := 87) rfl rfl rfl (fun q => PS_move rfl) ?_
     refine GL_gt (t := 87) rfl rfl rfl (fun q => PSn (cvE rfl q)) ?_
     refine GL_gt (t := 87) rfl rfl rfl (fun q => PSf fa28_4 (cvE rfl q)) ?_
     refine GL_gt (t := 87) rfl rfl rfl (fun q => by have q1 := q; (try simp at q1); exact PS_load (cvE rfl q) tys4 (.head _) (((TurnV.l0.comp Land.l1).comp (Lens.ar (n := 9) Thing.fl (by first | omega | exact hbV | (dsimp only; omega)))).comp Thing.l4) rfl rfl) ?_
     refine Gt (PS_and rfl rfl (fun h => h)) ?_
     refine Ga rfl ?_
     refine Gn (.t9 0 3 4 8 9 47 48 49 81) ?_
     refine Gc (fun c6 => ?_) (fun c6 => ?_)
     ·
      have c6p := c6; try simp only [kk] at c6p
      refine G_region ?_
      refine Gm rfl ?_
      refine GL_callL rfl cf45 (.cons rfl (.cons rfl .nil)) (.cons .head (.cons .head .nil)) (rules_turn_tell_spec _ V _ _ (by assumption) hbV (by omega)) (fun v18 B hv => ?_)
      obtain ⟨y19, rfl, y20, rfl⟩ := hv
      refine GL_nil (GQ_sub (.t6 0 3 4 47 48 49) ?_)
      refine GQ_block ?_
      refine GQ_block ?_
      refine GQ_then ?_
      refine G_region ?_
      refine Gt (PS_add rfl rfl (IntWalk.i64_in _ (by first | omega | exact hbV.1 | exact hbV.2 | (dsimp only; omega)))) ?_
      refine Gm rfl ?_
      refine GL_nil (GQ_sub (.t6 0 3 4 47 48 49) ?_)
      refine GQ_next3_ (k + 1) _ _ ?_ ?_ (.t6 49 0 3 4 47 48) (.refl _)
      · have hq : V.letOne o.verb to ((Turn.pickL X.w X.own o.nth o.name o.all_).getD k.toNat 0) = _ := (if_t c6)
        (try rw [Turn.place_name hx.1 hx.2] at *)
        (try rw [Turn.place_name' hx.1 hx.2 hn0] at *)
        exact ⟨by omega, (by (try rw [Turn.place_name hx.1 hx.2]); (try rw [Turn.place_name' hx.1 hx.2 hn0]); exact hq.symm.trans ((congrArg (fun q => Turn.letOne q o.verb to ((Turn.pickL X.w X.own o.nth o.name o.all_).getD k.toNat 0)) hI12).trans (Turn.letK_step hI11 (by show k < (((Turn.pickL X.w X.own o.nth o.name o.all_)).length : Int); omega)).symm)), by omega, by assumption⟩
      · omega
     ·
      have c6p := c6; try simp only [kk] at c6p
      refine Gs ?_
      refine Gt (PSf fa47_0 rfl) ?_
      refine Gt (PS_load rfl tys3 (.tail _ (.tail _ (.tail _ (.tail _ (.head _))))) Order.l0 rfl rfl) ?_
      refine Gt (PS_eql rfl rfl) ?_
      refine Ga rfl ?_
      refine Gn (.t9 0 3 4 8 9 47 48 49 95) ?_
      refine Gc (fun c7 => ?_) (fun c7 => ?_)
      ·
       have c7p := c7; try simp only [kk] at c7p
       refine G_seq ?_
       refine G_planN (N := 19) [0, 0, 0, 0, 8, 24, 56, 4, 132, 388, 1020, 2044, 4092, 8189, 16381, 32765, 65535, 131071, 262143] mix (by kernel_rfl) rfl ?_
       refine Pf 0 rfl (PS_move rfl) (Pf 1 rfl (PS_move rfl) (Pf 2 rfl (PS_move rfl) (Pf 3 rfl (PS_move rfl) (Pf 4 rfl (PSn rfl) (Pf 5 rfl (PSf fa53_1 rfl) ?_)))))
       refine Pf 6 rfl (PS_load rfl tys3 (.head _) TurnV.l1 rfl rfl) ?_
       refine Pf 7 rfl (PSn rfl) (Pf 8 rfl (PSf fa53_0 rfl) (Pf 9 rfl (PSf fa34_2 rfl) ?_))
       refine Pf 10 rfl (PS_indexAddr ia32 rfl rfl (by first | omega | exact hbV.1 | exact hbV.2 | (dsimp only; omega)) (by first | omega | exact hbV.1 | exact hbV.2 | (dsimp only; omega))) ?_
       refine Pf 11 rfl (PSf fa31_3 rfl) ?_
       refine Pf 12 rfl (PS_load rfl tys3 (.head _) (((TurnV.l0.comp Land.l2).comp (Lens.ar (n := 6) Being.fl (by first | omega | exact hbV | (dsimp only; omega)))).comp Being.l3) rfl rfl) ?_
       refine Pf 13 rfl (PSn rfl) (Pf 14 rfl (PSf fa28_2 rfl) ?_)
       refine Plan_chain 15 rfl (by kernel_rfl) ?_
       refine GL_unit (PU_store (((TurnV.l0.comp Land.l1).comp (Lens.ar (n := 9) Thing.fl (by first | omega | exact hbV | (dsimp only; omega)))).comp Thing.l2) rfl rfl rfl sz3 rfl .head) ?_
       refine GL_hand0 rfl ⟨?_, ?_⟩
       · exact (Pk (Pk (Pk (Pk (Pk (Pk (Pk (Pk (Pk (Pk (Pk (Pk (Pk (Po rfl (PS_move rfl) rfl rfl (Pk Pend_nil)))))))))))))))
       refine Pf 16 rfl (PSn rfl) (Pf 17 rfl (PSf fa28_3 rfl) ?_)
       refine Plan_chain 18 rfl (by kernel_rfl) ?_
       refine GL_unit (PU_store (((TurnV.l0.comp Land.l1).comp (Lens.ar (n := 9) Thing.fl (by first | omega | exact hbV | (dsimp only; omega)))).comp Thing.l3) rfl rfl rfl sz3 rfl .head) ?_
       refine GL_hand0 rfl ⟨?_, ?_⟩
       · exact (Pk (Pk (Pk (Pk (Pk (Pk (Pk (Pk (Pk (Pk (Pk (Pk (Pk (Pk (Pk (Pk (Pk Pend_nil)))))))))))))))))
       refine Plan_end (by kernel_rfl) ?_
       refine GQ_sub (.t7 0 3 4 8 47 48 49) ?_
       refine GQ_then ?_
       refine G_swap (fun _ => .head) (congrArg (fun q => TurnV.enc ⟨q, _, _⟩) (Turn.place_eq V hx.1 hx.2 0 (V.w.beings.at V.b).room)) ?_
       refine G_region ?_
       refine Gm rfl (Gm rfl ?_)
       refine GL_callL rfl cf61 (.cons rfl (.cons rfl (.cons rfl .nil))) (.cons .head (.cons .head .nil)) (rules_turn_thing_spec _ (V.place ((Turn.pickL X.w X.own o.nth o.name o.all_).getD k.toNat 0) 0 (V.w.beings.at V.b).room) _ 4 ((Turn.pickL X.w X.own o.nth o.name o.all_).getD k.toNat 0) (by assumption) hbV hx (show V.out.length ≤ 100000 by omega)) (fun v21 B hv => ?_)
       obtain ⟨y22, rfl, y23, rfl⟩ := hv
       refine GL_nil (GQ_sub (.t6 0 3 4 47 48 49) ?_)
       refine GQ_block ?_
       refine GQ_block ?_
       refine GQ_then ?_
       refine G_region ?_
       refine Gt (PS_add rfl rfl (IntWalk.i64_in _ (by first | omega | exact hbV.1 | exact hbV.2 | (dsimp only; omega)))) ?_
       refine Gm rfl ?_
       refine GL_nil (GQ_sub (.t6 0 3 4 47 48 49) ?_)
       refine GQ_next3_ (k + 1) _ _ ?_ ?_ (.t6 49 0 3 4 47 48) (.refl _)
       · have hq : V.letOne o.verb to ((Turn.pickL X.w X.own o.nth o.name o.all_).getD k.toNat 0) = _ := ((if_f c6).trans (if_t c7))
         (try rw [Turn.place_name hx.1 hx.2] at *)
         (try rw [Turn.place_name' hx.1 hx.2 hn0] at *)
         exact ⟨by omega, (by (try rw [Turn.place_name hx.1 hx.2]); (try rw [Turn.place_name' hx.1 hx.2 hn0]); exact hq.symm.trans ((congrArg (fun q => Turn.letOne q o.verb to ((Turn.pickL X.w X.own o.nth o.name o.all_).getD k.toNat 0)) hI12).trans (Turn.letK_step hI11 (by show k < (((Turn.pickL X.w X.own o.nth o.name o.all_)).length : Int); omega)).symm)), by omega, by assumption⟩
       · omega
      ·
       have c7p := c7; try simp only [kk] at c7p
       refine Gs ?_
       refine Gt (PSf fa47_0 rfl) ?_
       refine Gt (PS_load rfl tys3 (.tail _ (.tail _ (.tail _ (.tail _ (.head _))))) Order.l0 rfl rfl) ?_
       refine Gt (PS_eql rfl rfl) ?_
       refine Ga rfl ?_
       refine Gn (.t9 0 3 4 8 9 47 48 49 119) ?_
       refine Gc (fun c8 => ?_) (fun c8 => ?_)
       ·
        have c8p := c8; try simp only [kk] at c8p
        refine Gs ?_
        refine Gm rfl (Gm rfl (Gm rfl (Gt (PSn rfl) (Gt (PSf fa28_2 rfl) ?_))))
        refine GL_unit (PU_store (((TurnV.l0.comp Land.l1).comp (Lens.ar (n := 9) Thing.fl (by first | omega | exact hbV | (dsimp only; omega)))).comp Thing.l2) rfl rfl rfl sz3 rfl .head) ?_
        refine Gt (PSn rfl) (Gt (PSf fa28_3 rfl) ?_)
        refine GL_unit (PU_store (((TurnV.l0.comp Land.l1).comp (Lens.ar (n := 9) Thing.fl (by first | omega | exact hbV | (dsimp only; omega)))).comp Thing.l3) rfl rfl rfl sz3 rfl .head) ?_
        refine Gn (.t7 0 3 4 9 47 48 49) ?_
        refine G_swap (fun _ => .head) (congrArg (fun q => TurnV.enc ⟨q, _, _⟩) (Turn.place_eq V hx.1 hx.2 1 to)) ?_
        refine G_region ?_
        refine Gm rfl (Gm rfl (Gm rfl (Gt (PSn rfl) (Gt (PSf fa28_0 rfl) ?_))))
        refine Gt (PS_load rfl tys9 (.head _) (((TurnV.l0.comp Land.l1).comp (Lens.ar (n := 9) Thing.fl (by first | omega | exact hbV | (dsimp only; omega)))).comp Thing.l0) rfl rfl) ?_
        refine Gt (PS_build pl60 zv60 rfl (.cons Ing.Event.l0 rfl rfl rfl (.cons Ing.Event.l3 rfl rfl rfl (.cons Ing.Event.l8 rfl rfl rfl .nil)))) ?_
        refine GL_callL rfl cf23 (.cons rfl (.cons rfl .nil)) (.cons .head (.cons .head .nil)) (rules_turn_happens_spec _ (V.place ((Turn.pickL X.w X.own o.nth o.name o.all_).getD k.toNat 0) 1 to) _ { Turn.evk 6 with other := to, thing := ((V.place ((Turn.pickL X.w X.own o.nth o.name o.all_).getD k.toNat 0) 1 to).w.things.at ((Turn.pickL X.w X.own o.nth o.name o.all_).getD k.toNat 0)).name } (by assumption) hbV (show to < 6 from (hok hv).lt6 (by omega)) (show V.out.length ≤ 100000 by omega)) (fun v24 B hv => ?_)
        obtain ⟨y25, rfl, y26, rfl⟩ := hv
        refine GL_nil (GQ_sub (.t6 0 3 4 47 48 49) ?_)
        refine GQ_block ?_
        refine GQ_block ?_
        refine GQ_then ?_
        refine G_region ?_
        refine Gt (PS_add rfl rfl (IntWalk.i64_in _ (by first | omega | exact hbV.1 | exact hbV.2 | (dsimp only; omega)))) ?_
        refine Gm rfl ?_
        refine GL_nil (GQ_sub (.t6 0 3 4 47 48 49) ?_)
        refine GQ_next3_ (k + 1) _ _ ?_ ?_ (.t6 49 0 3 4 47 48) (.refl _)
        · have hq : V.letOne o.verb to ((Turn.pickL X.w X.own o.nth o.name o.all_).getD k.toNat 0) = _ := ((if_f c6).trans ((if_f c7).trans (if_t c8)))
          (try rw [Turn.place_name hx.1 hx.2] at *)
          (try rw [Turn.place_name' hx.1 hx.2 hn0] at *)
          exact ⟨by omega, (by (try rw [Turn.place_name hx.1 hx.2]); (try rw [Turn.place_name' hx.1 hx.2 hn0]); exact hq.symm.trans ((congrArg (fun q => Turn.letOne q o.verb to ((Turn.pickL X.w X.own o.nth o.name o.all_).getD k.toNat 0)) hI12).trans (Turn.letK_step hI11 (by show k < (((Turn.pickL X.w X.own o.nth o.name o.all_)).length : Int); omega)).symm)), by omega, by assumption⟩
        · omega
       ·
        have c8p := c8; try simp only [kk] at c8p
        refine Gs ?_
        refine Gm rfl (Gt (PSn rfl) (Gt (PSf fa53_0 rfl) ?_))
        refine Gt (PS_loadA rfl tya34 (.head _) TurnV.l0 rfl) ?_
        refine Gm rfl (Gm rfl ?_)
        refine GL_pure rfl cf63 (.cons rfl (.cons rfl (.cons rfl .nil))) (fun w hS => land_Inside_spec _ _ _ w) ?_
        refine Ga rfl ?_
        refine Gn (.t8 0 3 4 9 47 48 49 138) ?_
        refine Gc (fun c9 => ?_) (fun c9 => ?_)
        ·
         have c9p := c9; try simp only [kk] at c9p
         refine G_region ?_
         refine Gm rfl ?_
         refine GL_callL rfl cf45 (.cons rfl (.cons rfl .nil)) (.cons .head (.cons .head .nil)) (rules_turn_tell_spec _ V _ _ (by assumption) hbV (by omega)) (fun v27 B hv => ?_)
         obtain ⟨y28, rfl, y29, rfl⟩ := hv
         refine GL_nil (GQ_sub (.t6 0 3 4 47 48 49) ?_)
         refine GQ_block ?_
         refine GQ_block ?_
         refine GQ_then ?_
         refine G_region ?_
         refine Gt (PS_add rfl rfl (IntWalk.i64_in _ (by first | omega | exact hbV.1 | exact hbV.2 | (dsimp only; omega)))) ?_
         refine Gm rfl ?_
         refine GL_nil (GQ_sub (.t6 0 3 4 47 48 49) ?_)
         refine GQ_next3_ (k + 1) _ _ ?_ ?_ (.t6 49 0 3 4 47 48) (.refl _)
         · have hq : V.letOne o.verb to ((Turn.pickL X.w X.own o.nth o.name o.all_).getD k.toNat 0) = _ := ((if_f c6).trans ((if_f c7).trans ((if_f c8).trans (if_t c9))))
           (try rw [Turn.place_name hx.1 hx.2] at *)
           (try rw [Turn.place_name' hx.1 hx.2 hn0] at *)
           exact ⟨by omega, (by (try rw [Turn.place_name hx.1 hx.2]); (try rw [Turn.place_name' hx.1 hx.2 hn0]); exact hq.symm.trans ((congrArg (fun q => Turn.letOne q o.verb to ((Turn.pickL X.w X.own o.nth o.name o.all_).getD k.toNat 0)) hI12).trans (Turn.letK_step hI11 (by show k < (((Turn.pickL X.w X.own o.nth o.name o.all_)).length : Int); omega)).symm)), by omega, by assumption⟩
         · omega
        ·
         have c9p := c9; try simp only [kk] at c9p
         refine Gs ?_
         refine Gm rfl (Gm rfl (Gm rfl (Gt (PSn rfl) (Gt (PSf fa28_2 rfl) ?_))))
         refine GL_unit (PU_store (((TurnV.l0.comp Land.l1).comp (Lens.ar (n := 9) Thing.fl (by first | omega | exact hbV | (dsimp only; omega)))).comp Thing.l2) rfl rfl rfl sz3 rfl .head) ?_
         refine Gt (PSn rfl) (Gt (PSf fa28_3 rfl) ?_)
         refine GL_unit (PU_store (((TurnV.l0.comp Land.l1).comp (Lens.ar (n := 9) Thing.fl (by first | omega | exact hbV | (dsimp only; omega)))).comp Thing.l3) rfl rfl rfl sz3 rfl .head) ?_
         refine Gn (.t7 0 3 4 9 47 48 49) ?_
         refine G_swap (fun _ => .head) (congrArg (fun q => TurnV.enc ⟨q, _, _⟩) (Turn.place_eq V hx.1 hx.2 2 to)) ?_
         refine G_planN (N := 15) [0, 0, 2, 6, 14, 0, 0, 32, 160, 416, 992, 2016, 4064, 8190, 16383] mix (by kernel_rfl) rfl ?_
         refine Pf 0 rfl (PS_move rfl) (Pf 1 rfl (PS_move rfl) (Pf 2 rfl (PSn rfl) (Pf 3 rfl (PSf fa28_0 rfl) ?_)))
         refine Pf 4 rfl (PS_load rfl tys9 (.head _) (((TurnV.l0.comp Land.l1).comp (Lens.ar (n := 9) Thing.fl (by first | omega | exact hbV | (dsimp only; omega)))).comp Thing.l0) rfl rfl) ?_
         refine Pf 5 rfl (PS_move rfl) (Pf 6 rfl (PS_move rfl) (Pf 7 rfl (PSn rfl) (Pf 8 rfl (PSf fa53_0 rfl) (Pf 9 rfl (PSf fa34_1 rfl) ?_))))
         refine Pf 10 rfl (PS_indexAddr ia29 rfl rfl (by first | omega | exact hbV.1 | exact hbV.2 | (dsimp only; omega)) (by first | omega | exact hbV.1 | exact hbV.2 | (dsimp only; omega))) ?_
         refine Pf 11 rfl (PSf fa28_0 rfl) ?_
         refine Pf 12 rfl (PS_load rfl tys9 (.head _) (((TurnV.l0.comp Land.l1).comp (Lens.ar (n := 9) Thing.fl (by first | omega | exact hbV | (dsimp only; omega)))).comp Thing.l0) rfl rfl) ?_
         refine Pf 13 rfl (PS_build pl60 zv60 rfl (.cons Ing.Event.l0 rfl rfl rfl (.cons Ing.Event.l3 rfl rfl rfl (.cons Ing.Event.l8 rfl rfl rfl (.cons Ing.Event.l9 rfl rfl rfl .nil))))) ?_
         refine Plan_chain 14 rfl (by kernel_rfl) ?_
         refine GL_callL rfl cf23 (.cons rfl (.cons rfl .nil)) (.cons .head (.cons .head .nil)) (rules_turn_happens_spec _ (V.place ((Turn.pickL X.w X.own o.nth o.name o.all_).getD k.toNat 0) 2 to) _ { Turn.evk 5 with thing := ((V.place ((Turn.pickL X.w X.own o.nth o.name o.all_).getD k.toNat 0) 2 to).w.things.at ((Turn.pickL X.w X.own o.nth o.name o.all_).getD k.toNat 0)).name, text := ((V.place ((Turn.pickL X.w X.own o.nth o.name o.all_).getD k.toNat 0) 2 to).w.things.at to).name } (by assumption) hbV (show (-1 : Int) < 6 by decide) (show V.out.length ≤ 100000 by omega)) (fun v30 B hv => ?_)
         obtain ⟨y31, rfl, y32, rfl⟩ := hv
         refine GL_hand rfl ⟨?_, ?_⟩
         · exact (Pk (Pk (Pk (Pk (Pk (Pk (Pk (Pk (Pk (Pk (Pk (Pk (Pk (Pk Pend_nil))))))))))))))
         refine Plan_end (by kernel_rfl) ?_
         refine GQ_sub (.t6 0 3 4 47 48 49) ?_
         refine GQ_block ?_
         refine GQ_block ?_
         refine GQ_then ?_
         refine G_region ?_
         refine Gt (PS_add rfl rfl (IntWalk.i64_in _ (by first | omega | exact hbV.1 | exact hbV.2 | (dsimp only; omega)))) ?_
         refine Gm rfl ?_
         refine GL_nil (GQ_sub (.t6 0 3 4 47 48 49) ?_)
         refine GQ_next3_ (k + 1) _ _ ?_ ?_ (.t6 49 0 3 4 47 48) (.refl _)
         · have hq : V.letOne o.verb to ((Turn.pickL X.w X.own o.nth o.name o.all_).getD k.toNat 0) = _ := ((if_f c6).trans ((if_f c7).trans ((if_f c8).trans (if_f c9))))
           (try rw [Turn.place_name hx.1 hx.2] at *)
           (try rw [Turn.place_name' hx.1 hx.2 hn0] at *)
           exact ⟨by omega, (by (try rw [Turn.place_name hx.1 hx.2]); (try rw [Turn.place_name' hx.1 hx.2 hn0]); exact hq.symm.trans ((congrArg (fun q => Turn.letOne q o.verb to ((Turn.pickL X.w X.own o.nth o.name o.all_).getD k.toNat 0)) hI12).trans (Turn.letK_step hI11 (by show k < (((Turn.pickL X.w X.own o.nth o.name o.all_)).length : Int); omega)).symm)), by omega, by assumption⟩
         · omega
    ·
     have c5p := c5; try simp only [kk] at c5p
     obtain rfl : k = ((Turn.pickL X.w X.own o.nth o.name o.all_).length : Int) := by omega
     refine G_exit ?_
     refine GQ_then_exit ?_
     refine GQ_then_exit ?_
     refine GQ_block_exit ?_
     refine GQ_end rfl .nil ?_
     intro w1 hS
     have hS := (hS.perm (Pulls.perm (.cons .head (.cons .head .nil)))).headL
     have hq : T.letGo o = V := hgo.trans (hI12.trans Turn.letK_end).symm
     refine ⟨_, ⟨?gq2, rfl, ?hl2, ?hB2⟩, hS⟩
     case hB2 => rw [hq]; (try rfl)
     case hl2 => rw [hq]; exact hI14
theorem words_Direction_spec (s : Str) (w : World) (gl0 : GV 1 Land.verbsV w) : Ret Tryz.prog 64 #[vstr s] w fun v w' => v = .tuple #[.int .i64 (Words.dir s).1, .bool (Words.dir s).2] ∧ Keep w w' := by
 refine Ret_body [] [] Tryz.func64 rfl rfl rfl (St.start w []) ?_
 refine Gs ?_
 refine Ga rfl (Ga rfl ?_)
 refine Gn (.t1 0) ?_
 refine Gss ?_
 refine Gm rfl ?_
 refine GL_nil ?_
 refine GQ_then ?_
 refine G_block ?_
 refine G_subF (.t2 5 0) ?_
 refine G_loop1_ (fun (k : Int) => 0 ≤ k ∧ k ≤ 6 ∧ Words.dirF s 6 = Words.dirF s (6 - k).toNat) (fun (k : Int) => (6 - k).toNat) (fun (k : Int) => [(5, .int .i64 k)]) (fun (k : Int) => []) (0) ?_ rfl rfl (fun k hI1 => ?_)
 · exact ⟨by omega, by omega, rfl⟩
 obtain ⟨hI11, hI12, hI13⟩ := hI1
 refine Gs ?_
 refine Gt (PS_lss rfl rfl) ?_
 refine GL_nil ?_
 refine GQ_then ?_
 refine G_seq ?_
 refine Gc (fun c1 => ?_) (fun c1 => ?_)
 ·
  have c1p := c1; try simp only [kk] at c1p
  rw [Words.dirF_step hI11 (by omega)] at hI13
  refine G_skip ?_
  refine GQ_sub (.t2 0 5) ?_
  refine GQ_then ?_
  refine G_seq ?_
  refine G_block ?_
  refine Gs ?_
  refine Gm rfl (Ga rfl ?_)
  refine Gn (.t3 0 4 5) ?_
  refine Gs ?_
  refine Gm rfl ?_
  refine Gt (PS_indexAddr ia80 rfl rfl (by omega) (by omega)) ?_
  refine Gt (PS_ldGV gl0 rfl tys9 (Land.verbs_at (by omega) (by omega))) ?_
  refine Gm rfl ?_
  refine Gt (PS_eql_str rfl rfl) ?_
  refine Gn (.t4 0 4 5 12) ?_
  refine Gc (fun c2 => ?_) (fun c2 => ?_)
  ·
   have c2p := c2; try simp only [kk] at c2p
   refine Gs ?_
   refine Gm rfl (Ga rfl (Ga rfl ?_))
   refine Gn (.t2 2 3) ?_
   refine G_ret ?_
   refine GQ_block_ret ?_
   refine GQ_then_ret ?_
   refine GQ_then_ret ?_
   refine GQ_block_ret ?_
   refine GQ_then_ret ?_
   refine GQ_ret rfl (.tmp rfl (.tmp rfl .nil)) ?_
   intro w1 hS; refine ⟨?_, hS.toKeep⟩; rw [Words.dir, hI13, if_t c2]; rfl
  ·
   have c2p := c2; try simp only [kk] at c2p
   refine G_skip ?_
   refine GQ_sub (.t2 0 5) ?_
   refine GQ_block ?_
   refine GQ_then ?_
   refine G_region ?_
   refine Gt (PS_add rfl rfl (IntWalk.i64_in _ (by omega))) ?_
   refine Gm rfl ?_
   refine GL_nil (GQ_sub (.t2 0 5) ?_)
   refine GQ_next1_ (k + 1) ?_ ?_ (.t2 5 0) (.refl _)
   · exact ⟨by omega, by omega, by rw [hI13, if_f c2]⟩
   · omega
 ·
  have c1p := c1; try simp only [kk] at c1p
  obtain rfl : k = 6 := by omega
  refine G_exit ?_
  refine GQ_then_exit ?_
  refine GQ_then_exit ?_
  refine GQ_block_exit ?_
  refine GQ_sub (.nil _) ?_
  refine GQ_then ?_
  refine Gs ?_
  refine Ga rfl (Ga rfl ?_)
  refine GL_nil ?_
  refine GQ_then ?_
  refine G_ret ?_
  refine GQ_ret rfl (.tmp rfl (.tmp rfl .nil)) ?_
  intro w1 hS; refine ⟨?_, hS.toKeep⟩; rw [Words.dir, hI13]; rfl
end Go.Proofs.YthaobbemigbcgaaGreatDoor
