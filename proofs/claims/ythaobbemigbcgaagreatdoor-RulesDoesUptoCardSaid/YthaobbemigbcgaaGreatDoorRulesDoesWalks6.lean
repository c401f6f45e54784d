/- What the functions that the law RulesDoes reaches compute: walks, part 6. No condition. -/
import Derived.Test.YthaobbemigbcgaaGreatDoorCards
import Derived.Test.YthaobbemigbcgaaGreatDoorTie
import Derived.Deep.DeepHandedRow
import Derived.Test.YthaobbemigbcgaaGreatDoorRows
import Derived.Test.YthaobbemigbcgaaGreatDoorRulesDoesEc3
import Derived.Test.YthaobbemigbcgaaGreatDoorRulesDoesRa1
import Derived.Test.YthaobbemigbcgaaGreatDoorRulesDoesRb1
import Derived.Test.YthaobbemigbcgaaGreatDoorRulesDoesWalks
import Derived.Test.YthaobbemigbcgaaGreatDoorRulesDoesWalks2
import Derived.Test.YthaobbemigbcgaaGreatDoorRulesDoesWalks3
import Derived.Test.YthaobbemigbcgaaGreatDoorRulesDoesWalks4
import Derived.Test.YthaobbemigbcgaaGreatDoorRulesDoesWalks5
set_option linter.unusedSimpArgs false
set_option linter.unusedVariables false
set_option maxRecDepth 100000
set_option maxHeartbeats 1000000
namespace Go.Proofs.YthaobbemigbcgaaGreatDoor
open Go Go.Ing Go.RowKit Go.ChangeShapes Go.WideShapes Go.ChangeAt
theorem ref_turn_set_spec (b : Nat) (T : Turn) (g : Hd) (o : Order) (hg : g.len = T.out.length) (hF : T.Fit) (hv : 12 ≤ o.verb ∧ o.verb ≤ 17) (hn : T.out.length ≤ 80000) (hz : -9223372036854775808 ≤ o.nth ∧ o.nth ≤ 9223372036854775807) : CtrR Tryz.prog 42 #[.pointer (some ⟨b, 0, none⟩), .agg o.enc.toArray] [Res.box b 57 (TurnV.enc ⟨T.w, T.b, g⟩), Res.own g 60 16 (T.out.flatMap Ing.Event.enc)] (fun w => (GV 0 Land.verbsV w ∧ 0 ∉ feet [Res.box b 57 (TurnV.enc ⟨T.w, T.b, g⟩), Res.own g 60 16 (T.out.flatMap Ing.Event.enc)])) (fun v B => ∃ g' : Hd, v = .tuple #[] ∧ g'.len = (T.set o).out.length ∧ B = [Res.box b 57 (TurnV.enc ⟨(T.set o).w, (T.set o).b, g'⟩), Res.own g' 60 16 ((T.set o).out.flatMap Ing.Event.enc)]) := by
 intro w hS0 hH
 obtain ⟨gl0, gm0⟩ := hH
 have hb := hF.b
 have hr := hF.room
 have ho9 := T.own_len
 have hs9 := T.seen_len
 have hkd := Turn.kd_eq hv.1 hv.2
 refine Ret_body _ _ Tryz.func42 rfl rfl rfl (hS0) ?_
 refine Gs ?_
 refine GL_box rfl rfl rfl (fun b1 => ?_)
 refine Gn (.t2 0 3) ?_
 refine Gs ?_
 refine Gt (PSf fa47_0 rfl) ?_
 refine Gt (PS_load rfl tys3 (.head _) Order.l0 rfl rfl) ?_
 refine Gt (PS_eql rfl rfl) ?_
 refine Gm rfl ?_
 refine GL_gf (t := 16) rfl rfl rfl (fun q => PSf fa47_0 rfl) ?_
 refine GL_gf (t := 16) rfl rfl rfl (fun q => PS_load (cF rfl q) tys3 (.head _) Order.l0 rfl rfl) ?_
 refine GL_gf (t := 16) rfl rfl rfl (fun q => PS_eql (cF rfl q) rfl) ?_
 refine Gt (PS_or rfl rfl (fun h => by rw [h]; rfl)) ?_
 refine Gm rfl ?_
 refine GL_gf (t := 21) rfl rfl rfl (fun q => PSf fa47_0 rfl) ?_
 refine GL_gf (t := 21) rfl rfl rfl (fun q => PS_load (cF rfl q) tys3 (.head _) Order.l0 rfl rfl) ?_
 refine GL_gf (t := 21) rfl rfl rfl (fun q => PS_eql (cF rfl q) rfl) ?_
 refine Gt (PS_or rfl rfl (fun h => by rw [h]; rfl)) ?_
 refine Ga rfl ?_
 refine Gn (.t3 0 3 4) ?_
 refine Gs ?_
 refine GL_bs (cs := encA (n := 3) encI (Vector.replicate 3 default)) (cs' := (([3, 1, 2] : List Int).flatMap encI)) rfl Tryz.underlying66 sz3 zv3 (by decide) (by decide) (by kernel_rfl) (.cons (Lens.arr (n := 3) (i := 0) flI (by decide) (by decide)) rfl rfl rfl (.cons (Lens.arr (n := 3) (i := 1) flI (by decide) (by decide)) rfl rfl rfl (.cons (Lens.arr (n := 3) (i := 2) flI (by decide) (by decide)) rfl rfl rfl .nil))) rfl (fun b2 => ?_)
 refine Gt (PSf fa47_0 rfl) ?_
 refine Gt (PS_load rfl tys3 (.tail _ (.head _)) Order.l0 rfl rfl) ?_
 refine Gt (PS_sub rfl rfl (IntWalk.i64_in _ (by first | omega | exact hb.1 | exact hb.2 | exact hx0.1 | exact hx0.2 | (have hr9 : 0 ≤ (Turn.me (Turn.setShut T (T.w.beings.at T.b).room (Words.dir o.name).1 (!Turn.setOn o.verb))).room ∧ (Turn.me (Turn.setShut T (T.w.beings.at T.b).room (Words.dir o.name).1 (!Turn.setOn o.verb))).room < 6 := hr; unfold Turn.me at hr9; omega) | (dsimp only; omega)))) ?_
 refine Gt (PS_quo rfl rfl (by first | omega | exact hb.1 | exact hb.2 | exact hx0.1 | exact hx0.2 | (have hr9 : 0 ≤ (Turn.me (Turn.setShut T (T.w.beings.at T.b).room (Words.dir o.name).1 (!Turn.setOn o.verb))).room ∧ (Turn.me (Turn.setShut T (T.w.beings.at T.b).room (Words.dir o.name).1 (!Turn.setOn o.verb))).room < 6 := hr; unfold Turn.me at hr9; omega) | (dsimp only; omega)) (IntWalk.i64_in _ (by first | omega | exact hb.1 | exact hb.2 | exact hx0.1 | exact hx0.2 | (have hr9 : 0 ≤ (Turn.me (Turn.setShut T (T.w.beings.at T.b).room (Words.dir o.name).1 (!Turn.setOn o.verb))).room ∧ (Turn.me (Turn.setShut T (T.w.beings.at T.b).room (Words.dir o.name).1 (!Turn.setOn o.verb))).room < 6 := hr; unfold Turn.me at hr9; omega) | (dsimp only; omega)))) ?_
 refine Gt (PS_idxS is66 (by decide) (Kn.own (.head _)) rfl rfl (by omega) (by first | omega | (simp at q ⊢; omega) | ((try simp only [List.length_cons, List.length_nil]); omega))) ?_
 refine Gt (PS_ldInt rfl tys3 (Kn.own (.head _)) (by first | omega | (simp at q ⊢; omega) | ((try simp only [List.length_cons, List.length_nil]); omega))) ?_
 refine Ga rfl ?_
 refine Gn (.t4 0 3 4 5) ?_
 refine G_seq ?_
 rw [hkd.1]
 refine G_region ?_
 refine Gt (PSf fa47_0 rfl) ?_
 refine Gt (PS_load rfl tys3 (.tail _ (.head _)) Order.l0 rfl rfl) ?_
 refine Gt (PS_sub rfl rfl (IntWalk.i64_in _ (by first | omega | exact hb.1 | exact hb.2 | exact hx0.1 | exact hx0.2 | (have hr9 : 0 ≤ (Turn.me (Turn.setShut T (T.w.beings.at T.b).room (Words.dir o.name).1 (!Turn.setOn o.verb))).room ∧ (Turn.me (Turn.setShut T (T.w.beings.at T.b).room (Words.dir o.name).1 (!Turn.setOn o.verb))).room < 6 := hr; unfold Turn.me at hr9; omega) | (dsimp only; omega)))) ?_
 refine Ga rfl ?_
 refine Gn (.t5 0 3 4 5 6) ?_
 refine Gss ?_
 refine Gt (PSf fa47_3 rfl) ?_
 refine Gt (PS_load rfl tys9 (.tail _ (.head _)) Order.l3 rfl rfl) ?_
 refine GL_pure rfl cf72 (.cons rfl .nil) (fun w hS => ref_DirectionOf_spec _ w (gl0.stM gm0 hS)) ?_
 refine Gm rfl ?_
 refine Gt (PS_extract rfl rfl) ?_
 refine Gt (PS_extract rfl rfl) ?_
 refine Ga rfl (Ga rfl ?_)
 refine Gn (.t7 0 3 4 5 6 7 8) ?_
 refine Gs ?_
 refine Gm rfl (Gm rfl ?_)
 refine GL_gt (t := 43) rfl rfl rfl (fun q => PS_move rfl) ?_
 refine GL_gt (t := 43) rfl rfl rfl (fun q => PS_eql (cvE rfl q) rfl) ?_
 refine Gt (PS_and rfl rfl (fun h => h)) ?_
 refine Gn (.t7 0 3 4 5 6 7 46) ?_
 refine Gc (fun c1 => ?_) (fun c1 => ?_)
 ·
  have c1p := c1; try simp only [kk] at c1p
  have hd := Words.dir_rng (Bool.and_eq_true_iff.1 c1).1
  have hx := hF.exit hd.1 hd.2
  have hop := Turn.opp_rng hd.1
  refine G_seq ?_
  refine G_planN (N := 13) [0, 0, 2, 0, 1, 17, 49, 119, 247, 511, 1023, 2047, 4095] mix (by kernel_rfl) rfl ?_
  refine Pf 0 rfl (PS_move rfl) (Pf 1 rfl (PS_move rfl) (Pf 3 rfl (PS_move rfl) (Pf 4 rfl (PSn rfl) (Pf 5 rfl (PSf fa57_0 rfl) (Pf 6 rfl (PSf fa34_0 rfl) ?_)))))
  refine Plan_chain 2 rfl (by kernel_rfl) ?_
  refine GL_callL rfl cf51 (.cons rfl .nil) (.cons (.tail (.tail .head)) .nil) (ref_turn_here_spec _ T _ hF) (fun v1 B hv => ?_)
  obtain ⟨rfl, rfl⟩ := hv
  refine GL_hand rfl ⟨?_, ?_⟩
  · exact (Po rfl (PSf fa34_0 rfl) rfl rfl (Po rfl (PSf fa57_0 rfl) rfl rfl (Po rfl (PSn rfl) rfl rfl (Po rfl (PS_move rfl) rfl rfl (Pk (Po rfl (PS_move rfl) rfl rfl Pend_nil))))))
  refine Pf 7 rfl (PS_indexAddr ia26 rfl rfl (by first | omega | exact hb.1 | exact hb.2 | exact hx0.1 | exact hx0.2 | (have hr9 : 0 ≤ (Turn.me (Turn.setShut T (T.w.beings.at T.b).room (Words.dir o.name).1 (!Turn.setOn o.verb))).room ∧ (Turn.me (Turn.setShut T (T.w.beings.at T.b).room (Words.dir o.name).1 (!Turn.setOn o.verb))).room < 6 := hr; unfold Turn.me at hr9; omega) | (dsimp only; omega)) (by first | omega | exact hb.1 | exact hb.2 | exact hx0.1 | exact hx0.2 | (have hr9 : 0 ≤ (Turn.me (Turn.setShut T (T.w.beings.at T.b).room (Words.dir o.name).1 (!Turn.setOn o.verb))).room ∧ (Turn.me (Turn.setShut T (T.w.beings.at T.b).room (Words.dir o.name).1 (!Turn.setOn o.verb))).room < 6 := hr; unfold Turn.me at hr9; omega) | (dsimp only; omega))) ?_
  refine Pf 8 rfl (PSf fa25_2 rfl) ?_
  refine Pf 9 rfl (PS_indexAddr ia22 rfl rfl (by first | omega | exact hb.1 | exact hb.2 | exact hx0.1 | exact hx0.2 | (have hr9 : 0 ≤ (Turn.me (Turn.setShut T (T.w.beings.at T.b).room (Words.dir o.name).1 (!Turn.setOn o.verb))).room ∧ (Turn.me (Turn.setShut T (T.w.beings.at T.b).room (Words.dir o.name).1 (!Turn.setOn o.verb))).room < 6 := hr; unfold Turn.me at hr9; omega) | (dsimp only; omega)) (by first | omega | exact hb.1 | exact hb.2 | exact hx0.1 | exact hx0.2 | (have hr9 : 0 ≤ (Turn.me (Turn.setShut T (T.w.beings.at T.b).room (Words.dir o.name).1 (!Turn.setOn o.verb))).room ∧ (Turn.me (Turn.setShut T (T.w.beings.at T.b).room (Words.dir o.name).1 (!Turn.setOn o.verb))).room < 6 := hr; unfold Turn.me at hr9; omega) | (dsimp only; omega))) ?_
  refine Pf 10 rfl (PS_load rfl tys3 (.head _) ((((TurnV.l0.comp Land.l0).comp (Lens.ar (n := 6) Room.fl (by first | omega | exact hb | exact hx0 | (have hr9 : 0 ≤ (Turn.me (Turn.setShut T (T.w.beings.at T.b).room (Words.dir o.name).1 (!Turn.setOn o.verb))).room ∧ (Turn.me (Turn.setShut T (T.w.beings.at T.b).room (Words.dir o.name).1 (!Turn.setOn o.verb))).room < 6 := hr; unfold Turn.me at hr9; omega) | (dsimp only; omega)))).comp Room.l2).comp (Lens.ar (n := 6) flI (by first | omega | exact hb | exact hx0 | (have hr9 : 0 ≤ (Turn.me (Turn.setShut T (T.w.beings.at T.b).room (Words.dir o.name).1 (!Turn.setOn o.verb))).room ∧ (Turn.me (Turn.setShut T (T.w.beings.at T.b).room (Words.dir o.name).1 (!Turn.setOn o.verb))).room < 6 := hr; unfold Turn.me at hr9; omega) | (dsimp only; omega)))) rfl rfl) ?_
  refine Pf 11 rfl (PS_sub rfl rfl (IntWalk.i64_in _ (by first | omega | exact hb.1 | exact hb.2 | exact hx0.1 | exact hx0.2 | (have hr9 : 0 ≤ (Turn.me (Turn.setShut T (T.w.beings.at T.b).room (Words.dir o.name).1 (!Turn.setOn o.verb))).room ∧ (Turn.me (Turn.setShut T (T.w.beings.at T.b).room (Words.dir o.name).1 (!Turn.setOn o.verb))).room < 6 := hr; unfold Turn.me at hr9; omega) | (dsimp only; omega)))) ?_
  refine Pf 12 rfl (PS_assign rfl) ?_
  refine Plan_end (by kernel_rfl) ?_
  refine GQ_sub (.t5 0 4 6 7 9) ?_
  refine GQ_then ?_
  refine Gss ?_
  refine Gm rfl ?_
  refine Gt (PS_lss rfl rfl) ?_
  refine Gn (.t6 0 4 6 7 9 60) ?_
  refine Gc (fun c2 => ?_) (fun c2 => ?_)
  ·
   have c2p := c2; try simp only [kk] at c2p
   refine Gs ?_
   refine Gm rfl ?_
   refine GL_callL rfl cf39 (.cons rfl (.cons rfl .nil)) (.cons .head (.cons (.tail (.tail .head)) .nil)) (ref_turn_tell_spec _ _ _ _ hg hb (by omega)) (fun v2 B hv => ?_)
   obtain ⟨y3, rfl, y4, rfl⟩ := hv
   refine Gn (.nil _) ?_
   refine G_ret ?_
   refine GQ_then_ret ?_
   refine GQ_then_ret ?_
   refine GQ_ret rfl .nil ?_
   intro w1 hS
   have hS := (hS.perm (Pulls.perm (.cons .head (.cons .head .nil)))).headL
   have hq : T.set o = _ := (Turn.set_door c1).trans (Turn.door_no c2)
   (try rw [hsl] at hq)
   refine ⟨_, ⟨?gq1, rfl, ?hl1, ?hB1⟩, hS⟩
   case hB1 => rw [hq]; (try rfl)
   case hl1 => rw [hq]; assumption
  ·
   have c2p := c2; try simp only [kk] at c2p
   refine G_skip ?_
   refine GQ_sub (.t5 0 4 6 7 9) ?_
   refine GQ_then ?_
   refine G_seq ?_
   refine G_seq ?_
   refine G_planN (N := 14) [0, 0, 2, 0, 1, 17, 49, 119, 247, 511, 1023, 0, 2048, 8191] mix (by kernel_rfl) rfl ?_
   refine Pf 0 rfl (PS_move rfl) (Pf 1 rfl (PS_move rfl) (Pf 3 rfl (PS_move rfl) (Pf 4 rfl (PSn rfl) (Pf 5 rfl (PSf fa57_0 rfl) (Pf 6 rfl (PSf fa34_0 rfl) ?_)))))
   refine Pf 11 rfl (PS_move rfl) ?_
   refine Pf 12 rfl (PS_not rfl) ?_
   refine Plan_chain 2 rfl (by kernel_rfl) ?_
   refine GL_callL rfl cf51 (.cons rfl .nil) (.cons .head .nil) (ref_turn_here_spec _ T _ hF) (fun v5 B hv => ?_)
   obtain ⟨rfl, rfl⟩ := hv
   refine GL_hand rfl ⟨?_, ?_⟩
   · exact (Po rfl (PS_not rfl) rfl rfl (Po rfl (PS_move rfl) rfl rfl (Po rfl (PSf fa34_0 rfl) rfl rfl (Po rfl (PSf fa57_0 rfl) rfl rfl (Po rfl (PSn rfl) rfl rfl (Po rfl (PS_move rfl) rfl rfl (Pk (Po rfl (PS_move rfl) rfl rfl Pend_nil))))))))
   refine Pf 7 rfl (PS_indexAddr ia26 rfl rfl (by first | omega | exact hb.1 | exact hb.2 | exact hx0.1 | exact hx0.2 | (have hr9 : 0 ≤ (Turn.me (Turn.setShut T (T.w.beings.at T.b).room (Words.dir o.name).1 (!Turn.setOn o.verb))).room ∧ (Turn.me (Turn.setShut T (T.w.beings.at T.b).room (Words.dir o.name).1 (!Turn.setOn o.verb))).room < 6 := hr; unfold Turn.me at hr9; omega) | (dsimp only; omega)) (by first | omega | exact hb.1 | exact hb.2 | exact hx0.1 | exact hx0.2 | (have hr9 : 0 ≤ (Turn.me (Turn.setShut T (T.w.beings.at T.b).room (Words.dir o.name).1 (!Turn.setOn o.verb))).room ∧ (Turn.me (Turn.setShut T (T.w.beings.at T.b).room (Words.dir o.name).1 (!Turn.setOn o.verb))).room < 6 := hr; unfold Turn.me at hr9; omega) | (dsimp only; omega))) ?_
   refine Pf 8 rfl (PSf fa25_3 rfl) ?_
   refine Pf 9 rfl (PS_indexAddr ia23 rfl rfl (by first | omega | exact hb.1 | exact hb.2 | exact hx0.1 | exact hx0.2 | (have hr9 : 0 ≤ (Turn.me (Turn.setShut T (T.w.beings.at T.b).room (Words.dir o.name).1 (!Turn.setOn o.verb))).room ∧ (Turn.me (Turn.setShut T (T.w.beings.at T.b).room (Words.dir o.name).1 (!Turn.setOn o.verb))).room < 6 := hr; unfold Turn.me at hr9; omega) | (dsimp only; omega)) (by first | omega | exact hb.1 | exact hb.2 | exact hx0.1 | exact hx0.2 | (have hr9 : 0 ≤ (Turn.me (Turn.setShut T (T.w.beings.at T.b).room (Words.dir o.name).1 (!Turn.setOn o.verb))).room ∧ (Turn.me (Turn.setShut T (T.w.beings.at T.b).room (Words.dir o.name).1 (!Turn.setOn o.verb))).room < 6 := hr; unfold Turn.me at hr9; omega) | (dsimp only; omega))) ?_
   refine Pf 10 rfl (PS_load rfl tys4 (.head _) ((((TurnV.l0.comp Land.l0).comp (Lens.ar (n := 6) Room.fl (by first | omega | exact hb | exact hx0 | (have hr9 : 0 ≤ (Turn.me (Turn.setShut T (T.w.beings.at T.b).room (Words.dir o.name).1 (!Turn.setOn o.verb))).room ∧ (Turn.me (Turn.setShut T (T.w.beings.at T.b).room (Words.dir o.name).1 (!Turn.setOn o.verb))).room < 6 := hr; unfold Turn.me at hr9; omega) | (dsimp only; omega)))).comp Room.l3).comp (Lens.ar (n := 6) flB (by first | omega | exact hb | exact hx0 | (have hr9 : 0 ≤ (Turn.me (Turn.setShut T (T.w.beings.at T.b).room (Words.dir o.name).1 (!Turn.setOn o.verb))).room ∧ (Turn.me (Turn.setShut T (T.w.beings.at T.b).room (Words.dir o.name).1 (!Turn.setOn o.verb))).room < 6 := hr; unfold Turn.me at hr9; omega) | (dsimp only; omega)))) rfl rfl) ?_
   refine Pf 13 rfl (PS_eql_bool Tryz.underlying4 rfl rfl) ?_
   refine Plan_end (by kernel_rfl) ?_
   refine GQ_sub (.t6 0 4 6 7 9 76) ?_
   refine GQ_then ?_
   refine Gc (fun c3 => ?_) (fun c3 => ?_)
   ·
    have c3p := c3; try simp only [kk] at c3p
    refine Gs ?_
    refine Gm rfl ?_
    refine GL_callL rfl cf39 (.cons rfl (.cons rfl .nil)) (.cons .head (.cons (.tail (.tail .head)) .nil)) (ref_turn_tell_spec _ _ _ _ hg hb (by omega)) (fun v6 B hv => ?_)
    obtain ⟨y7, rfl, y8, rfl⟩ := hv
    refine Gn (.nil _) ?_
    refine G_ret ?_
    refine GQ_then_ret ?_
    refine GQ_then_ret ?_
    refine GQ_ret rfl .nil ?_
    intro w1 hS
    have hS := (hS.perm (Pulls.perm (.cons .head (.cons .head .nil)))).headL
    have hq : T.set o = _ := (Turn.set_door c1).trans (Turn.door_so c2 c3)
    (try rw [hsl] at hq)
    refine ⟨_, ⟨?gq2, rfl, ?hl2, ?hB2⟩, hS⟩
    case hB2 => rw [hq]; (try rfl)
    case hl2 => rw [hq]; assumption
   ·
    have c3p := c3; try simp only [kk] at c3p
    refine G_skip ?_
    refine GQ_sub (.t5 0 4 6 7 9) ?_
    refine GQ_then ?_
    refine G_seq ?_
    refine G_planN (N := 13) [0, 0, 2, 0, 0, 16, 1, 65, 193, 455, 967, 2047, 4095] mix (by kernel_rfl) rfl ?_
    refine Pf 0 rfl (PS_move rfl) (Pf 1 rfl (PS_move rfl) (Pf 3 rfl (PS_move rfl) (Pf 4 rfl (PS_move rfl) ?_)))
    refine Pf 5 rfl (PS_not rfl) ?_
    refine Pf 6 rfl (PSn rfl) (Pf 7 rfl (PSf fa57_0 rfl) (Pf 8 rfl (PSf fa34_0 rfl) ?_))
    refine Plan_chain 2 rfl (by kernel_rfl) ?_
    refine GL_callL rfl cf51 (.cons rfl .nil) (.cons .head .nil) (ref_turn_here_spec _ T _ hF) (fun v9 B hv => ?_)
    obtain ⟨rfl, rfl⟩ := hv
    refine GL_hand rfl ⟨?_, ?_⟩
    · exact (Po rfl (PSf fa34_0 rfl) rfl rfl (Po rfl (PSf fa57_0 rfl) rfl rfl (Po rfl (PSn rfl) rfl rfl (Po rfl (PS_not rfl) rfl rfl (Po rfl (PS_move rfl) rfl rfl (Po rfl (PS_move rfl) rfl rfl (Pk (Po rfl (PS_move rfl) rfl rfl Pend_nil))))))))
    refine Pf 9 rfl (PS_indexAddr ia26 rfl rfl (by first | omega | exact hb.1 | exact hb.2 | exact hx0.1 | exact hx0.2 | (have hr9 : 0 ≤ (Turn.me (Turn.setShut T (T.w.beings.at T.b).room (Words.dir o.name).1 (!Turn.setOn o.verb))).room ∧ (Turn.me (Turn.setShut T (T.w.beings.at T.b).room (Words.dir o.name).1 (!Turn.setOn o.verb))).room < 6 := hr; unfold Turn.me at hr9; omega) | (dsimp only; omega)) (by first | omega | exact hb.1 | exact hb.2 | exact hx0.1 | exact hx0.2 | (have hr9 : 0 ≤ (Turn.me (Turn.setShut T (T.w.beings.at T.b).room (Words.dir o.name).1 (!Turn.setOn o.verb))).room ∧ (Turn.me (Turn.setShut T (T.w.beings.at T.b).room (Words.dir o.name).1 (!Turn.setOn o.verb))).room < 6 := hr; unfold Turn.me at hr9; omega) | (dsimp only; omega))) ?_
    refine Pf 10 rfl (PSf fa25_3 rfl) ?_
    refine Pf 11 rfl (PS_indexAddr ia23 rfl rfl (by first | omega | exact hb.1 | exact hb.2 | exact hx0.1 | exact hx0.2 | (have hr9 : 0 ≤ (Turn.me (Turn.setShut T (T.w.beings.at T.b).room (Words.dir o.name).1 (!Turn.setOn o.verb))).room ∧ (Turn.me (Turn.setShut T (T.w.beings.at T.b).room (Words.dir o.name).1 (!Turn.setOn o.verb))).room < 6 := hr; unfold Turn.me at hr9; omega) | (dsimp only; omega)) (by first | omega | exact hb.1 | exact hb.2 | exact hx0.1 | exact hx0.2 | (have hr9 : 0 ≤ (Turn.me (Turn.setShut T (T.w.beings.at T.b).room (Words.dir o.name).1 (!Turn.setOn o.verb))).room ∧ (Turn.me (Turn.setShut T (T.w.beings.at T.b).room (Words.dir o.name).1 (!Turn.setOn o.verb))).room < 6 := hr; unfold Turn.me at hr9; omega) | (dsimp only; omega))) ?_
    refine Plan_chain 12 rfl (by kernel_rfl) ?_
    refine GL_unit (PU_store ((((TurnV.l0.comp Land.l0).comp (Lens.ar (n := 6) Room.fl (by first | omega | exact hb | exact hx0 | (have hr9 : 0 ≤ (Turn.me (Turn.setShut T (T.w.beings.at T.b).room (Words.dir o.name).1 (!Turn.setOn o.verb))).room ∧ (Turn.me (Turn.setShut T (T.w.beings.at T.b).room (Words.dir o.name).1 (!Turn.setOn o.verb))).room < 6 := hr; unfold Turn.me at hr9; omega) | (dsimp only; omega)))).comp Room.l3).comp (Lens.ar (n := 6) flB (by first | omega | exact hb | exact hx0 | (have hr9 : 0 ≤ (Turn.me (Turn.setShut T (T.w.beings.at T.b).room (Words.dir o.name).1 (!Turn.setOn o.verb))).room ∧ (Turn.me (Turn.setShut T (T.w.beings.at T.b).room (Words.dir o.name).1 (!Turn.setOn o.verb))).room < 6 := hr; unfold Turn.me at hr9; omega) | (dsimp only; omega)))) rfl rfl rfl sz4 rfl .head) ?_
    refine GL_hand0 rfl ⟨?_, ?_⟩
    · exact (Pk (Pk (Pk (Pk (Pk (Pk (Pk (Pk (Pk (Pk (Pk Pend_nil)))))))))))
    refine Plan_end (by kernel_rfl) ?_
    refine GQ_sub (.t5 0 4 6 7 9) ?_
    refine GQ_then ?_
    refine G_seq ?_
    refine G_seq ?_
    refine G_planN (N := 16) [0, 0, 0, 4, 12, 1, 33, 97, 227, 483, 1023, 2047, 0, 4096, 12288, 32767] mix (by kernel_rfl) rfl ?_
    refine Pf 0 rfl (PS_move rfl) (Pf 1 rfl (PS_move rfl) (Pf 2 rfl (PS_move rfl) ?_))
    refine Pf 3 rfl (PS_add rfl rfl (IntWalk.i64_in _ (by first | omega | exact hb.1 | exact hb.2 | exact hx0.1 | exact hx0.2 | (have hr9 : 0 ≤ (Turn.me (Turn.setShut T (T.w.beings.at T.b).room (Words.dir o.name).1 (!Turn.setOn o.verb))).room ∧ (Turn.me (Turn.setShut T (T.w.beings.at T.b).room (Words.dir o.name).1 (!Turn.setOn o.verb))).room < 6 := hr; unfold Turn.me at hr9; omega) | (dsimp only; omega)))) ?_
    refine Pf 4 rfl (PS_rem rfl rfl (by first | omega | exact hb.1 | exact hb.2 | exact hx0.1 | exact hx0.2 | (have hr9 : 0 ≤ (Turn.me (Turn.setShut T (T.w.beings.at T.b).room (Words.dir o.name).1 (!Turn.setOn o.verb))).room ∧ (Turn.me (Turn.setShut T (T.w.beings.at T.b).room (Words.dir o.name).1 (!Turn.setOn o.verb))).room < 6 := hr; unfold Turn.me at hr9; omega) | (dsimp only; omega))) ?_
    refine Pf 5 rfl (PSn rfl) (Pf 6 rfl (PSf fa57_0 rfl) (Pf 7 rfl (PSf fa34_0 rfl) ?_))
    refine Pf 8 rfl (PS_indexAddr ia26 rfl rfl (by first | omega | exact hb.1 | exact hb.2 | exact hx0.1 | exact hx0.2 | (have hr9 : 0 ≤ (Turn.me (Turn.setShut T (T.w.beings.at T.b).room (Words.dir o.name).1 (!Turn.setOn o.verb))).room ∧ (Turn.me (Turn.setShut T (T.w.beings.at T.b).room (Words.dir o.name).1 (!Turn.setOn o.verb))).room < 6 := hr; unfold Turn.me at hr9; omega) | (dsimp only; omega)) (by first | omega | exact hb.1 | exact hb.2 | exact hx0.1 | exact hx0.2 | (have hr9 : 0 ≤ (Turn.me (Turn.setShut T (T.w.beings.at T.b).room (Words.dir o.name).1 (!Turn.setOn o.verb))).room ∧ (Turn.me (Turn.setShut T (T.w.beings.at T.b).room (Words.dir o.name).1 (!Turn.setOn o.verb))).room < 6 := hr; unfold Turn.me at hr9; omega) | (dsimp only; omega))) ?_
    refine Pf 9 rfl (PSf fa25_2 rfl) ?_
    refine Pf 10 rfl (PS_indexAddr ia22 rfl rfl (by first | omega | exact hb.1 | exact hb.2 | exact hx0.1 | exact hx0.2 | (have hr9 : 0 ≤ (Turn.me (Turn.setShut T (T.w.beings.at T.b).room (Words.dir o.name).1 (!Turn.setOn o.verb))).room ∧ (Turn.me (Turn.setShut T (T.w.beings.at T.b).room (Words.dir o.name).1 (!Turn.setOn o.verb))).room < 6 := hr; unfold Turn.me at hr9; omega) | (dsimp only; omega)) (by first | omega | exact hb.1 | exact hb.2 | exact hx0.1 | exact hx0.2 | (have hr9 : 0 ≤ (Turn.me (Turn.setShut T (T.w.beings.at T.b).room (Words.dir o.name).1 (!Turn.setOn o.verb))).room ∧ (Turn.me (Turn.setShut T (T.w.beings.at T.b).room (Words.dir o.name).1 (!Turn.setOn o.verb))).room < 6 := hr; unfold Turn.me at hr9; omega) | (dsimp only; omega))) ?_
    refine Pf 11 rfl (PS_load rfl tys3 (.head _) ((((TurnV.l0.comp Land.l0).comp (Lens.ar (n := 6) Room.fl (by first | omega | exact hb | exact hx0 | (have hr9 : 0 ≤ (Turn.me (Turn.setShut T (T.w.beings.at T.b).room (Words.dir o.name).1 (!Turn.setOn o.verb))).room ∧ (Turn.me (Turn.setShut T (T.w.beings.at T.b).room (Words.dir o.name).1 (!Turn.setOn o.verb))).room < 6 := hr; unfold Turn.me at hr9; omega) | (dsimp only; omega)))).comp Room.l2).comp (Lens.ar (n := 6) flI (by first | omega | exact hb | exact hx0 | (have hr9 : 0 ≤ (Turn.me (Turn.setShut T (T.w.beings.at T.b).room (Words.dir o.name).1 (!Turn.setOn o.verb))).room ∧ (Turn.me (Turn.setShut T (T.w.beings.at T.b).room (Words.dir o.name).1 (!Turn.setOn o.verb))).room < 6 := hr; unfold Turn.me at hr9; omega) | (dsimp only; omega)))) rfl rfl) ?_
    refine Pf 12 rfl (PS_move rfl) ?_
    refine Plan_chain 13 rfl (by kernel_rfl) ?_
    refine GL_callL rfl cf51 (.cons rfl .nil) (.cons .head .nil) (ref_turn_here_spec _ (Turn.setShut T (T.w.beings.at T.b).room (Words.dir o.name).1 (!Turn.setOn o.verb)) _ (Turn.setShut_goes hF (v := !Turn.setOn o.verb) hr.1 hr.2 hd.1 hd.2 (fun _ => by have h0 : ¬ (((T.w.rooms.at (T.w.beings.at T.b).room).exits.at (Words.dir o.name).1 - 1) < 0) := of_decide_eq_false c2; omega)).fit) (fun v10 B hv => ?_)
    obtain ⟨rfl, rfl⟩ := hv
    refine GL_hand rfl ⟨?_, ?_⟩
    · exact (Pk (Po rfl (PS_load rfl tys3 (.head _) ((((TurnV.l0.comp Land.l0).comp (Lens.ar (n := 6) Room.fl (by first | omega | exact hb | exact hx0 | (have hr9 : 0 ≤ (Turn.me (Turn.setShut T (T.w.beings.at T.b).room (Words.dir o.name).1 (!Turn.setOn o.verb))).room ∧ (Turn.me (Turn.setShut T (T.w.beings.at T.b).room (Words.dir o.name).1 (!Turn.setOn o.verb))).room < 6 := hr; unfold Turn.me at hr9; omega) | (dsimp only; omega)))).comp Room.l2).comp (Lens.ar (n := 6) flI (by first | omega | exact hb | exact hx0 | (have hr9 : 0 ≤ (Turn.me (Turn.setShut T (T.w.beings.at T.b).room (Words.dir o.name).1 (!Turn.setOn o.verb))).room ∧ (Turn.me (Turn.setShut T (T.w.beings.at T.b).room (Words.dir o.name).1 (!Turn.setOn o.verb))).room < 6 := hr; unfold Turn.me at hr9; omega) | (dsimp only; omega)))) rfl rfl) rfl rfl (Po rfl (PS_indexAddr ia22 rfl rfl (by first | omega | exact hb.1 | exact hb.2 | exact hx0.1 | exact hx0.2 | (have hr9 : 0 ≤ (Turn.me (Turn.setShut T (T.w.beings.at T.b).room (Words.dir o.name).1 (!Turn.setOn o.verb))).room ∧ (Turn.me (Turn.setShut T (T.w.beings.at T.b).room (Words.dir o.name).1 (!Turn.setOn o.verb))).room < 6 := hr; unfold Turn.me at hr9; omega) | (dsimp only; omega)) (by first | omega | exact hb.1 | exact hb.2 | exact hx0.1 | exact hx0.2 | (have hr9 : 0 ≤ (Turn.me (Turn.setShut T (T.w.beings.at T.b).room (Words.dir o.name).1 (!Turn.setOn o.verb))).room ∧ (Turn.me (Turn.setShut T (T.w.beings.at T.b).room (Words.dir o.name).1 (!Turn.setOn o.verb))).room < 6 := hr; unfold Turn.me at hr9; omega) | (dsimp only; omega))) rfl rfl (Po rfl (PSf fa25_2 rfl) rfl rfl (Po rfl (PS_indexAddr ia26 rfl rfl (by first | omega | exact hb.1 | exact hb.2 | exact hx0.1 | exact hx0.2 | (have hr9 : 0 ≤ (Turn.me (Turn.setShut T (T.w.beings.at T.b).room (Words.dir o.name).1 (!Turn.setOn o.verb))).room ∧ (Turn.me (Turn.setShut T (T.w.beings.at T.b).room (Words.dir o.name).1 (!Turn.setOn o.verb))).room < 6 := hr; unfold Turn.me at hr9; omega) | (dsimp only; omega)) (by first | omega | exact hb.1 | exact hb.2 | exact hx0.1 | exact hx0.2 | (have hr9 : 0 ≤ (Turn.me (Turn.setShut T (T.w.beings.at T.b).room (Words.dir o.name).1 (!Turn.setOn o.verb))).room ∧ (Turn.me (Turn.setShut T (T.w.beings.at T.b).room (Words.dir o.name).1 (!Turn.setOn o.verb))).room < 6 := hr; unfold Turn.me at hr9; omega) | (dsimp only; omega))) rfl rfl (Po rfl (PSf fa34_0 rfl) rfl rfl (Po rfl (PSf fa57_0 rfl) rfl rfl (Po rfl (PSn rfl) rfl rfl (Po rfl (PS_rem rfl rfl (by first | omega | exact hb.1 | exact hb.2 | exact hx0.1 | exact hx0.2 | (have hr9 : 0 ≤ (Turn.me (Turn.setShut T (T.w.beings.at T.b).room (Words.dir o.name).1 (!Turn.setOn o.verb))).room ∧ (Turn.me (Turn.setShut T (T.w.beings.at T.b).room (Words.dir o.name).1 (!Turn.setOn o.verb))).room < 6 := hr; unfold Turn.me at hr9; omega) | (dsimp only; omega))) rfl rfl (Po rfl (PS_add rfl rfl (IntWalk.i64_in _ (by first | omega | exact hb.1 | exact hb.2 | exact hx0.1 | exact hx0.2 | (have hr9 : 0 ≤ (Turn.me (Turn.setShut T (T.w.beings.at T.b).room (Words.dir o.name).1 (!Turn.setOn o.verb))).room ∧ (Turn.me (Turn.setShut T (T.w.beings.at T.b).room (Words.dir o.name).1 (!Turn.setOn o.verb))).room < 6 := hr; unfold Turn.me at hr9; omega) | (dsimp only; omega)))) rfl rfl (Po rfl (PS_move rfl) rfl rfl (Po rfl (PS_move rfl) rfl rfl (Po rfl (PS_move rfl) rfl rfl Pend_nil)))))))))))))
    refine Pf 14 rfl (PS_add rfl rfl (IntWalk.i64_in _ (by first | omega | exact hb.1 | exact hb.2 | exact hx0.1 | exact hx0.2 | (have hr9 : 0 ≤ (Turn.me (Turn.setShut T (T.w.beings.at T.b).room (Words.dir o.name).1 (!Turn.setOn o.verb))).room ∧ (Turn.me (Turn.setShut T (T.w.beings.at T.b).room (Words.dir o.name).1 (!Turn.setOn o.verb))).room < 6 := hr; unfold Turn.me at hr9; omega) | (dsimp only; omega)))) ?_
    refine Pf 15 rfl (PS_eql rfl rfl) ?_
    refine Plan_end (by kernel_rfl) ?_
    refine GQ_sub (.t6 0 4 6 7 9 106) ?_
    refine GQ_then ?_
    refine Gc (fun c4 => ?_) (fun c4 => ?_)
    ·
     have c4p := c4; try simp only [kk] at c4p
     refine G_region ?_
     refine Gm rfl (Gm rfl (Gm rfl ?_))
     refine Gt (PS_add rfl rfl (IntWalk.i64_in _ (by first | omega | exact hb.1 | exact hb.2 | exact hx0.1 | exact hx0.2 | (have hr9 : 0 ≤ (Turn.me (Turn.setShut T (T.w.beings.at T.b).room (Words.dir o.name).1 (!Turn.setOn o.verb))).room ∧ (Turn.me (Turn.setShut T (T.w.beings.at T.b).room (Words.dir o.name).1 (!Turn.setOn o.verb))).room < 6 := hr; unfold Turn.me at hr9; omega) | (dsimp only; omega)))) ?_
     refine Gt (PS_rem rfl rfl (by first | omega | exact hb.1 | exact hb.2 | exact hx0.1 | exact hx0.2 | (have hr9 : 0 ≤ (Turn.me (Turn.setShut T (T.w.beings.at T.b).room (Words.dir o.name).1 (!Turn.setOn o.verb))).room ∧ (Turn.me (Turn.setShut T (T.w.beings.at T.b).room (Words.dir o.name).1 (!Turn.setOn o.verb))).room < 6 := hr; unfold Turn.me at hr9; omega) | (dsimp only; omega))) ?_
     refine Gm rfl ?_
     refine Gt (PS_not rfl) ?_
     refine Gt (PSn rfl) (Gt (PSf fa57_0 rfl) (Gt (PSf fa34_0 rfl) ?_))
     refine Gt (PS_indexAddr ia26 rfl rfl (by first | omega | exact hb.1 | exact hb.2 | exact hx0.1 | exact hx0.2 | (have hr9 : 0 ≤ (Turn.me (Turn.setShut T (T.w.beings.at T.b).room (Words.dir o.name).1 (!Turn.setOn o.verb))).room ∧ (Turn.me (Turn.setShut T (T.w.beings.at T.b).room (Words.dir o.name).1 (!Turn.setOn o.verb))).room < 6 := hr; unfold Turn.me at hr9; omega) | (dsimp only; omega)) (by first | omega | exact hb.1 | exact hb.2 | exact hx0.1 | exact hx0.2 | (have hr9 : 0 ≤ (Turn.me (Turn.setShut T (T.w.beings.at T.b).room (Words.dir o.name).1 (!Turn.setOn o.verb))).room ∧ (Turn.me (Turn.setShut T (T.w.beings.at T.b).room (Words.dir o.name).1 (!Turn.setOn o.verb))).room < 6 := hr; unfold Turn.me at hr9; omega) | (dsimp only; omega))) ?_
     refine Gt (PSf fa25_3 rfl) ?_
     refine Gt (PS_indexAddr ia23 rfl rfl (by first | omega | exact hb.1 | exact hb.2 | exact hx0.1 | exact hx0.2 | (have hr9 : 0 ≤ (Turn.me (Turn.setShut T (T.w.beings.at T.b).room (Words.dir o.name).1 (!Turn.setOn o.verb))).room ∧ (Turn.me (Turn.setShut T (T.w.beings.at T.b).room (Words.dir o.name).1 (!Turn.setOn o.verb))).room < 6 := hr; unfold Turn.me at hr9; omega) | (dsimp only; omega)) (by first | omega | exact hb.1 | exact hb.2 | exact hx0.1 | exact hx0.2 | (have hr9 : 0 ≤ (Turn.me (Turn.setShut T (T.w.beings.at T.b).room (Words.dir o.name).1 (!Turn.setOn o.verb))).room ∧ (Turn.me (Turn.setShut T (T.w.beings.at T.b).room (Words.dir o.name).1 (!Turn.setOn o.verb))).room < 6 := hr; unfold Turn.me at hr9; omega) | (dsimp only; omega))) ?_
     refine GL_unit (PU_store ((((TurnV.l0.comp Land.l0).comp (Lens.ar (n := 6) Room.fl (by first | omega | exact hb | exact hx0 | (have hr9 : 0 ≤ (Turn.me (Turn.setShut T (T.w.beings.at T.b).room (Words.dir o.name).1 (!Turn.setOn o.verb))).room ∧ (Turn.me (Turn.setShut T (T.w.beings.at T.b).room (Words.dir o.name).1 (!Turn.setOn o.verb))).room < 6 := hr; unfold Turn.me at hr9; omega) | (dsimp only; omega)))).comp Room.l3).comp (Lens.ar (n := 6) flB (by first | omega | exact hb | exact hx0 | (have hr9 : 0 ≤ (Turn.me (Turn.setShut T (T.w.beings.at T.b).room (Words.dir o.name).1 (!Turn.setOn o.verb))).room ∧ (Turn.me (Turn.setShut T (T.w.beings.at T.b).room (Words.dir o.name).1 (!Turn.setOn o.verb))).room < 6 := hr; unfold Turn.me at hr9; omega) | (dsimp only; omega)))) rfl rfl rfl sz4 rfl .head) ?_
     refine Gn (.t2 0 6) ?_
     refine Gs ?_
     refine Gm rfl (Gm rfl ?_)
     refine GL_callL rfl cf20 (.cons rfl (.cons rfl (.cons rfl (.cons rfl (.cons rfl (.cons rfl (.cons rfl .nil))))))) (.cons .head (.cons (.tail (.tail .head)) .nil)) (ref_turn_add_spec _ (Turn.setShut (Turn.setShut T (T.w.beings.at T.b).room (Words.dir o.name).1 (!Turn.setOn o.verb)) ((T.w.rooms.at (T.w.beings.at T.b).room).exits.at (Words.dir o.name).1 - 1) (((Words.dir o.name).1 + 3).tmod 6) (!Turn.setOn o.verb)) _ (o.verb - 4) (-1) 0 0 Turn.doorT [] hg hb (show (-1 : Int) < 6 by decide) (show T.out.length ≤ 100000 by omega)) (fun v11 B hv => ?_)
     obtain ⟨y12, rfl, y13, rfl⟩ := hv
     refine Gn (.nil _) ?_
     refine G_ret ?_
     refine GQ_then_ret ?_
     refine GQ_ret rfl .nil ?_
     intro w1 hS
     have hS := (hS.perm (Pulls.perm (.cons .head (.cons .head .nil)))).headL
     have hq : T.set o = _ := (Turn.set_door c1).trans (Turn.door_two hd.1 hd.2 c2 c3 c4)
     (try rw [hsl] at hq)
     refine ⟨_, ⟨?gq3, rfl, ?hl3, ?hB3⟩, hS⟩
     case hB3 => rw [hq]; (try rfl)
     case hl3 => rw [hq]; assumption
    ·
     have c4p := c4; try simp only [kk] at c4p
     refine G_skip ?_
     refine GQ_sub (.t2 0 6) ?_
     refine GQ_then ?_
     refine Gs ?_
     refine Gm rfl (Gm rfl ?_)
     refine GL_callL rfl cf20 (.cons rfl (.cons rfl (.cons rfl (.cons rfl (.cons rfl (.cons rfl (.cons rfl .nil))))))) (.cons .head (.cons (.tail (.tail .head)) .nil)) (ref_turn_add_spec _ (Turn.setShut T (T.w.beings.at T.b).room (Words.dir o.name).1 (!Turn.setOn o.verb)) _ (o.verb - 4) (-1) 0 0 Turn.doorT [] hg hb (show (-1 : Int) < 6 by decide) (show T.out.length ≤ 100000 by omega)) (fun v14 B hv => ?_)
     obtain ⟨y15, rfl, y16, rfl⟩ := hv
     refine Gn (.nil _) ?_
     refine G_ret ?_
     refine GQ_then_ret ?_
     refine GQ_ret rfl .nil ?_
     intro w1 hS
     have hS := (hS.perm (Pulls.perm (.cons .head (.cons .head .nil)))).headL
     have hq : T.set o = _ := (Turn.set_door c1).trans (Turn.door_one hd.1 hd.2 c2 c3 c4)
     (try rw [hsl] at hq)
     refine ⟨_, ⟨?gq4, rfl, ?hl4, ?hB4⟩, hS⟩
     case hB4 => rw [hq]; (try rfl)
     case hl4 => rw [hq]; assumption
 ·
  have c1p := c1; try simp only [kk] at c1p
  refine G_skip ?_
  refine GQ_sub (.t5 0 3 4 5 6) ?_
  refine GQ_then ?_
  refine Gs ?_
  refine Gm rfl ?_
  refine GL_callL rfl cf41 (.cons rfl .nil) (.cons (.tail (.tail .head)) .nil) (ref_turn_mine_spec _ T _ hF) (fun v17 B hv => ?_)
  obtain ⟨y18, rfl, y19, rfl⟩ := hv
  refine Ga rfl ?_
  refine Gn (.t6 0 3 4 5 6 10) ?_
  refine Gss ?_
  refine Gm rfl ?_
  refine Gt (PS_eql rfl rfl) ?_
  refine Gn (.t7 0 3 4 5 6 10 126) ?_
  refine Gc (fun c5 => ?_) (fun c5 => ?_)
  ·
   have c5p := c5; try simp only [kk] at c5p
   refine G_region ?_
   refine Gm rfl (Gm rfl ?_)
   refine GL_callL rfl cf52 (.cons rfl .nil) (.cons .head .nil) (ref_turn_inSight_spec _ T _ hF) (fun v21 B hv => ?_)
   obtain ⟨y22, rfl, y23, rfl⟩ := hv
   refine GL_appendF flI rfl Tryz.underlying66 sz3 zv3 rfl by3 (by decide) (by decide) rfl rfl (fun w hS => Src.sliceT Tryz.underlying66 ((Kn.own (.tail _ (.head _))) w hS)) (by (try dsimp only); omega) (fun _ => (.tail (.tail .head))) (fun h25 h25l h25z => ?_)
   refine Ga rfl ?_
   refine Gn (.t6 0 3 4 5 6 10) ?_
   refine Gs ?_
   refine Gm rfl (Gm rfl (Gt (PSf fa47_1 rfl) ?_))
   refine Gt (PS_load rfl tys3 (.tail _ (.tail _ (.tail _ (.tail _ (.head _))))) Order.l1 rfl rfl) ?_
   refine Gt (PS_max2 rfl rfl) ?_
   refine Gt (PSf fa47_3 rfl) ?_
   refine Gt (PS_load rfl tys9 (.tail _ (.tail _ (.tail _ (.tail _ (.head _))))) Order.l3 rfl rfl) ?_
   refine GL_callL rfl cf69 (.cons rfl (.cons rfl (.cons rfl (.cons rfl (.cons rfl .nil))))) (.cons .head (.cons (.tail .head) .nil)) (ref_turn_these_spec _ T _ _ (T.own ++ T.seen) _ _ _ hF (by rw [List.length_append]; omega) (by rw [List.length_append]; omega) (fun i hi => Turn.at_hand hi) (by omega)) (fun v26 B hv => ?_)
   obtain ⟨y27, rfl, y28, rfl⟩ := hv
   refine Ga rfl ?_
   refine Gn (.t5 0 4 5 6 10) ?_
   refine G_seq ?_
   refine G_seq ?_
   have hx0 := Turn.getD_rng (l := (Turn.pickL T.w (T.own ++ T.seen) (max 1 o.nth) o.name false)) (fun i hi => Turn.at_hand (Turn.pickL_mem hi))
   refine G_planN (N := 17) [0, 1, 3, 7, 15, 15, 47, 111, 31, 287, 799, 2047, 4095, 8191, 15, 32767, 65535] mix (by kernel_rfl) rfl ?_
   refine Pf 0 rfl (PS_move rfl) ?_
   refine Pf 1 rfl (PS_len_slice rfl Tryz.underlying66 rfl) ?_
   refine Pf 2 rfl (PS_eql rfl rfl) ?_
   refine Pf 3 rfl (PS_move rfl) ?_
   refine Pgf 4 142 rfl rfl rfl (fun q => PS_move rfl) ?_
   refine Pgf 5 142 rfl rfl rfl (fun q => PS_move rfl) ?_
   refine Plan_float 6 rfl rfl (by kernel_rfl) (OK_gf (t := 142) rfl rfl (fun q => by have q1 := q; (try simp at q1); exact EX_s (PS_idxS is66 (by decide) (Kn.own (.tail _ (.tail _ (.head _)))) (cF rfl q) rfl (by omega) (by first | omega | (simp at q ⊢; omega) | ((try simp only [List.length_cons, List.length_nil]); omega))))) ?_
   refine Plan_float 7 rfl rfl (by kernel_rfl) (OK_gf (t := 142) rfl rfl (fun q => by have q1 := q; (try simp at q1); exact EX_s (PS_ldInt (cF rfl q) tys3 (Kn.own (.tail _ (.tail _ (.head _)))) (by first | omega | (simp at q ⊢; omega) | ((try simp only [List.length_cons, List.length_nil]); omega))))) ?_
   refine Pgf 8 142 rfl rfl rfl (fun q => PSn (cF rfl q)) ?_
   refine Pgf 9 142 rfl rfl rfl (fun q => PSf fa57_0 (cF rfl q)) ?_
   refine Pgf 10 142 rfl rfl rfl (fun q => PSf fa34_1 (cF rfl q)) ?_
   refine Plan_float 11 rfl rfl (by kernel_rfl) (OK_gf (t := 142) rfl rfl (fun q => by have q1 := q; (try simp at q1); exact EX_s (PS_indexAddr ia29 (cF rfl q) (cF rfl q) (by first | omega | exact hb.1 | exact hb.2 | exact hx0.1 | exact hx0.2 | (have hr9 : 0 ≤ (Turn.me (Turn.setShut T (T.w.beings.at T.b).room (Words.dir o.name).1 (!Turn.setOn o.verb))).room ∧ (Turn.me (Turn.setShut T (T.w.beings.at T.b).room (Words.dir o.name).1 (!Turn.setOn o.verb))).room < 6 := hr; unfold Turn.me at hr9; omega) | (dsimp only; omega)) (by first | omega | exact hb.1 | exact hb.2 | exact hx0.1 | exact hx0.2 | (have hr9 : 0 ≤ (Turn.me (Turn.setShut T (T.w.beings.at T.b).room (Words.dir o.name).1 (!Turn.setOn o.verb))).room ∧ (Turn.me (Turn.setShut T (T.w.beings.at T.b).room (Words.dir o.name).1 (!Turn.setOn o.verb))).room < 6 := hr; unfold Turn.me at hr9; omega) | (dsimp only; omega))))) ?_
   refine Pgf 12 142 rfl rfl rfl (fun q => PSf fa28_1 (cF rfl q)) ?_
   refine Plan_float 13 rfl rfl (by kernel_rfl) (OK_gf (t := 142) rfl rfl (fun q => by have q1 := q; (try simp at q1); exact EX_s (PS_load (cF rfl q) tys3 (.head _) (((TurnV.l0.comp Land.l1).comp (Lens.ar (n := 9) Thing.fl (by first | omega | exact hb | exact hx0 | (have hr9 : 0 ≤ (Turn.me (Turn.setShut T (T.w.beings.at T.b).room (Words.dir o.name).1 (!Turn.setOn o.verb))).room ∧ (Turn.me (Turn.setShut T (T.w.beings.at T.b).room (Words.dir o.name).1 (!Turn.setOn o.verb))).room < 6 := hr; unfold Turn.me at hr9; omega) | (dsimp only; omega)))).comp Thing.l1) rfl rfl))) ?_
   refine Pgf 14 142 rfl rfl rfl (fun q => PS_move rfl) ?_
   refine Pgf 15 142 rfl rfl rfl (fun q => PS_neq (cF rfl q) (cF rfl q)) ?_
   refine Pf 16 rfl (PS_or rfl rfl (fun h => by rw [h]; rfl)) ?_
   refine Plan_end (by kernel_rfl) ?_
   refine GQ_sub (.t6 0 4 5 6 10 155) ?_
   refine GQ_then ?_
   refine Gc (fun c6 => ?_) (fun c6 => ?_)
   ·
    have c6p := c6; try simp only [kk] at c6p
    rw [y28] at c6 c6p
    have hsl : T.setL o = (Turn.pickL T.w (T.own ++ T.seen) (max 1 o.nth) o.name false) := Turn.setL_all c5
    refine Gs ?_
    refine Gm rfl ?_
    refine GL_callL rfl cf39 (.cons rfl (.cons rfl .nil)) (.cons .head (.cons (.tail (.tail (.tail (.tail (.tail .head))))) .nil)) (ref_turn_tell_spec _ _ _ _ hg hb (by omega)) (fun v30 B hv => ?_)
    obtain ⟨y31, rfl, y32, rfl⟩ := hv
    refine Gn (.nil _) ?_
    refine G_ret ?_
    refine GQ_then_ret ?_
    refine GQ_ret rfl .nil ?_
    intro w1 hS
    have hS := (hS.perm (Pulls.perm (.cons .head (.cons .head .nil)))).headL
    have d0 : (decide (((T.setL o).length : Int) = 0) || !decide ((T.w.things.at ((T.setL o).getD 0 0)).kind = Turn.setKind o.verb)) = true := by rw [hsl]; exact c6
    have hq : T.set o = _ := Turn.set_none c1 d0
    (try rw [hsl] at hq)
    refine ⟨_, ⟨?gq5, rfl, ?hl5, ?hB5⟩, hS⟩
    case hB5 => rw [hq]; (try rfl)
    case hl5 => rw [hq]; assumption
   ·
    have c6p := c6; try simp only [kk] at c6p
    rw [y28] at c6 c6p
    have hsl : T.setL o = (Turn.pickL T.w (T.own ++ T.seen) (max 1 o.nth) o.name false) := Turn.setL_all c5
    refine G_skip ?_
    refine GQ_sub (.t5 0 4 5 6 10) ?_
    refine GQ_then ?_
    refine G_seq ?_
    refine G_planN (N := 9) [0, 0, 2, 6, 1, 17, 49, 127, 255] mix (by kernel_rfl) rfl ?_
    refine Pf 0 rfl (PS_move rfl) (Pf 1 rfl (PS_move rfl) ?_)
    refine Pf 2 rfl (PS_idxS is66 (by decide) (Kn.own (.tail _ (.tail _ (.head _)))) rfl rfl (by omega) (by first | omega | (simp at q ⊢; omega) | ((try simp only [List.length_cons, List.length_nil]); omega))) ?_
    refine Pf 3 rfl (PS_ldInt rfl tys3 (Kn.own (.tail _ (.tail _ (.head _)))) (by first | omega | (simp at q ⊢; omega) | ((try simp only [List.length_cons, List.length_nil]); omega))) ?_
    refine Pf 4 rfl (PSn rfl) (Pf 5 rfl (PSf fa57_0 rfl) (Pf 6 rfl (PSf fa34_1 rfl) ?_))
    refine Pf 7 rfl (PS_indexAddr ia29 rfl rfl (by first | omega | exact hb.1 | exact hb.2 | exact hx0.1 | exact hx0.2 | (have hr9 : 0 ≤ (Turn.me (Turn.setShut T (T.w.beings.at T.b).room (Words.dir o.name).1 (!Turn.setOn o.verb))).room ∧ (Turn.me (Turn.setShut T (T.w.beings.at T.b).room (Words.dir o.name).1 (!Turn.setOn o.verb))).room < 6 := hr; unfold Turn.me at hr9; omega) | (dsimp only; omega)) (by first | omega | exact hb.1 | exact hb.2 | exact hx0.1 | exact hx0.2 | (have hr9 : 0 ≤ (Turn.me (Turn.setShut T (T.w.beings.at T.b).room (Words.dir o.name).1 (!Turn.setOn o.verb))).room ∧ (Turn.me (Turn.setShut T (T.w.beings.at T.b).room (Words.dir o.name).1 (!Turn.setOn o.verb))).room < 6 := hr; unfold Turn.me at hr9; omega) | (dsimp only; omega))) ?_
    refine Pf 8 rfl (PS_assign rfl) ?_
    refine Plan_end (by kernel_rfl) ?_
    refine GQ_sub (.t5 0 4 5 6 11) ?_
    refine GQ_then ?_
    refine Gss ?_
    refine Gm rfl (Gt (PSn rfl) (Gt (PSf fa28_4 rfl) ?_))
    refine Gt (PS_load rfl tys4 (.head _) (((TurnV.l0.comp Land.l1).comp (Lens.ar (n := 9) Thing.fl (by first | omega | exact hb | exact hx0 | (have hr9 : 0 ≤ (Turn.me (Turn.setShut T (T.w.beings.at T.b).room (Words.dir o.name).1 (!Turn.setOn o.verb))).room ∧ (Turn.me (Turn.setShut T (T.w.beings.at T.b).room (Words.dir o.name).1 (!Turn.setOn o.verb))).room < 6 := hr; unfold Turn.me at hr9; omega) | (dsimp only; omega)))).comp Thing.l4) rfl rfl) ?_
    refine Gm rfl ?_
    refine Gt (PS_eql_bool Tryz.underlying4 rfl rfl) ?_
    refine Gn (.t6 0 4 5 6 11 171) ?_
    refine Gc (fun c7 => ?_) (fun c7 => ?_)
    ·
     have c7p := c7; try simp only [kk] at c7p
     refine Gs ?_
     refine Gm rfl ?_
     refine GL_callL rfl cf39 (.cons rfl (.cons rfl .nil)) (.cons .head (.cons (.tail (.tail (.tail (.tail (.tail .head))))) .nil)) (ref_turn_tell_spec _ _ _ _ hg hb (by omega)) (fun v33 B hv => ?_)
     obtain ⟨y34, rfl, y35, rfl⟩ := hv
     refine Gn (.nil _) ?_
     refine G_ret ?_
     refine GQ_then_ret ?_
     refine GQ_ret rfl .nil ?_
     intro w1 hS
     have hS := (hS.perm (Pulls.perm (.cons .head (.cons .head .nil)))).headL
     have d0 : (decide (((T.setL o).length : Int) = 0) || !decide ((T.w.things.at ((T.setL o).getD 0 0)).kind = Turn.setKind o.verb)) = false := by rw [hsl]; exact c6
     have d1 : ((T.w.things.at ((T.setL o).getD 0 0)).on == Turn.setOn o.verb) = true := by rw [hsl]; exact c7
     have hq : T.set o = _ := Turn.set_so c1 d0 d1
     (try rw [hsl] at hq)
     refine ⟨_, ⟨?gq6, rfl, ?hl6, ?hB6⟩, hS⟩
     case hB6 => rw [hq]; (try rfl)
     case hl6 => rw [hq]; assumption
    ·
     have c7p := c7; try simp only [kk] at c7p
     refine G_skip ?_
     refine GQ_sub (.t5 0 4 5 6 11) ?_
     refine GQ_then ?_
     refine Gs ?_
     refine Gm rfl (Gm rfl ?_)
     refine Gt (PS_eql rfl rfl) ?_
     refine Gt (PS_neq_bool Tryz.underlying4 rfl rfl) ?_
     refine Ga rfl ?_
     refine Gn (.t5 0 4 6 11 12) ?_
     refine Gs ?_
     refine Gm rfl ?_
     refine Gn (.t5 0 4 6 11 178) ?_
     refine Gc (fun c8 => ?_) (fun c8 => ?_)
     ·
      have c8p := c8; try simp only [kk] at c8p
      refine Gs ?_
      refine Gm rfl (Gm rfl (Gt (PSn rfl) (Gt (PSf fa28_4 rfl) ?_)))
      refine GL_unit (PU_store (((TurnV.l0.comp Land.l1).comp (Lens.ar (n := 9) Thing.fl (by first | omega | exact hb | exact hx0 | (have hr9 : 0 ≤ (Turn.me (Turn.setShut T (T.w.beings.at T.b).room (Words.dir o.name).1 (!Turn.setOn o.verb))).room ∧ (Turn.me (Turn.setShut T (T.w.beings.at T.b).room (Words.dir o.name).1 (!Turn.setOn o.verb))).room < 6 := hr; unfold Turn.me at hr9; omega) | (dsimp only; omega)))).comp Thing.l4) rfl rfl rfl sz4 rfl .head) ?_
      refine Gn (.t3 0 6 11) ?_
      refine G_region ?_
      refine Gm rfl (Gm rfl (Gm rfl (Gt (PSn rfl) (Gt (PSf fa28_0 rfl) ?_))))
      refine Gt (PS_load rfl tys9 (.head _) (((TurnV.l0.comp Land.l1).comp (Lens.ar (n := 9) Thing.fl (by first | omega | exact hb | exact hx0 | (have hr9 : 0 ≤ (Turn.me (Turn.setShut T (T.w.beings.at T.b).room (Words.dir o.name).1 (!Turn.setOn o.verb))).room ∧ (Turn.me (Turn.setShut T (T.w.beings.at T.b).room (Words.dir o.name).1 (!Turn.setOn o.verb))).room < 6 := hr; unfold Turn.me at hr9; omega) | (dsimp only; omega)))).comp Thing.l0) rfl rfl) ?_
      refine GL_callL rfl cf20 (.cons rfl (.cons rfl (.cons rfl (.cons rfl (.cons rfl (.cons rfl (.cons rfl .nil))))))) (.cons .head (.cons (.tail (.tail (.tail (.tail (.tail .head))))) .nil)) (ref_turn_add_spec _ (Turn.setThing T ((Turn.pickL T.w (T.own ++ T.seen) (max 1 o.nth) o.name false).getD (0 : Int).toNat 0) { T.w.things.at ((Turn.pickL T.w (T.own ++ T.seen) (max 1 o.nth) o.name false).getD (0 : Int).toNat 0) with on := Turn.setOn o.verb }) _ (o.verb - 4) (-1) 0 0 ((Turn.setThing T ((Turn.pickL T.w (T.own ++ T.seen) (max 1 o.nth) o.name false).getD (0 : Int).toNat 0) { T.w.things.at ((Turn.pickL T.w (T.own ++ T.seen) (max 1 o.nth) o.name false).getD (0 : Int).toNat 0) with on := Turn.setOn o.verb }).w.things.at ((Turn.pickL T.w (T.own ++ T.seen) (max 1 o.nth) o.name false).getD (0 : Int).toNat 0)).name [] hg hb (show (-1 : Int) < 6 by decide) (show T.out.length ≤ 100000 by omega)) (fun v36 B hv => ?_)
      obtain ⟨y37, rfl, y38, rfl⟩ := hv
      refine GL_nil ?_
      refine GQ_end rfl .nil ?_
      intro w1 hS
      have hS := (hS.perm (Pulls.perm (.cons .head (.cons .head .nil)))).headL
      have d0 : (decide (((T.setL o).length : Int) = 0) || !decide ((T.w.things.at ((T.setL o).getD 0 0)).kind = Turn.setKind o.verb)) = false := by rw [hsl]; exact c6
      have d1 : ((T.w.things.at ((T.setL o).getD 0 0)).on == Turn.setOn o.verb) = false := by rw [hsl]; exact c7
      have hq : T.set o = _ := (Turn.set_last c1 d0 d1).trans (if_t c8)
      (try rw [hsl] at hq)
      refine ⟨_, ⟨?gq7, rfl, ?hl7, ?hB7⟩, hS⟩
      case hB7 => rw [hq]; (try rfl)
      case hl7 => rw [hq]; assumption
     ·
      have c8p := c8; try simp only [kk] at c8p
      refine Gs ?_
      refine Gm rfl (Gm rfl (Gm rfl (Gt (PSn rfl) (Gt (PSf fa28_0 rfl) ?_))))
      refine Gt (PS_load rfl tys9 (.head _) (((TurnV.l0.comp Land.l1).comp (Lens.ar (n := 9) Thing.fl (by first | omega | exact hb | exact hx0 | (have hr9 : 0 ≤ (Turn.me (Turn.setShut T (T.w.beings.at T.b).room (Words.dir o.name).1 (!Turn.setOn o.verb))).room ∧ (Turn.me (Turn.setShut T (T.w.beings.at T.b).room (Words.dir o.name).1 (!Turn.setOn o.verb))).room < 6 := hr; unfold Turn.me at hr9; omega) | (dsimp only; omega)))).comp Thing.l0) rfl rfl) ?_
      refine GL_callL rfl cf20 (.cons rfl (.cons rfl (.cons rfl (.cons rfl (.cons rfl (.cons rfl (.cons rfl .nil))))))) (.cons .head (.cons (.tail (.tail (.tail (.tail (.tail .head))))) .nil)) (ref_turn_add_spec _ T _ (o.verb - 4) (-1) 0 0 (T.w.things.at ((Turn.pickL T.w (T.own ++ T.seen) (max 1 o.nth) o.name false).getD (0 : Int).toNat 0)).name [] hg hb (show (-1 : Int) < 6 by decide) (show T.out.length ≤ 100000 by omega)) (fun v39 B hv => ?_)
      obtain ⟨y40, rfl, y41, rfl⟩ := hv
      refine Gn (.t2 4 11) ?_
      refine G_region ?_
      refine Gm rfl (Gm rfl (Gt (PSn rfl) (Gt (PSf fa28_4 rfl) ?_)))
      refine GL_unit (PU_store (((TurnV.l0.comp Land.l1).comp (Lens.ar (n := 9) Thing.fl (by first | omega | exact hb | exact hx0 | (have hr9 : 0 ≤ (Turn.me (Turn.setShut T (T.w.beings.at T.b).room (Words.dir o.name).1 (!Turn.setOn o.verb))).room ∧ (Turn.me (Turn.setShut T (T.w.beings.at T.b).room (Words.dir o.name).1 (!Turn.setOn o.verb))).room < 6 := hr; unfold Turn.me at hr9; omega) | (dsimp only; omega)))).comp Thing.l4) rfl rfl rfl sz4 rfl .head) ?_
      refine GL_nil ?_
      refine GQ_end rfl .nil ?_
      intro w1 hS
      have hS := (hS.perm (Pulls.perm (.cons .head (.cons .head .nil)))).headL
      have d0 : (decide (((T.setL o).length : Int) = 0) || !decide ((T.w.things.at ((T.setL o).getD 0 0)).kind = Turn.setKind o.verb)) = false := by rw [hsl]; exact c6
      have d1 : ((T.w.things.at ((T.setL o).getD 0 0)).on == Turn.setOn o.verb) = false := by rw [hsl]; exact c7
      have hq : T.set o = _ := (Turn.set_last c1 d0 d1).trans (if_f c8)
      (try rw [hsl] at hq)
      refine ⟨_, ⟨?gq8, rfl, ?hl8, ?hB8⟩, hS⟩
      case hB8 => rw [hq]; (try rfl)
      case hl8 => rw [hq]; assumption
  ·
   have c5p := c5; try simp only [kk] at c5p
   refine G_skip ?_
   refine GQ_sub (.t6 0 3 4 5 6 10) ?_
   refine GQ_then ?_
   refine Gs ?_
   refine Gm rfl (Gm rfl (Gt (PSf fa47_1 rfl) ?_))
   refine Gt (PS_load rfl tys3 (.tail _ (.tail _ (.tail _ (.head _)))) Order.l1 rfl rfl) ?_
   refine Gt (PS_max2 rfl rfl) ?_
   refine Gt (PSf fa47_3 rfl) ?_
   refine Gt (PS_load rfl tys9 (.tail _ (.tail _ (.tail _ (.head _)))) Order.l3 rfl rfl) ?_
   refine GL_callL rfl cf69 (.cons rfl (.cons rfl (.cons rfl (.cons rfl (.cons rfl .nil))))) (.cons .head (.cons .head .nil)) (ref_turn_these_spec _ T _ _ T.own _ _ _ hF (by assumption) (by omega) (fun i hi => Turn.own_rng hi) (by omega)) (fun v42 B hv => ?_)
   obtain ⟨y43, rfl, y44, rfl⟩ := hv
   refine Ga rfl ?_
   refine Gn (.t5 0 4 5 6 10) ?_
   refine G_seq ?_
   refine G_seq ?_
   have hx0 := Turn.getD_rng (l := (Turn.pickL T.w T.own (max 1 o.nth) o.name false)) (fun i hi => Turn.own_rng (Turn.pickL_mem hi))
   refine G_planN (N := 17) [0, 1, 3, 7, 15, 15, 47, 111, 31, 287, 799, 2047, 4095, 8191, 15, 32767, 65535] mix (by kernel_rfl) rfl ?_
   refine Pf 0 rfl (PS_move rfl) ?_
   refine Pf 1 rfl (PS_len_slice rfl Tryz.underlying66 rfl) ?_
   refine Pf 2 rfl (PS_eql rfl rfl) ?_
   refine Pf 3 rfl (PS_move rfl) ?_
   refine Pgf 4 142 rfl rfl rfl (fun q => PS_move rfl) ?_
   refine Pgf 5 142 rfl rfl rfl (fun q => PS_move rfl) ?_
   refine Plan_float 6 rfl rfl (by kernel_rfl) (OK_gf (t := 142) rfl rfl (fun q => by have q1 := q; (try simp at q1); exact EX_s (PS_idxS is66 (by decide) (Kn.own (.tail _ (.tail _ (.head _)))) (cF rfl q) rfl (by omega) (by first | omega | (simp at q ⊢; omega) | ((try simp only [List.length_cons, List.length_nil]); omega))))) ?_
   refine Plan_float 7 rfl rfl (by kernel_rfl) (OK_gf (t := 142) rfl rfl (fun q => by have q1 := q; (try simp at q1); exact EX_s (PS_ldInt (cF rfl q) tys3 (Kn.own (.tail _ (.tail _ (.head _)))) (by first | omega | (simp at q ⊢; omega) | ((try simp only [List.length_cons, List.length_nil]); omega))))) ?_
   refine Pgf 8 142 rfl rfl rfl (fun q => PSn (cF rfl q)) ?_
   refine Pgf 9 142 rfl rfl rfl (fun q => PSf fa57_0 (cF rfl q)) ?_
   refine Pgf 10 142 rfl rfl rfl (fun q => PSf fa34_1 (cF rfl q)) ?_
   refine Plan_float 11 rfl rfl (by kernel_rfl) (OK_gf (t := 142) rfl rfl (fun q => by have q1 := q; (try simp at q1); exact EX_s (PS_indexAddr ia29 (cF rfl q) (cF rfl q) (by first | omega | exact hb.1 | exact hb.2 | exact hx0.1 | exact hx0.2 | (have hr9 : 0 ≤ (Turn.me (Turn.setShut T (T.w.beings.at T.b).room (Words.dir o.name).1 (!Turn.setOn o.verb))).room ∧ (Turn.me (Turn.setShut T (T.w.beings.at T.b).room (Words.dir o.name).1 (!Turn.setOn o.verb))).room < 6 := hr; unfold Turn.me at hr9; omega) | (dsimp only; omega)) (by first | omega | exact hb.1 | exact hb.2 | exact hx0.1 | exact hx0.2 | (have hr9 : 0 ≤ (Turn.me (Turn.setShut T (T.w.beings.at T.b).room (Words.dir o.name).1 (!Turn.setOn o.verb))).room ∧ (Turn.me (Turn.setShut T (T.w.beings.at T.b).room (Words.dir o.name).1 (!Turn.setOn o.verb))).room < 6 := hr; unfold Turn.me at hr9; omega) | (dsimp only; omega))))) ?_
   refine Pgf 12 142 rfl rfl rfl (fun q => PSf fa28_1 (cF rfl q)) ?_
   refine Plan_float 13 rfl rfl (by kernel_rfl) (OK_gf (t := 142) rfl rfl (fun q => by have q1 := q; (try simp at q1); exact EX_s (PS_load (cF rfl q) tys3 (.head _) (((TurnV.l0.comp Land.l1).comp (Lens.ar (n := 9) Thing.fl (by first | omega | exact hb | exact hx0 | (have hr9 : 0 ≤ (Turn.me (Turn.setShut T (T.w.beings.at T.b).room (Words.dir o.name).1 (!Turn.setOn o.verb))).room ∧ (Turn.me (Turn.setShut T (T.w.beings.at T.b).room (Words.dir o.name).1 (!Turn.setOn o.verb))).room < 6 := hr; unfold Turn.me at hr9; omega) | (dsimp only; omega)))).comp Thing.l1) rfl rfl))) ?_
   refine Pgf 14 142 rfl rfl rfl (fun q => PS_move rfl) ?_
   refine Pgf 15 142 rfl rfl rfl (fun q => PS_neq (cF rfl q) (cF rfl q)) ?_
   refine Pf 16 rfl (PS_or rfl rfl (fun h => by rw [h]; rfl)) ?_
   refine Plan_end (by kernel_rfl) ?_
   refine GQ_sub (.t6 0 4 5 6 10 155) ?_
   refine GQ_then ?_
   refine Gc (fun c9 => ?_) (fun c9 => ?_)
   ·
    have c9p := c9; try simp only [kk] at c9p
    rw [y44] at c9 c9p
    have hsl : T.setL o = (Turn.pickL T.w T.own (max 1 o.nth) o.name false) := Turn.setL_own c5
    refine Gs ?_
    refine Gm rfl ?_
    refine GL_callL rfl cf39 (.cons rfl (.cons rfl .nil)) (.cons .head (.cons (.tail (.tail (.tail (.tail .head)))) .nil)) (ref_turn_tell_spec _ _ _ _ hg hb (by omega)) (fun v46 B hv => ?_)
    obtain ⟨y47, rfl, y48, rfl⟩ := hv
    refine Gn (.nil _) ?_
    refine G_ret ?_
    refine GQ_then_ret ?_
    refine GQ_ret rfl .nil ?_
    intro w1 hS
    have hS := (hS.perm (Pulls.perm (.cons .head (.cons .head .nil)))).headL
    have d0 : (decide (((T.setL o).length : Int) = 0) || !decide ((T.w.things.at ((T.setL o).getD 0 0)).kind = Turn.setKind o.verb)) = true := by rw [hsl]; exact c9
    have hq : T.set o = _ := Turn.set_none c1 d0
    (try rw [hsl] at hq)
    refine ⟨_, ⟨?gq9, rfl, ?hl9, ?hB9⟩, hS⟩
    case hB9 => rw [hq]; (try rfl)
    case hl9 => rw [hq]; assumption
   ·
    have c9p := c9; try simp only [kk] at c9p
    rw [y44] at c9 c9p
    have hsl : T.setL o = (Turn.pickL T.w T.own (max 1 o.nth) o.name false) := Turn.setL_own c5
    refine G_skip ?_
    refine GQ_sub (.t5 0 4 5 6 10) ?_
    refine GQ_then ?_
    refine G_seq ?_
    refine G_planN (N := 9) [0, 0, 2, 6, 1, 17, 49, 127, 255] mix (by kernel_rfl) rfl ?_
    refine Pf 0 rfl (PS_move rfl) (Pf 1 rfl (PS_move rfl) ?_)
    refine Pf 2 rfl (PS_idxS is66 (by decide) (Kn.own (.tail _ (.tail _ (.head _)))) rfl rfl (by omega) (by first | omega | (simp at q ⊢; omega) | ((try simp only [List.length_cons, List.length_nil]); omega))) ?_
    refine Pf 3 rfl (PS_ldInt rfl tys3 (Kn.own (.tail _ (.tail _ (.head _)))) (by first | omega | (simp at q ⊢; omega) | ((try simp only [List.length_cons, List.length_nil]); omega))) ?_
    refine Pf 4 rfl (PSn rfl) (Pf 5 rfl (PSf fa57_0 rfl) (Pf 6 rfl (PSf fa34_1 rfl) ?_))
    refine Pf 7 rfl (PS_indexAddr ia29 rfl rfl (by first | omega | exact hb.1 | exact hb.2 | exact hx0.1 | exact hx0.2 | (have hr9 : 0 ≤ (Turn.me (Turn.setShut T (T.w.beings.at T.b).room (Words.dir o.name).1 (!Turn.setOn o.verb))).room ∧ (Turn.me (Turn.setShut T (T.w.beings.at T.b).room (Words.dir o.name).1 (!Turn.setOn o.verb))).room < 6 := hr; unfold Turn.me at hr9; omega) | (dsimp only; omega)) (by first | omega | exact hb.1 | exact hb.2 | exact hx0.1 | exact hx0.2 | (have hr9 : 0 ≤ (Turn.me (Turn.setShut T (T.w.beings.at T.b).room (Words.dir o.name).1 (!Turn.setOn o.verb))).room ∧ (Turn.me (Turn.setShut T (T.w.beings.at T.b).room (Words.dir o.name).1 (!Turn.setOn o.verb))).room < 6 := hr; unfold Turn.me at hr9; omega) | (dsimp only; omega))) ?_
    refine Pf 8 rfl (PS_assign rfl) ?_
    refine Plan_end (by kernel_rfl) ?_
    refine GQ_sub (.t5 0 4 5 6 11) ?_
    refine GQ_then ?_
    refine Gss ?_
    refine Gm rfl (Gt (PSn rfl) (Gt (PSf fa28_4 rfl) ?_))
    refine Gt (PS_load rfl tys4 (.head _) (((TurnV.l0.comp Land.l1).comp (Lens.ar (n := 9) Thing.fl (by first | omega | exact hb | exact hx0 | (have hr9 : 0 ≤ (Turn.me (Turn.setShut T (T.w.beings.at T.b).room (Words.dir o.name).1 (!Turn.setOn o.verb))).room ∧ (Turn.me (Turn.setShut T (T.w.beings.at T.b).room (Words.dir o.name).1 (!Turn.setOn o.verb))).room < 6 := hr; unfold Turn.me at hr9; omega) | (dsimp only; omega)))).comp Thing.l4) rfl rfl) ?_
    refine Gm rfl ?_
    refine Gt (PS_eql_bool Tryz.underlying4 rfl rfl) ?_
    refine Gn (.t6 0 4 5 6 11 171) ?_
    refine Gc (fun c10 => ?_) (fun c10 => ?_)
    ·
     have c10p := c10; try simp only [kk] at c10p
     refine Gs ?_
     refine Gm rfl ?_
     refine GL_callL rfl cf39 (.cons rfl (.cons rfl .nil)) (.cons .head (.cons (.tail (.tail (.tail (.tail .head)))) .nil)) (ref_turn_tell_spec _ _ _ _ hg hb (by omega)) (fun v49 B hv => ?_)
     obtain ⟨y50, rfl, y51, rfl⟩ := hv
     refine Gn (.nil _) ?_
     refine G_ret ?_
     refine GQ_then_ret ?_
     refine GQ_ret rfl .nil ?_
     intro w1 hS
     have hS := (hS.perm (Pulls.perm (.cons .head (.cons .head .nil)))).headL
     have d0 : (decide (((T.setL o).length : Int) = 0) || !decide ((T.w.things.at ((T.setL o).getD 0 0)).kind = Turn.setKind o.verb)) = false := by rw [hsl]; exact c9
     have d1 : ((T.w.things.at ((T.setL o).getD 0 0)).on == Turn.setOn o.verb) = true := by rw [hsl]; exact c10
     have hq : T.set o = _ := Turn.set_so c1 d0 d1
     (try rw [hsl] at hq)
     refine ⟨_, ⟨?gq10, rfl, ?hl10, ?hB10⟩, hS⟩
     case hB10 => rw [hq]; (try rfl)
     case hl10 => rw [hq]; assumption
    ·
     have c10p := c10; try simp only [kk] at c10p
     refine G_skip ?_
     refine GQ_sub (.t5 0 4 5 6 11) ?_
     refine GQ_then ?_
     refine Gs ?_
     refine Gm rfl (Gm rfl ?_)
     refine Gt (PS_eql rfl rfl) ?_
     refine Gt (PS_neq_bool Tryz.underlying4 rfl rfl) ?_
     refine Ga rfl ?_
     refine Gn (.t5 0 4 6 11 12) ?_
     refine Gs ?_
     refine Gm rfl ?_
     refine Gn (.t5 0 4 6 11 178) ?_
     refine Gc (fun c11 => ?_) (fun c11 => ?_)
     ·
      have c11p := c11; try simp only [kk] at c11p
      refine Gs ?_
      refine Gm rfl (Gm rfl (Gt (PSn rfl) (Gt (PSf fa28_4 rfl) ?_)))
      refine GL_unit (PU_store (((TurnV.l0.comp Land.l1).comp (Lens.ar (n := 9) Thing.fl (by first | omega | exact hb | exact hx0 | (have hr9 : 0 ≤ (Turn.me (Turn.setShut T (T.w.beings.at T.b).room (Words.dir o.name).1 (!Turn.setOn o.verb))).room ∧ (Turn.me (Turn.setShut T (T.w.beings.at T.b).room (Words.dir o.name).1 (!Turn.setOn o.verb))).room < 6 := hr; unfold Turn.me at hr9; omega) | (dsimp only; omega)))).comp Thing.l4) rfl rfl rfl sz4 rfl .head) ?_
      refine Gn (.t3 0 6 11) ?_
      refine G_region ?_
      refine Gm rfl (Gm rfl (Gm rfl (Gt (PSn rfl) (Gt (PSf fa28_0 rfl) ?_))))
      refine Gt (PS_load rfl tys9 (.head _) (((TurnV.l0.comp Land.l1).comp (Lens.ar (n := 9) Thing.fl (by first | omega | exact hb | exact hx0 | (have hr9 : 0 ≤ (Turn.me (Turn.setShut T (T.w.beings.at T.b).room (Words.dir o.name).1 (!Turn.setOn o.verb))).room ∧ (Turn.me (Turn.setShut T (T.w.beings.at T.b).room (Words.dir o.name).1 (!Turn.setOn o.verb))).room < 6 := hr; unfold Turn.me at hr9; omega) | (dsimp only; omega)))).comp Thing.l0) rfl rfl) ?_
      refine GL_callL rfl cf20 (.cons rfl (.cons rfl (.cons rfl (.cons rfl (.cons rfl (.cons rfl (.cons rfl .nil))))))) (.cons .head (.cons (.tail (.tail (.tail (.tail .head)))) .nil)) (ref_turn_add_spec _ (Turn.setThing T ((Turn.pickL T.w T.own (max 1 o.nth) o.name false).getD (0 : Int).toNat 0) { T.w.things.at ((Turn.pickL T.w T.own (max 1 o.nth) o.name false).getD (0 : Int).toNat 0) with on := Turn.setOn o.verb }) _ (o.verb - 4) (-1) 0 0 ((Turn.setThing T ((Turn.pickL T.w T.own (max 1 o.nth) o.name false).getD (0 : Int).toNat 0) { T.w.things.at ((Turn.pickL T.w T.own (max 1 o.nth) o.name false).getD (0 : Int).toNat 0) with on := Turn.setOn o.verb }).w.things.at ((Turn.pickL T.w T.own (max 1 o.nth) o.name false).getD (0 : Int).toNat 0)).name [] hg hb (show (-1 : Int) < 6 by decide) (show T.out.length ≤ 100000 by omega)) (fun v52 B hv => ?_)
      obtain ⟨y53, rfl, y54, rfl⟩ := hv
      refine GL_nil ?_
      refine GQ_end rfl .nil ?_
      intro w1 hS
      have hS := (hS.perm (Pulls.perm (.cons .head (.cons .head .nil)))).headL
      have d0 : (decide (((T.setL o).length : Int) = 0) || !decide ((T.w.things.at ((T.setL o).getD 0 0)).kind = Turn.setKind o.verb)) = false := by rw [hsl]; exact c9
      have d1 : ((T.w.things.at ((T.setL o).getD 0 0)).on == Turn.setOn o.verb) = false := by rw [hsl]; exact c10
      have hq : T.set o = _ := (Turn.set_last c1 d0 d1).trans (if_t c11)
      (try rw [hsl] at hq)
      refine ⟨_, ⟨?gq11, rfl, ?hl11, ?hB11⟩, hS⟩
      case hB11 => rw [hq]; (try rfl)
      case hl11 => rw [hq]; assumption
     ·
      have c11p := c11; try simp only [kk] at c11p
      refine Gs ?_
      refine Gm rfl (Gm rfl (Gm rfl (Gt (PSn rfl) (Gt (PSf fa28_0 rfl) ?_))))
      refine Gt (PS_load rfl tys9 (.head _) (((TurnV.l0.comp Land.l1).comp (Lens.ar (n := 9) Thing.fl (by first | omega | exact hb | exact hx0 | (have hr9 : 0 ≤ (Turn.me (Turn.setShut T (T.w.beings.at T.b).room (Words.dir o.name).1 (!Turn.setOn o.verb))).room ∧ (Turn.me (Turn.setShut T (T.w.beings.at T.b).room (Words.dir o.name).1 (!Turn.setOn o.verb))).room < 6 := hr; unfold Turn.me at hr9; omega) | (dsimp only; omega)))).comp Thing.l0) rfl rfl) ?_
      refine GL_callL rfl cf20 (.cons rfl (.cons rfl (.cons rfl (.cons rfl (.cons rfl (.cons rfl (.cons rfl .nil))))))) (.cons .head (.cons (.tail (.tail (.tail (.tail .head)))) .nil)) (ref_turn_add_spec _ T _ (o.verb - 4) (-1) 0 0 (T.w.things.at ((Turn.pickL T.w T.own (max 1 o.nth) o.name false).getD (0 : Int).toNat 0)).name [] hg hb (show (-1 : Int) < 6 by decide) (show T.out.length ≤ 100000 by omega)) (fun v55 B hv => ?_)
      obtain ⟨y56, rfl, y57, rfl⟩ := hv
      refine Gn (.t2 4 11) ?_
      refine G_region ?_
      refine Gm rfl (Gm rfl (Gt (PSn rfl) (Gt (PSf fa28_4 rfl) ?_)))
      refine GL_unit (PU_store (((TurnV.l0.comp Land.l1).comp (Lens.ar (n := 9) Thing.fl (by first | omega | exact hb | exact hx0 | (have hr9 : 0 ≤ (Turn.me (Turn.setShut T (T.w.beings.at T.b).room (Words.dir o.name).1 (!Turn.setOn o.verb))).room ∧ (Turn.me (Turn.setShut T (T.w.beings.at T.b).room (Words.dir o.name).1 (!Turn.setOn o.verb))).room < 6 := hr; unfold Turn.me at hr9; omega) | (dsimp only; omega)))).comp Thing.l4) rfl rfl rfl sz4 rfl .head) ?_
      refine GL_nil ?_
      refine GQ_end rfl .nil ?_
      intro w1 hS
      have hS := (hS.perm (Pulls.perm (.cons .head (.cons .head .nil)))).headL
      have d0 : (decide (((T.setL o).length : Int) = 0) || !decide ((T.w.things.at ((T.setL o).getD 0 0)).kind = Turn.setKind o.verb)) = false := by rw [hsl]; exact c9
      have d1 : ((T.w.things.at ((T.setL o).getD 0 0)).on == Turn.setOn o.verb) = false := by rw [hsl]; exact c10
      have hq : T.set o = _ := (Turn.set_last c1 d0 d1).trans (if_f c11)
      (try rw [hsl] at hq)
      refine ⟨_, ⟨?gq12, rfl, ?hl12, ?hB12⟩, hS⟩
      case hB12 => rw [hq]; (try rfl)
      case hl12 => rw [hq]; assumption
theorem ref_Act_spec (X : Land) (b : Int) (o : Order) (hw : X.Brief) (hu : o.second.length ≤ 5000000) (hm : o.name.length ≤ 5000000) (hz : -9223372036854775808 ≤ o.nth ∧ o.nth ≤ 9223372036854775807) : CtrR Tryz.prog 15 #[.agg X.enc.toArray, .int .i64 b, .agg o.enc.toArray] [] (fun w => (GV 0 Land.verbsV w ∧ 0 ∉ feet []) ∧ (GVE 3 w ∧ 3 ∉ feet []) ∧ (GVE 4 w ∧ 4 ∉ feet [])) (fun v B => ∃ h : Hd, v = .tuple #[.agg ((Turn.doR X b o).1.enc).toArray, h.val, .int .i64 (Turn.doR X b o).2.2] ∧ h.len = (Turn.doR X b o).2.1.length ∧ B = [Res.own h 60 16 ((Turn.doR X b o).2.1.flatMap Ing.Event.enc)]) := by
 intro w hS0 hH
 obtain ⟨⟨gl0, gm0⟩, ⟨gl1, gm1⟩, ⟨gl2, gm2⟩⟩ := hH
 refine Ret_body _ _ Tryz.func15 rfl rfl rfl (hS0) ?_
 refine Gs ?_
 refine GL_box rfl rfl rfl (fun b1 => ?_)
 refine GL_box rfl rfl rfl (fun b2 => ?_)
 refine GL_alloc rfl zv34 rfl (fun b3 => ?_)
 refine Ga rfl (Ga rfl ?_)
 refine Gn (.t4 1 3 5 6) ?_
 refine Gss ?_
 refine Gt (PS_loadA rfl tya34 (.tail _ (.tail _ (.head _))) (Lens.id Land.fl.len Land.fl.one) rfl) ?_
 refine GL_pure rfl cf19 (.cons rfl .nil) (fun w hS => ref_GoodLand_spec _ w) ?_
 refine Gt (PS_not rfl) ?_
 refine Gn (.t5 1 3 5 6 14) ?_
 refine Gc (fun c1 => ?_) (fun c1 => ?_)
 ·
  have c1p := c1; try simp only [kk] at c1p
  rw [Land.refGood_eq] at c1
  refine Gs ?_
  refine Gt (PS_loadA rfl tya34 (.tail _ (.tail _ (.head _))) (Lens.id Land.fl.len Land.fl.one) rfl) ?_
  refine GL_unit (PU_store (Lens.id Land.fl.len Land.fl.one) rfl rfl rfl sz34 rfl .head) ?_
  refine Ga rfl (Ga rfl ?_)
  refine Gn (.t3 6 7 8) ?_
  refine G_ret ?_
  refine GQ_then_ret ?_
  refine GQ_ret rfl (.cell rfl (.head _) (.inl ⟨(by rw [Land.fl.len]; exact tya34), rfl⟩) (.tmp rfl (.tmp rfl .nil))) ?_
  intro w1 hS
  have hS := hS.own_nil 60 16
  have hS := (hS.perm (Pulls.perm (.cons .head .nil))).headL
  have hq : Turn.doR X b o = _ := (if_t c1)
  refine ⟨_, ⟨⟨none, 0, 0⟩, ?hv1, ?hl1, ?hB1⟩, hS⟩
  case hv1 => rw [hq]; rfl
  case hl1 => rw [hq]; rfl
  case hB1 => rw [hq]; rfl
 ·
  have c1p := c1; try simp only [kk] at c1p
  rw [Land.refGood_eq] at c1
  refine G_skip ?_
  refine GQ_sub (.t4 1 3 5 6) ?_
  refine GQ_then ?_
  refine Gss ?_
  refine Gt (PS_loadA rfl tya34 (.tail _ (.tail _ (.head _))) (Lens.id Land.fl.len Land.fl.one) rfl) ?_
  refine Gm rfl ?_
  refine GL_pure rfl cf25 (.cons rfl (.cons rfl .nil)) (fun w hS => ref_about_spec _ _ w) ?_
  refine Gt (PS_not rfl) ?_
  refine Gn (.t5 1 3 5 6 19) ?_
  refine Gc (fun c2 => ?_) (fun c2 => ?_)
  ·
   have c2p := c2; try simp only [kk] at c2p
   rw [Turn.not_being] at c2
   refine Gs ?_
   refine Gt (PS_loadA rfl tya34 (.tail _ (.tail _ (.head _))) (Lens.id Land.fl.len Land.fl.one) rfl) ?_
   refine GL_unit (PU_store (Lens.id Land.fl.len Land.fl.one) rfl rfl rfl sz34 rfl .head) ?_
   refine Ga rfl (Ga rfl ?_)
   refine Gn (.t3 6 7 8) ?_
   refine G_ret ?_
   refine GQ_then_ret ?_
   refine GQ_ret rfl (.cell rfl (.head _) (.inl ⟨(by rw [Land.fl.len]; exact tya34), rfl⟩) (.tmp rfl (.tmp rfl .nil))) ?_
   intro w1 hS
   have hS := hS.own_nil 60 16
   have hS := (hS.perm (Pulls.perm (.cons .head .nil))).headL
   have hq : Turn.doR X b o = _ := ((if_f c1).trans (if_t c2))
   refine ⟨_, ⟨⟨none, 0, 0⟩, ?hv2, ?hl2, ?hB2⟩, hS⟩
   case hv2 => rw [hq]; rfl
   case hl2 => rw [hq]; rfl
   case hB2 => rw [hq]; rfl
  ·
   have c2p := c2; try simp only [kk] at c2p
   rw [Turn.not_being] at c2
   refine G_skip ?_
   refine GQ_sub (.t4 1 3 5 6) ?_
   refine GQ_then ?_
   refine Gss ?_
   refine Gt (PSf fa47_0 rfl) ?_
   refine Gt (PS_load rfl tys3 (.tail _ (.head _)) Order.l0 rfl rfl) ?_
   refine Gt (PS_lss rfl rfl) ?_
   refine Gm rfl ?_
   refine GL_gf (t := 24) rfl rfl rfl (fun q => PSf fa47_0 rfl) ?_
   refine GL_gf (t := 24) rfl rfl rfl (fun q => PS_load (cF rfl q) tys3 (.tail _ (.head _)) Order.l0 rfl rfl) ?_
   refine GL_gf (t := 24) rfl rfl rfl (fun q => PS_gtr (cF rfl q) rfl) ?_
   refine Gt (PS_or rfl rfl (fun h => by rw [h]; rfl)) ?_
   refine Gn (.t5 1 3 5 6 28) ?_
   refine Gc (fun c3 => ?_) (fun c3 => ?_)
   ·
    have c3p := c3; try simp only [kk] at c3p
    refine Gs ?_
    refine Gt (PS_loadA rfl tya34 (.tail _ (.tail _ (.head _))) (Lens.id Land.fl.len Land.fl.one) rfl) ?_
    refine GL_unit (PU_store (Lens.id Land.fl.len Land.fl.one) rfl rfl rfl sz34 rfl .head) ?_
    refine Ga rfl (Ga rfl ?_)
    refine Gn (.t3 6 7 8) ?_
    refine G_ret ?_
    refine GQ_then_ret ?_
    refine GQ_ret rfl (.cell rfl (.head _) (.inl ⟨(by rw [Land.fl.len]; exact tya34), rfl⟩) (.tmp rfl (.tmp rfl .nil))) ?_
    intro w1 hS
    have hS := hS.own_nil 60 16
    have hS := (hS.perm (Pulls.perm (.cons .head .nil))).headL
    have hq : Turn.doR X b o = _ := ((if_f c1).trans ((if_f c2).trans (if_t c3)))
    refine ⟨_, ⟨⟨none, 0, 0⟩, ?hv3, ?hl3, ?hB3⟩, hS⟩
    case hv3 => rw [hq]; rfl
    case hl3 => rw [hq]; rfl
    case hB3 => rw [hq]; rfl
   ·
    have c3p := c3; try simp only [kk] at c3p
    have hF := Turn.start_fit hw c1 c2
    have hb := hF.b
    have hbb : 0 ≤ b ∧ b < 6 := hF.b
    have hnl := Turn.namedR_len hw (Turn.own_len (⟨X, b, []⟩ : Turn))
    refine G_skip ?_
    refine GQ_sub (.t4 1 3 5 6) ?_
    refine GQ_then ?_
    refine Gs ?_
    refine Gt (PS_loadA rfl tya34 (.tail _ (.tail _ (.head _))) (Lens.id Land.fl.len Land.fl.one) rfl) ?_
    refine Gm rfl ?_
    refine Gt (PS_build pl57 zv57 rfl (.cons TurnV.l0 rfl rfl rfl (.cons TurnV.l1 rfl rfl rfl .nil))) ?_
    refine GL_box rfl rfl rfl (fun b4 => ?_)
    refine Ga rfl ?_
    refine Gn (.t4 1 5 6 9) ?_
    refine G_nilF Ing.Event.enc 60 16 ?_
    refine G_pull (.tail .head) ?_
    refine G_pull (.tail .head) ?_
    refine G_cut2_ (Lm := [_, _]) (fun (Y : Turn) (j : Hd) => Turn.act (⟨X, b, []⟩ : Turn) o = Y ∧ j.len = Y.out.length) (fun (Y : Turn) (j : Hd) => []) (fun (Y : Turn) (j : Hd) => [Res.own j 60 16 (Y.out.flatMap Ing.Event.enc), Res.box b4 57 (TurnV.enc ⟨Y.w, Y.b, j⟩)]) (.t2 6 9) rfl ?_ (fun Y j hC => ?_)
    ·
     refine Gs ?_
     refine Gt (PSf fa47_0 rfl) ?_
     refine Gt (PS_load rfl tys3 (.tail _ (.tail _ (.tail _ (.head _)))) Order.l0 rfl rfl) ?_
     refine Gn (.t5 1 5 6 9 35) ?_
     refine G_block ?_
     refine G_cut1_ (Lm := []) (fun (p : Bool) => p = decide (o.verb < 6)) (fun (p : Bool) => [(39, .bool p)]) (fun (p : Bool) => []) (.t5 1 5 6 9 35) rfl ?_ (fun p hC => ?_)
     ·
      refine Gs ?_
      refine Gt (PS_eql rfl rfl) ?_
      refine Ga rfl ?_
      refine Gn (.t6 1 5 6 9 35 39) ?_
      refine Gc (fun c4 => ?_) (fun c4 => ?_)
      ·
       have c4p := c4; try simp only [kk] at c4p
       refine G_skip ?_
       refine GQ_at1_ _ ?_ (.t6 39 1 5 6 9 35) (.refl _)
       · rw [Bool.eq_iff_iff, decide_eq_true_eq, decide_eq_true_eq]; omega
      ·
       have c4p := c4; try simp only [kk] at c4p
       refine Gs ?_
       refine Gt (PS_eql rfl rfl) ?_
       refine Ga rfl ?_
       refine Gn (.t6 1 5 6 9 35 39) ?_
       refine Gc (fun c5 => ?_) (fun c5 => ?_)
       ·
        have c5p := c5; try simp only [kk] at c5p
        refine G_skip ?_
        refine GQ_at1_ _ ?_ (.t6 39 1 5 6 9 35) (.refl _)
        · rw [Bool.eq_iff_iff, decide_eq_true_eq, decide_eq_true_eq]; omega
       ·
        have c5p := c5; try simp only [kk] at c5p
        refine Gs ?_
        refine Gt (PS_eql rfl rfl) ?_
        refine Ga rfl ?_
        refine Gn (.t6 1 5 6 9 35 39) ?_
        refine Gc (fun c6 => ?_) (fun c6 => ?_)
        ·
         have c6p := c6; try simp only [kk] at c6p
         refine G_skip ?_
         refine GQ_at1_ _ ?_ (.t6 39 1 5 6 9 35) (.refl _)
         · rw [Bool.eq_iff_iff, decide_eq_true_eq, decide_eq_true_eq]; omega
        ·
         have c6p := c6; try simp only [kk] at c6p
         refine Gs ?_
         refine Gt (PS_eql rfl rfl) ?_
         refine Ga rfl ?_
         refine Gn (.t6 1 5 6 9 35 39) ?_
         refine Gc (fun c7 => ?_) (fun c7 => ?_)
         ·
          have c7p := c7; try simp only [kk] at c7p
          refine G_skip ?_
          refine GQ_at1_ _ ?_ (.t6 39 1 5 6 9 35) (.refl _)
          · rw [Bool.eq_iff_iff, decide_eq_true_eq, decide_eq_true_eq]; omega
         ·
          have c7p := c7; try simp only [kk] at c7p
          refine Gs ?_
          refine Gt (PS_eql rfl rfl) ?_
          refine Ga rfl ?_
          refine Gn (.t6 1 5 6 9 35 39) ?_
          refine Gc (fun c8 => ?_) (fun c8 => ?_)
          ·
           have c8p := c8; try simp only [kk] at c8p
           refine G_skip ?_
           refine GQ_at1_ _ ?_ (.t6 39 1 5 6 9 35) (.refl _)
           · rw [Bool.eq_iff_iff, decide_eq_true_eq, decide_eq_true_eq]; omega
          ·
           have c8p := c8; try simp only [kk] at c8p
           refine G_region ?_
           refine Gt (PS_eql rfl rfl) ?_
           refine Ga rfl ?_
           refine GL_nil (GQ_sub (.t6 1 5 6 9 35 39) ?_)
           refine GQ_at1_ _ ?_ (.t6 39 1 5 6 9 35) (.refl _)
           · rw [Bool.eq_iff_iff, decide_eq_true_eq, decide_eq_true_eq]; omega
     ·
      have hP := hC
      refine Gc (fun c9 => ?_) (fun c9 => ?_)
      ·
       have c9p := c9; try simp only [kk] at c9p
       have hv6 : o.verb < 6 := of_decide_eq_true (hP.symm.trans c9)
       refine G_region ?_
       refine Gm rfl (Gt (PSf fa47_0 rfl) ?_)
       refine Gt (PS_load rfl tys3 (.tail _ (.tail _ (.tail _ (.head _)))) Order.l0 rfl rfl) ?_
       refine GL_callR rfl cf35 (.cons rfl (.cons rfl .nil)) (.cons (.tail .head) (.cons .head .nil)) (ref_turn_walk_spec _ (⟨X, b, []⟩ : Turn) _ o.verb rfl hF (by omega) (Nat.zero_le _)) (fun w hS => gl0.pull gm0 hS (.cons (.tail .head) (.cons .head .nil))) (fun v4 B hv => ?_)
       obtain ⟨y5, rfl, y6, rfl⟩ := hv
       refine GL_nil (GQ_sub (.t2 6 9) ?_)
       refine GQ_block ?_
       refine GQ_pulls (.cons (.tail .head) (.cons .head (.cons .head (.cons .head (.cons .head .nil))))) ?_
       refine GQ_dropr ?_
       refine GQ_at2_ _ _ ?_ (.t2 6 9) (.refl _)
       · exact ⟨Turn.act_go hv6, by (try assumption)⟩
      ·
       have c9p := c9; try simp only [kk] at c9p
       have hv6 : ¬ o.verb < 6 := of_decide_eq_false (hP.symm.trans c9)
       refine Gs ?_
       refine Gt (PS_eql rfl rfl) ?_
       refine Ga rfl ?_
       refine Gn (.t6 1 5 6 9 35 50) ?_
       refine Gc (fun c10 => ?_) (fun c10 => ?_)
       ·
        have c10p := c10; try simp only [kk] at c10p
        refine G_region ?_
        refine Gm rfl ?_
        refine GL_callR rfl cf21 (.cons rfl .nil) (.cons (.tail .head) (.cons .head .nil)) (ref_turn_look_spec _ (⟨X, b, []⟩ : Turn) _ rfl hF (Nat.zero_le _)) (fun w hS => gl0.pull gm0 hS (.cons (.tail .head) (.cons .head .nil))) (fun v7 B hv => ?_)
        obtain ⟨y8, rfl, y9, rfl⟩ := hv
        refine GL_nil (GQ_sub (.t2 6 9) ?_)
        refine GQ_block ?_
        refine GQ_pulls (.cons (.tail .head) (.cons .head (.cons .head (.cons .head (.cons .head .nil))))) ?_
        refine GQ_dropr ?_
        refine GQ_at2_ _ _ ?_ (.t2 6 9) (.refl _)
        · exact ⟨Turn.act_6 (by omega), by (try assumption)⟩
       ·
        have c10p := c10; try simp only [kk] at c10p
        refine Gs ?_
        refine Gt (PS_eql rfl rfl) ?_
        refine Ga rfl ?_
        refine Gn (.t6 1 5 6 9 35 54) ?_
        refine Gc (fun c11 => ?_) (fun c11 => ?_)
        ·
         have c11p := c11; try simp only [kk] at c11p
         refine G_region ?_
         refine Gm rfl ?_
         refine Gt (PS_loadA rfl tya47 (.tail _ (.tail _ (.tail _ (.head _)))) (Lens.id Order.fl.len Order.fl.one) rfl) ?_
         refine GL_callR rfl cf36 (.cons rfl (.cons rfl .nil)) (.cons (.tail .head) (.cons .head .nil)) (ref_turn_get_spec _ (⟨X, b, []⟩ : Turn) _ o rfl hF hu (Nat.zero_le _) hz) (fun w hS => ⟨gl1.pull gm1 hS (.cons (.tail .head) (.cons .head .nil)), gl2.pull gm2 hS (.cons (.tail .head) (.cons .head .nil))⟩) (fun v10 B hv => ?_)
         obtain ⟨y11, rfl, y12, rfl⟩ := hv
         refine GL_nil (GQ_sub (.t2 6 9) ?_)
         refine GQ_block ?_
         refine GQ_pulls (.cons (.tail .head) (.cons .head (.cons .head (.cons .head (.cons .head .nil))))) ?_
         refine GQ_dropr ?_
         refine GQ_at2_ _ _ ?_ (.t2 6 9) (.refl _)
         · exact ⟨Turn.act_7 (by omega), by (try assumption)⟩
        ·
         have c11p := c11; try simp only [kk] at c11p
         refine G_cut1_ (Lm := []) (fun (r : Bool) => r = decide (8 ≤ o.verb ∧ o.verb ≤ 10)) (fun (r : Bool) => [(59, .bool r)]) (fun (r : Bool) => []) (.t5 1 5 6 9 35) rfl ?_ (fun r hC => ?_)
         ·
          refine Gs ?_
          refine Gt (PS_eql rfl rfl) ?_
          refine Ga rfl ?_
          refine Gn (.t6 1 5 6 9 35 59) ?_
          refine Gc (fun c12 => ?_) (fun c12 => ?_)
          ·
           have c12p := c12; try simp only [kk] at c12p
           refine G_skip ?_
           refine GQ_at1_ _ ?_ (.t6 59 1 5 6 9 35) (.refl _)
           · rw [Bool.eq_iff_iff, decide_eq_true_eq, decide_eq_true_eq]; omega
          ·
           have c12p := c12; try simp only [kk] at c12p
           refine Gs ?_
           refine Gt (PS_eql rfl rfl) ?_
           refine Ga rfl ?_
           refine Gn (.t6 1 5 6 9 35 59) ?_
           refine Gc (fun c13 => ?_) (fun c13 => ?_)
           ·
            have c13p := c13; try simp only [kk] at c13p
            refine G_skip ?_
            refine GQ_at1_ _ ?_ (.t6 59 1 5 6 9 35) (.refl _)
            · rw [Bool.eq_iff_iff, decide_eq_true_eq, decide_eq_true_eq]; omega
           ·
            have c13p := c13; try simp only [kk] at c13p
            refine G_region ?_
            refine Gt (PS_eql rfl rfl) ?_
            refine Ga rfl ?_
            refine GL_nil (GQ_sub (.t6 1 5 6 9 35 59) ?_)
            refine GQ_at1_ _ ?_ (.t6 59 1 5 6 9 35) (.refl _)
            · rw [Bool.eq_iff_iff, decide_eq_true_eq, decide_eq_true_eq]; omega
         ·
          have hR := hC
          refine Gc (fun c14 => ?_) (fun c14 => ?_)
          ·
           have c14p := c14; try simp only [kk] at c14p
           have hv8 : 8 ≤ o.verb ∧ o.verb ≤ 10 := of_decide_eq_true (hR.symm.trans c14)
           refine G_region ?_
           refine Gm rfl ?_
           refine Gt (PS_loadA rfl tya47 (.tail _ (.tail _ (.tail _ (.head _)))) (Lens.id Order.fl.len Order.fl.one) rfl) ?_
           refine GL_callR rfl cf37 (.cons rfl (.cons rfl .nil)) (.cons (.tail .head) (.cons .head .nil)) (ref_turn_part_spec _ (⟨X, b, []⟩ : Turn) _ o rfl hF (by omega) hu (Nat.zero_le _) hz) (fun w hS => ⟨gl1.pull gm1 hS (.cons (.tail .head) (.cons .head .nil)), gl2.pull gm2 hS (.cons (.tail .head) (.cons .head .nil))⟩) (fun v13 B hv => ?_)
           obtain ⟨y14, rfl, y15, rfl⟩ := hv
           refine GL_nil (GQ_sub (.t2 6 9) ?_)
           refine GQ_block ?_
           refine GQ_pulls (.cons (.tail .head) (.cons .head (.cons .head (.cons .head (.cons .head .nil))))) ?_
           refine GQ_dropr ?_
           refine GQ_at2_ _ _ ?_ (.t2 6 9) (.refl _)
           · exact ⟨Turn.act_let hv8, by (try assumption)⟩
          ·
           have c14p := c14; try simp only [kk] at c14p
           have hv8 : ¬ (8 ≤ o.verb ∧ o.verb ≤ 10) := of_decide_eq_false (hR.symm.trans c14)
           refine Gs ?_
           refine Gt (PS_eql rfl rfl) ?_
           refine Ga rfl ?_
           refine Gn (.t6 1 5 6 9 35 66) ?_
           refine Gc (fun c15 => ?_) (fun c15 => ?_)
           ·
            have c15p := c15; try simp only [kk] at c15p
            refine G_region ?_
            refine Gm rfl (Gt (PSf fa47_5 rfl) ?_)
            refine Gt (PS_load rfl tys9 (.tail _ (.tail _ (.tail _ (.head _)))) Order.l5 rfl rfl) ?_
            refine GL_callL rfl cf20 (.cons rfl (.cons rfl (.cons rfl (.cons rfl (.cons rfl (.cons rfl (.cons rfl .nil))))))) (.cons (.tail .head) (.cons .head .nil)) (ref_turn_add_spec _ (⟨X, b, []⟩ : Turn) _ 7 (-1) 0 0 [] o.text rfl hb (show (-1 : Int) < 6 by decide) (Nat.zero_le _)) (fun v16 B hv => ?_)
            obtain ⟨y17, rfl, y18, rfl⟩ := hv
            refine GL_nil (GQ_sub (.t2 6 9) ?_)
            refine GQ_block ?_
            refine GQ_pulls (.cons (.tail .head) (.cons .head (.cons .head (.cons .head (.cons .head .nil))))) ?_
            refine GQ_dropr ?_
            refine GQ_at2_ _ _ ?_ (.t2 6 9) (.refl _)
            · exact ⟨Turn.act_11 (by omega), by (try assumption)⟩
           ·
            have c15p := c15; try simp only [kk] at c15p
            refine Gs ?_
            refine Gt (PS_eql rfl rfl) ?_
            refine Ga rfl ?_
            refine Gn (.t6 1 5 6 9 35 72) ?_
            refine Gc (fun c16 => ?_) (fun c16 => ?_)
            ·
             have c16p := c16; try simp only [kk] at c16p
             refine Gs ?_
             refine Gt (PSf fa47_3 rfl) ?_
             refine Gt (PS_load rfl tys9 (.tail _ (.tail _ (.tail _ (.head _)))) Order.l3 rfl rfl) ?_
             refine Ga rfl ?_
             refine Gn (.t5 1 5 6 9 10) ?_
             refine Gss ?_
             refine Gt (PSf fa47_1 rfl) ?_
             refine Gt (PS_load rfl tys3 (.tail _ (.tail _ (.tail _ (.head _)))) Order.l1 rfl rfl) ?_
             refine Gt (PS_neq rfl rfl) ?_
             refine Gm rfl ?_
             refine GL_gf (t := 79) rfl rfl rfl (fun q => PSf fa47_2 rfl) ?_
             refine GL_gf (t := 79) rfl rfl rfl (fun q => PS_load (cF rfl q) tys4 (.tail _ (.tail _ (.tail _ (.head _)))) Order.l2 rfl rfl) ?_
             refine Gt (PS_or rfl rfl (fun h => by rw [h]; rfl)) ?_
             refine Gn (.t5 1 6 9 10 82) ?_
             refine G_set1 (vstr) (s := (if (!decide (o.nth = 1) || o.all_) = true then [] else o.name)) rfl rfl rfl rfl rfl ?_
             refine GQ_sub (.t4 1 6 9 10) ?_
             refine GQ_then ?_
             refine Gs ?_
             refine Gm rfl (Gm rfl ?_)
             refine GL_callL rfl cf38 (.cons rfl (.cons rfl .nil)) (.cons (.tail .head) (.cons .head .nil)) (ref_turn_personOf_spec _ (⟨X, b, []⟩ : Turn) _ (Turn.fightU o) rfl hF (by unfold Turn.fightU; split <;> (try simp) <;> omega) (Nat.zero_le _)) (fun v19 B hv => ?_)
             obtain ⟨y20, rfl, y21, rfl⟩ := hv
             refine Ga rfl ?_
             refine Gn (.t4 1 6 9 11) ?_
             refine Gs ?_
             refine Gm rfl ?_
             refine Gt (PS_geq rfl rfl) ?_
             refine Gn (.t5 1 6 9 11 87) ?_
             refine Gc (fun c17 => ?_) (fun c17 => ?_)
             ·
              have c17p := c17; try simp only [kk] at c17p
              have hfy := Turn.fight_yes (T := (⟨X, b, []⟩ : Turn)) (o := o) c17
              refine Gs ?_
              refine Gm rfl (Gm rfl (Gm rfl ?_))
              refine Gt (PS_add rfl rfl (IntWalk.i64_in _ (by first | omega | exact hb.1 | exact hb.2 | (simp only [List.length_cons, List.length_nil]; omega)))) ?_
              refine Gt (PSn rfl) (Gt (PSf fa57_0 rfl) (Gt (PSf fa34_2 rfl) ?_))
              refine Gt (PS_indexAddr ia32 rfl rfl (by first | omega | exact hb.1 | exact hb.2 | (simp only [List.length_cons, List.length_nil]; omega)) (by first | omega | exact hb.1 | exact hb.2 | (simp only [List.length_cons, List.length_nil]; omega))) ?_
              refine Gt (PSf fa31_5 rfl) ?_
              refine GL_unit (PU_store (((TurnV.l0.comp Land.l2).comp (Lens.ar (n := 6) Being.fl (by first | omega | exact hb | (simp only [List.length_cons, List.length_nil]; omega)))).comp Being.l5) rfl rfl rfl sz3 rfl .head) ?_
              refine Gn (.t4 1 6 9 11) ?_
              refine Gss ?_
              refine Gm rfl (Gm rfl (Gt (PSn rfl) (Gt (PSf fa57_0 rfl) (Gt (PSf fa34_2 rfl) ?_))))
              refine Gt (PS_indexAddr ia32 rfl rfl (by first | omega | exact hb.1 | exact hb.2 | (simp only [List.length_cons, List.length_nil]; omega)) (by first | omega | exact hb.1 | exact hb.2 | (simp only [List.length_cons, List.length_nil]; omega))) ?_
              refine Gt (PSf fa31_5 rfl) ?_
              refine Gt (PS_load rfl tys3 (.head _) (((TurnV.l0.comp Land.l2).comp (Lens.ar (n := 6) Being.fl (by first | omega | exact hb | (simp only [List.length_cons, List.length_nil]; omega)))).comp Being.l5) rfl rfl) ?_
              refine Gt (PS_eql rfl rfl) ?_
              refine Gn (.t5 1 6 9 11 105) ?_
              refine Gc (fun c18 => ?_) (fun c18 => ?_)
              ·
               have c18p := c18; try simp only [kk] at c18p
               refine G_region ?_
               refine Gm rfl (Gm rfl (Gm rfl ?_))
               refine Gt (PS_add rfl rfl (IntWalk.i64_in _ (by first | omega | exact hb.1 | exact hb.2 | (simp only [List.length_cons, List.length_nil]; omega)))) ?_
               refine Gt (PSn rfl) (Gt (PSf fa57_0 rfl) (Gt (PSf fa34_2 rfl) ?_))
               refine Gt (PS_indexAddr ia32 rfl rfl (by first | omega | exact hb.1 | exact hb.2 | (simp only [List.length_cons, List.length_nil]; omega)) (by first | omega | exact hb.1 | exact hb.2 | (simp only [List.length_cons, List.length_nil]; omega))) ?_
               refine Gt (PSf fa31_5 rfl) ?_
               refine GL_unit (PU_store (((TurnV.l0.comp Land.l2).comp (Lens.ar (n := 6) Being.fl (by first | omega | exact hb | (simp only [List.length_cons, List.length_nil]; omega)))).comp Being.l5) rfl rfl rfl sz3 rfl .head) ?_
               refine Gn (.t2 6 9) ?_
               refine G_region ?_
               refine Gm rfl ?_
               refine GL_callL rfl cf39 (.cons rfl (.cons rfl .nil)) (.cons .head (.cons .head .nil)) (ref_turn_tell_spec _ (Turn.setFoe (Turn.setFoe (Turn.somebody (⟨X, b, []⟩ : Turn) (Turn.fightU o)).1 b ((Turn.someN (⟨X, b, []⟩ : Turn) (Turn.fightU o)) + 1)) (Turn.someN (⟨X, b, []⟩ : Turn) (Turn.fightU o)) (b + 1)) _ Turn.fightT (by assumption) (by show 0 ≤ Turn.b (Turn.somebody (⟨X, b, []⟩ : Turn) (Turn.fightU o)).1 ∧ Turn.b (Turn.somebody (⟨X, b, []⟩ : Turn) (Turn.fightU o)).1 < 6; rw [(Turn.somebody_w _ _).2]; exact hb) (by show (Turn.out (Turn.somebody (⟨X, b, []⟩ : Turn) (Turn.fightU o)).1).length ≤ 100000; have := Turn.somebody_out (⟨X, b, []⟩ : Turn) (Turn.fightU o); have e : (Turn.out (⟨X, b, []⟩ : Turn)).length = 0 := rfl; omega)) (fun v22 B hv => ?_)
               obtain ⟨y23, rfl, y24, rfl⟩ := hv
               refine GL_nil (GQ_sub (.t2 6 9) ?_)
               refine GQ_block ?_
               refine GQ_pulls (.cons (.tail .head) (.cons .head (.cons .head (.cons .head (.cons .head .nil))))) ?_
               refine GQ_dropr ?_
               refine GQ_at2_ _ _ ?_ (.t2 6 9) (.refl _)
               · exact ⟨(Turn.act_18 (by omega)).trans (hfy.2.2.trans (congrArg (fun q => Turn.tell q Turn.fightT) (if_t c18))), by (try assumption)⟩
              ·
               have c18p := c18; try simp only [kk] at c18p
               refine G_skip ?_
               refine GQ_sub (.t2 6 9) ?_
               refine GQ_then ?_
               refine G_region ?_
               refine Gm rfl ?_
               refine GL_callL rfl cf39 (.cons rfl (.cons rfl .nil)) (.cons .head (.cons .head .nil)) (ref_turn_tell_spec _ (Turn.setFoe (Turn.somebody (⟨X, b, []⟩ : Turn) (Turn.fightU o)).1 b ((Turn.someN (⟨X, b, []⟩ : Turn) (Turn.fightU o)) + 1)) _ Turn.fightT (by assumption) (by show 0 ≤ Turn.b (Turn.somebody (⟨X, b, []⟩ : Turn) (Turn.fightU o)).1 ∧ Turn.b (Turn.somebody (⟨X, b, []⟩ : Turn) (Turn.fightU o)).1 < 6; rw [(Turn.somebody_w _ _).2]; exact hb) (by show (Turn.out (Turn.somebody (⟨X, b, []⟩ : Turn) (Turn.fightU o)).1).length ≤ 100000; have := Turn.somebody_out (⟨X, b, []⟩ : Turn) (Turn.fightU o); have e : (Turn.out (⟨X, b, []⟩ : Turn)).length = 0 := rfl; omega)) (fun v25 B hv => ?_)
               obtain ⟨y26, rfl, y27, rfl⟩ := hv
               refine GL_nil (GQ_sub (.t2 6 9) ?_)
               refine GQ_block ?_
               refine GQ_pulls (.cons (.tail .head) (.cons .head (.cons .head (.cons .head (.cons .head .nil))))) ?_
               refine GQ_dropr ?_
               refine GQ_at2_ _ _ ?_ (.t2 6 9) (.refl _)
               · exact ⟨(Turn.act_18 (by omega)).trans (hfy.2.2.trans (congrArg (fun q => Turn.tell q Turn.fightT) (if_f c18))), by (try assumption)⟩
             ·
              have c17p := c17; try simp only [kk] at c17p
              refine G_skip ?_
              refine GQ_sub (.t2 6 9) ?_
              refine GQ_block ?_
              refine GQ_pulls (.cons (.tail .head) (.cons .head (.cons .head (.cons .head (.cons .head .nil))))) ?_
              refine GQ_dropr ?_
              refine GQ_at2_ _ _ ?_ (.t2 6 9) (.refl _)
              · exact ⟨(Turn.act_18 (by omega)).trans (Turn.fight_no c17), by (try assumption)⟩
            ·
             have c16p := c16; try simp only [kk] at c16p
             refine Gs ?_
             refine Gt (PS_eql rfl rfl) ?_
             refine Ga rfl ?_
             refine Gn (.t6 1 5 6 9 35 117) ?_
             refine Gc (fun c19 => ?_) (fun c19 => ?_)
             ·
              have c19p := c19; try simp only [kk] at c19p
              refine G_region ?_
              refine Gm rfl (Gm rfl (Gm rfl ?_))
              refine GL_callL rfl cf41 (.cons rfl .nil) (.cons (.tail .head) .nil) (ref_turn_mine_spec _ (⟨X, b, []⟩ : Turn) _ hF) (fun v28 B hv => ?_)
              obtain ⟨y29, rfl, y30, rfl⟩ := hv
              refine GL_callL rfl cf40 (.cons rfl (.cons rfl .nil)) (.cons .head (.cons .head .nil)) (ref_turn_named_spec _ (⟨X, b, []⟩ : Turn) _ _ (Turn.own (⟨X, b, []⟩ : Turn)) hF (by assumption) (Turn.own_len _) (fun i hi => Turn.own_rng hi)) (fun v32 B hv => ?_)
              obtain ⟨rfl, rfl⟩ := hv
              refine Gt (PS_add_str rfl rfl (by first | omega | exact hb.1 | exact hb.2 | (simp only [List.length_cons, List.length_nil]; omega))) ?_
              refine GL_callL rfl cf39 (.cons rfl (.cons rfl .nil)) (.cons .head (.cons (.tail .head) .nil)) (ref_turn_tell_spec _ (⟨X, b, []⟩ : Turn) _ _ rfl hb (Nat.zero_le _)) (fun v33 B hv => ?_)
              obtain ⟨y34, rfl, y35, rfl⟩ := hv
              refine GL_nil (GQ_sub (.t2 6 9) ?_)
              refine GQ_block ?_
              refine GQ_pulls (.cons (.tail .head) (.cons .head (.cons (.tail .head) (.cons (.tail .head) (.cons (.tail .head) .nil))))) ?_
              refine GQ_dropr ?_
              refine GQ_at2_ _ _ ?_ (.t2 6 9) (.refl _)
              · exact ⟨Turn.act_19 (by omega), by (try assumption)⟩
             ·
              have c19p := c19; try simp only [kk] at c19p
              refine Gs ?_
              refine Gt (PS_eql rfl rfl) ?_
              refine Ga rfl ?_
              refine Gn (.t5 1 5 6 9 126) ?_
              refine Gc (fun c20 => ?_) (fun c20 => ?_)
              ·
               have c20p := c20; try simp only [kk] at c20p
               refine Gs ?_
               refine Gm rfl ?_
               refine GL_callL rfl cf20 (.cons rfl (.cons rfl (.cons rfl (.cons rfl (.cons rfl (.cons rfl (.cons rfl .nil))))))) (.cons (.tail .head) (.cons .head .nil)) (ref_turn_add_spec _ (⟨X, b, []⟩ : Turn) _ 18 (-1) 0 0 [] [] rfl hb (show (-1 : Int) < 6 by decide) (Nat.zero_le _)) (fun v36 B hv => ?_)
               obtain ⟨y37, rfl, y38, rfl⟩ := hv
               refine Gn (.t3 1 6 9) ?_
               refine Gs ?_
               refine Gm rfl ?_
               refine GL_callL rfl cf26 (.cons rfl .nil) (.cons .head .nil) (ref_turn_leaveAll_spec _ (Turn.kind (⟨X, b, []⟩ : Turn) 18) _ (hF.of_w rfl rfl)) (fun v39 B hv => ?_)
               obtain ⟨y40, y41, rfl, rfl⟩ := hv
               refine Gn (.t3 1 6 9) ?_
               refine G_region ?_
               refine Gm rfl (Gm rfl ?_)
               refine Gt (PS_build pl31 zv31 rfl .nil) ?_
               refine Gt (PSn rfl) (Gt (PSf fa57_0 rfl) (Gt (PSf fa34_2 rfl) ?_))
               refine Gt (PS_indexAddr ia32 rfl rfl (by first | omega | exact hb.1 | exact hb.2 | (simp only [List.length_cons, List.length_nil]; omega)) (by first | omega | exact hb.1 | exact hb.2 | (simp only [List.length_cons, List.length_nil]; omega))) ?_
               refine GL_unit (PU_store ((TurnV.l0.comp Land.l2).comp (Lens.ar (n := 6) Being.fl (by first | omega | exact hb | (simp only [List.length_cons, List.length_nil]; omega)))) rfl rfl rfl sz31 rfl .head) ?_
               refine GL_nil (GQ_sub (.t2 6 9) ?_)
               refine GQ_block ?_
               refine GQ_pulls (.cons (.tail .head) (.cons .head (.cons .head (.cons .head (.cons .head .nil))))) ?_
               refine GQ_dropr ?_
               refine GQ_at2_ (⟨{ y40 with beings := y40.beings.put b default }, b, (Turn.kind (⟨X, b, []⟩ : Turn) 18).out⟩) _ ?_ (.t2 6 9) (.refl _)
               · exact ⟨(Turn.act_20 (by omega)).trans (Turn.fade_lit y41), by (try assumption)⟩
              ·
               have c20p := c20; try simp only [kk] at c20p
               refine G_region ?_
               refine Gm rfl ?_
               refine Gt (PS_loadA rfl tya47 (.tail _ (.tail _ (.tail _ (.head _)))) (Lens.id Order.fl.len Order.fl.one) rfl) ?_
               refine GL_callR rfl cf42 (.cons rfl (.cons rfl .nil)) (.cons (.tail .head) (.cons .head .nil)) (ref_turn_set_spec _ (⟨X, b, []⟩ : Turn) _ o rfl hF (by omega) (Nat.zero_le _) hz) (fun w hS => gl0.pull gm0 hS (.cons (.tail .head) (.cons .head .nil))) (fun v42 B hv => ?_)
               obtain ⟨y43, rfl, y44, rfl⟩ := hv
               refine GL_nil (GQ_sub (.t2 6 9) ?_)
               refine GQ_block ?_
               refine GQ_pulls (.cons (.tail .head) (.cons .head (.cons .head (.cons .head (.cons .head .nil))))) ?_
               refine GQ_dropr ?_
               refine GQ_at2_ _ _ ?_ (.t2 6 9) (.refl _)
               · exact ⟨Turn.act_set (by omega), by (try assumption)⟩
    ·
     obtain ⟨hE1, hE2⟩ := hC
     refine G_seq ?_
     refine G_planN (N := 11) [0, 1, 3, 7, 0, 16, 48, 112, 15, 511, 1023] mix (by kernel_rfl) rfl ?_
     refine Pf 0 rfl (PS_move rfl) (Pf 1 rfl (PSn rfl) (Pf 2 rfl (PSf fa57_0 rfl) ?_))
     refine Pf 3 rfl (PS_loadA rfl tya34 (.tail _ (.head _)) TurnV.l0 rfl) ?_
     refine Pf 4 rfl (PS_move rfl) (Pf 5 rfl (PSn rfl) (Pf 6 rfl (PSf fa57_2 rfl) ?_))
     refine Pf 7 rfl (PS_load rfl tys35 (.tail _ (.head _)) TurnV.l2 rfl rfl) ?_
     refine Plan_chain 8 rfl (by kernel_rfl) ?_
     refine GL_unit (PU_store (Lens.id Land.fl.len Land.fl.one) rfl rfl rfl sz34 rfl (.tail (.tail .head))) ?_
     refine GL_hand0 rfl ⟨?_, ?_⟩
     · exact (Po rfl (PS_load rfl tys35 (.tail _ (.head _)) TurnV.l2 rfl rfl) rfl rfl (Po rfl (PSf fa57_2 rfl) rfl rfl (Po rfl (PSn rfl) rfl rfl (Po rfl (PS_move rfl) rfl rfl (Pk (Pk (Pk (Pk Pend_nil))))))))
     refine Pf 9 rfl (PS_assign rfl) ?_
     refine Pf 10 rfl (PS_assign rfl) ?_
     refine Plan_end (by kernel_rfl) ?_
     refine GQ_sub (.t3 6 7 8) ?_
     refine GQ_then ?_
     refine G_ret ?_
     refine GQ_ret rfl (.cell rfl (.tail _ (.tail _ (.head _))) (.inl ⟨(by rw [Land.fl.len]; exact tya34), rfl⟩) (.tmp rfl (.tmp rfl .nil))) ?_
     intro w1 hS
     have hS := (hS.perm (Pulls.perm (.cons .head .nil))).headL
     have hq : Turn.doR X b o = ((Turn.act (⟨X, b, []⟩ : Turn) o).w, (Turn.act (⟨X, b, []⟩ : Turn) o).out, 0) := ((if_f c1).trans ((if_f c2).trans (if_f c3)))
     rw [hE1] at hq
     refine ⟨_, ⟨?gq4, ?hv4, ?hl4, ?hB4⟩, hS⟩
     case hB4 => rw [hq]; (try rfl)
     case hv4 => rw [hq]; (try rfl)
     case hl4 => rw [hq]; exact hE2
theorem ref_SameEvents_spec {t0 t1 : Nat} (f g : Hd) (xs ys : List Ing.Event) (hx : xs.length ≤ 9223372036854775807) (w : World) (r0 : Rd w f t0 16 (xs.flatMap Ing.Event.enc)) (r1 : Rd w g t1 16 (ys.flatMap Ing.Event.enc)) : Ret Tryz.prog 8 #[f.val, g.val] w fun v w' => v = .bool (decide (xs = ys)) ∧ Keep w w' := by
 have hf := r0.len1 Ing.Event.fl (by decide)
 have hg := r1.len1 Ing.Event.fl (by decide)
 refine Ret_body [] [] Tryz.func8 rfl rfl rfl (St.start w []) ?_
 refine Gs ?_
 refine Ga rfl ?_
 refine Gn (.t2 0 1) ?_
 refine Gss ?_
 refine Gm rfl ?_
 refine Gt (PS_len_slice rfl Tryz.underlying35 rfl) ?_
 refine Gm rfl ?_
 refine Gt (PS_len_slice rfl Tryz.underlying35 rfl) ?_
 refine Gt (PS_neq rfl rfl) ?_
 refine Gn (.t3 0 1 10) ?_
 refine Gc (fun c1 => ?_) (fun c1 => ?_)
 ·
  have c1p := c1; try simp only [kk] at c1p
  refine Gs ?_
  refine Ga rfl ?_
  refine Gn (.t1 4) ?_
  refine G_ret ?_
  refine GQ_then_ret ?_
  refine GQ_ret rfl (.tmp rfl .nil) ?_
  intro w1 hS; refine ⟨congrArg Value.bool ?_, hS.toKeep⟩; have : xs ≠ ys := fun e => by subst e; simp at c1; omega
  simp [this]
 ·
  have c1p := c1; try simp only [kk] at c1p
  refine G_skip ?_
  refine GQ_sub (.t2 0 1) ?_
  refine GQ_then ?_
  refine Gss ?_
  refine Gm rfl ?_
  refine Gt (PS_len_slice rfl Tryz.underlying35 rfl) ?_
  refine Gm rfl ?_
  refine Gn (.t4 0 1 12 13) ?_
  refine G_block ?_
  refine G_subF (.t4 13 0 1 12) ?_
  refine G_loop1_ (fun (i : Int) => 0 ≤ i ∧ i ≤ xs.length ∧ xs.length = ys.length ∧ xs.take i.toNat = ys.take i.toNat) (fun (i : Int) => ((xs.length : Int) - i).toNat) (fun (i : Int) => [(13, .int .i64 i)]) (fun (i : Int) => []) (0) ?_ rfl rfl (fun i hI1 => ?_)
  · exact ⟨by omega, by omega, by simp at c1; omega, rfl⟩
  obtain ⟨hI11, hI12, hI13, hI14⟩ := hI1
  refine Gs ?_
  refine Gt (PS_lss rfl rfl) ?_
  refine GL_nil ?_
  refine GQ_then ?_
  refine G_seq ?_
  refine Gc (fun c2 => ?_) (fun c2 => ?_)
  ·
   have c2p := c2; try simp only [kk] at c2p
   refine G_skip ?_
   refine GQ_sub (.t4 0 1 12 13) ?_
   refine GQ_then ?_
   refine G_seq ?_
   refine G_block ?_
   refine Gs ?_
   refine Gm rfl (Ga rfl ?_)
   refine Gn (.t5 0 1 5 12 13) ?_
   refine G_seq ?_
   refine G_planN (N := 9) [0, 0, 3, 7, 0, 0, 48, 112, 255] mix (by kernel_rfl) rfl ?_
   refine Pf 0 rfl (PS_move rfl) (Pf 1 rfl (PS_move rfl) ?_)
   refine Pf 2 rfl (PS_idxS is35 (by decide) (Kn.old r0) rfl rfl (by omega) (by omega)) ?_
   refine Pf 3 rfl (PS_ldG rfl tya60 (by decide) Ing.Event.fl (Kn.old r0) (by omega)) ?_
   refine Pf 4 rfl (PS_move rfl) (Pf 5 rfl (PS_move rfl) ?_)
   refine Pf 6 rfl (PS_idxS is35 (by decide) (Kn.old r1) rfl rfl (by omega) (by omega)) ?_
   refine Pf 7 rfl (PS_ldG rfl tya60 (by decide) Ing.Event.fl (Kn.old r1) (by omega)) ?_
   refine Pf 8 rfl (PS_neq_agg eq60 (by decide) (by kernel_rfl) rfl rfl) ?_
   refine Plan_end (by kernel_rfl) ?_
   refine GQ_sub (.t5 0 1 12 13 24) ?_
   refine GQ_then ?_
   refine Gc (fun c3 => ?_) (fun c3 => ?_)
   ·
    have c3p := c3; try simp only [kk] at c3p
    refine Gs ?_
    refine Ga rfl ?_
    refine Gn (.t1 4) ?_
    refine G_ret ?_
    refine GQ_block_ret ?_
    refine GQ_then_ret ?_
    refine GQ_then_ret ?_
    refine GQ_block_ret ?_
    refine GQ_then_ret ?_
    refine GQ_ret rfl (.tmp rfl .nil) ?_
    intro w1 hS; refine ⟨congrArg Value.bool ?_, hS.toKeep⟩; have := Line.ne_of_getD (d := default) (xs := xs) (ys := ys) (i := i.toNat) (by simpa using c3)
    simp [this]
   ·
    have c3p := c3; try simp only [kk] at c3p
    refine G_skip ?_
    refine GQ_sub (.t4 0 1 12 13) ?_
    refine GQ_block ?_
    refine GQ_then ?_
    refine G_region ?_
    refine Gt (PS_add rfl rfl (IntWalk.i64_in _ (by omega))) ?_
    refine Gm rfl ?_
    refine GL_nil (GQ_sub (.t4 0 1 12 13) ?_)
    refine GQ_next1_ (i + 1) ?_ ?_ (.t4 13 0 1 12) (.refl _)
    · exact ⟨by omega, by omega, hI13, Line.take_next (d := default) hI11 hI13 (by omega) hI14 (by simpa using c3)⟩
    · omega
  ·
   have c2p := c2; try simp only [kk] at c2p
   refine G_exit ?_
   refine GQ_then_exit ?_
   refine GQ_then_exit ?_
   refine GQ_block_exit ?_
   refine GQ_sub (.nil _) ?_
   refine GQ_then ?_
   refine Gs ?_
   refine Ga rfl ?_
   refine GL_nil ?_
   refine GQ_then ?_
   refine G_ret ?_
   refine GQ_ret rfl (.tmp rfl .nil) ?_
   intro w1 hS; refine ⟨congrArg Value.bool ?_, hS.toKeep⟩; have := Line.pickE (xs := xs) (ys := ys) hI13 hI14 (by omega)
   simp [this]
theorem land_New_spec  (w : World) : Ret Tryz.prog 22 #[] w fun v w' => v = .agg Land.new.enc.toArray ∧ Keep w w' := by
 refine Ret_body [] [] Tryz.func22 rfl rfl rfl (St.start w []) ?_
 refine Gs ?_
 refine GL_alloc rfl zv34 rfl (fun b1 => ?_)
 refine GL_nil ?_
 refine GQ_then ?_
 refine Gs ?_
 refine GL_alloc rfl zv34 rfl (fun b2 => ?_)
 refine GL_nil ?_
 refine GQ_then ?_
 refine Gss ?_
 refine Gt (PS_buildA Tryz.underlying22 sz3 zv22 rfl (.cons (Lens.arr (n := 6) (i := 0) flI (by decide) (by decide)) rfl rfl rfl (.cons (Lens.arr (n := 6) (i := 1) flI (by decide) (by decide)) rfl rfl rfl (.cons (Lens.arr (n := 6) (i := 2) flI (by decide) (by decide)) rfl rfl rfl (.cons (Lens.arr (n := 6) (i := 3) flI (by decide) (by decide)) rfl rfl rfl (.cons (Lens.arr (n := 6) (i := 4) flI (by decide) (by decide)) rfl rfl rfl (.cons (Lens.arr (n := 6) (i := 5) flI (by decide) (by decide)) rfl rfl rfl .nil))))))) ?_
 refine Gt (PS_buildA Tryz.underlying23 sz4 zv23 rfl (.cons (Lens.arr (n := 6) (i := 5) flB (by decide) (by decide)) rfl rfl rfl .nil)) ?_
 refine Gt (PS_build pl25 zv25 rfl (.cons Room.l0 rfl rfl rfl (.cons Room.l2 rfl rfl rfl (.cons Room.l3 rfl rfl rfl .nil)))) ?_
 refine Gt (PS_buildA Tryz.underlying22 sz3 zv22 rfl (.cons (Lens.arr (n := 6) (i := 0) flI (by decide) (by decide)) rfl rfl rfl (.cons (Lens.arr (n := 6) (i := 1) flI (by decide) (by decide)) rfl rfl rfl (.cons (Lens.arr (n := 6) (i := 2) flI (by decide) (by decide)) rfl rfl rfl (.cons (Lens.arr (n := 6) (i := 3) flI (by decide) (by decide)) rfl rfl rfl (.cons (Lens.arr (n := 6) (i := 4) flI (by decide) (by decide)) rfl rfl rfl (.cons (Lens.arr (n := 6) (i := 5) flI (by decide) (by decide)) rfl rfl rfl .nil))))))) ?_
 refine Gt (PS_build pl25 zv25 rfl (.cons Room.l0 rfl rfl rfl (.cons Room.l2 rfl rfl rfl .nil))) ?_
 refine Gt (PS_buildA Tryz.underlying22 sz3 zv22 rfl (.cons (Lens.arr (n := 6) (i := 0) flI (by decide) (by decide)) rfl rfl rfl (.cons (Lens.arr (n := 6) (i := 1) flI (by decide) (by decide)) rfl rfl rfl (.cons (Lens.arr (n := 6) (i := 2) flI (by decide) (by decide)) rfl rfl rfl (.cons (Lens.arr (n := 6) (i := 3) flI (by decide) (by decide)) rfl rfl rfl (.cons (Lens.arr (n := 6) (i := 4) flI (by decide) (by decide)) rfl rfl rfl (.cons (Lens.arr (n := 6) (i := 5) flI (by decide) (by decide)) rfl rfl rfl .nil))))))) ?_
 refine Gt (PS_build pl25 zv25 rfl (.cons Room.l0 rfl rfl rfl (.cons Room.l2 rfl rfl rfl (.cons Room.l1 rfl rfl rfl .nil)))) ?_
 refine Gt (PS_buildA Tryz.underlying22 sz3 zv22 rfl (.cons (Lens.arr (n := 6) (i := 0) flI (by decide) (by decide)) rfl rfl rfl (.cons (Lens.arr (n := 6) (i := 1) flI (by decide) (by decide)) rfl rfl rfl (.cons (Lens.arr (n := 6) (i := 2) flI (by decide) (by decide)) rfl rfl rfl (.cons (Lens.arr (n := 6) (i := 3) flI (by decide) (by decide)) rfl rfl rfl (.cons (Lens.arr (n := 6) (i := 4) flI (by decide) (by decide)) rfl rfl rfl (.cons (Lens.arr (n := 6) (i := 5) flI (by decide) (by decide)) rfl rfl rfl .nil))))))) ?_
 refine Gt (PS_build pl25 zv25 rfl (.cons Room.l0 rfl rfl rfl (.cons Room.l2 rfl rfl rfl (.cons Room.l1 rfl rfl rfl .nil)))) ?_
 refine Gt (PS_buildA Tryz.underlying22 sz3 zv22 rfl (.cons (Lens.arr (n := 6) (i := 0) flI (by decide) (by decide)) rfl rfl rfl (.cons (Lens.arr (n := 6) (i := 1) flI (by decide) (by decide)) rfl rfl rfl (.cons (Lens.arr (n := 6) (i := 2) flI (by decide) (by decide)) rfl rfl rfl (.cons (Lens.arr (n := 6) (i := 3) flI (by decide) (by decide)) rfl rfl rfl (.cons (Lens.arr (n := 6) (i := 4) flI (by decide) (by decide)) rfl rfl rfl (.cons (Lens.arr (n := 6) (i := 5) flI (by decide) (by decide)) rfl rfl rfl .nil))))))) ?_
 refine Gt (PS_buildA Tryz.underlying23 sz4 zv23 rfl (.cons (Lens.arr (n := 6) (i := 2) flB (by decide) (by decide)) rfl rfl rfl .nil)) ?_
 refine Gt (PS_build pl25 zv25 rfl (.cons Room.l0 rfl rfl rfl (.cons Room.l2 rfl rfl rfl (.cons Room.l3 rfl rfl rfl (.cons Room.l1 rfl rfl rfl .nil))))) ?_
 refine Gt (PS_buildA Tryz.underlying22 sz3 zv22 rfl (.cons (Lens.arr (n := 6) (i := 0) flI (by decide) (by decide)) rfl rfl rfl (.cons (Lens.arr (n := 6) (i := 1) flI (by decide) (by decide)) rfl rfl rfl (.cons (Lens.arr (n := 6) (i := 2) flI (by decide) (by decide)) rfl rfl rfl (.cons (Lens.arr (n := 6) (i := 3) flI (by decide) (by decide)) rfl rfl rfl (.cons (Lens.arr (n := 6) (i := 4) flI (by decide) (by decide)) rfl rfl rfl (.cons (Lens.arr (n := 6) (i := 5) flI (by decide) (by decide)) rfl rfl rfl .nil))))))) ?_
 refine Gt (PS_build pl25 zv25 rfl (.cons Room.l0 rfl rfl rfl (.cons Room.l2 rfl rfl rfl .nil))) ?_
 refine GL_bs (cs := encA (n := 6) Room.enc (Vector.replicate 6 default)) (cs' := encA (n := 6) Room.enc Land.roomsV) rfl Tryz.underlying81 sz25 zv25 (by decide) (by decide) (by kernel_rfl) (.cons (Lens.arr (n := 6) (i := 0) Room.fl (by decide) (by decide)) rfl rfl rfl (.cons (Lens.arr (n := 6) (i := 1) Room.fl (by decide) (by decide)) rfl rfl rfl (.cons (Lens.arr (n := 6) (i := 2) Room.fl (by decide) (by decide)) rfl rfl rfl (.cons (Lens.arr (n := 6) (i := 3) Room.fl (by decide) (by decide)) rfl rfl rfl (.cons (Lens.arr (n := 6) (i := 4) Room.fl (by decide) (by decide)) rfl rfl rfl (.cons (Lens.arr (n := 6) (i := 5) Room.fl (by decide) (by decide)) rfl rfl rfl .nil)))))) rfl (fun b3 => ?_)
 refine Gt (PS_len_slice rfl Tryz.underlying81 rfl) ?_
 refine Gm rfl ?_
 refine Gn (.t5 0 1 20 21 22) ?_
 refine G_block ?_
 refine G_subF (.t5 22 0 1 20 21) ?_
 refine G_pull (.tail .head) ?_
 refine G_loop1_ (fun (k : Int) => 0 ≤ k ∧ k ≤ 6) (fun (k : Int) => (6 - k).toNat) (fun (k : Int) => [(22, .int .i64 k)]) (fun (k : Int) => [Res.box b2 34 (Land.enc (Land.newA k.toNat))]) (0) ?_ rfl rfl (fun k hI1 => ?_)
 · exact ⟨Int.le_refl _, by omega⟩
 obtain ⟨hI11, hI12⟩ := hI1
 refine Gs ?_
 refine Gt (PS_lss rfl rfl) ?_
 refine GL_nil ?_
 refine GQ_then ?_
 refine G_seq ?_
 refine Gc (fun c1 => ?_) (fun c1 => ?_)
 ·
  have c1p := c1; try simp only [kk] at c1p
  refine G_skip ?_
  refine GQ_sub (.t5 0 1 20 21 22) ?_
  refine GQ_then ?_
  refine G_seq ?_
  refine G_block ?_
  refine Gs ?_
  refine Gm rfl ?_
  refine Gt (PS_idxS is81 (by decide) (Kn.own (.tail _ (.head _))) rfl rfl (by omega) (by dsimp only; omega)) ?_
  refine Gt (PS_ldG rfl tya25 (by decide) Room.fl (Kn.own (.tail _ (.head _))) (by simp; omega)) ?_
  refine GL_alloc rfl zv25 rfl (fun b4 => ?_)
  refine Ga rfl ?_
  refine GL_unit (PU_store (Lens.id Room.fl.len Room.fl.one) rfl rfl rfl sz25 rfl .head) ?_
  refine Gn (.t7 0 1 2 3 20 21 22) ?_
  refine G_region ?_
  refine Gm rfl ?_
  refine Gt (PS_loadA rfl tya25 (.head _) (Lens.id Room.fl.len Room.fl.one) rfl) ?_
  refine Gt (PSf fa34_0 rfl) ?_
  refine Gt (PS_indexAddr ia26 rfl rfl (by omega) (by omega)) ?_
  refine GL_unit (PU_store (Land.l0.comp (Lens.ar (n := 6) Room.fl (by omega))) rfl rfl rfl sz25 rfl (.tail .head)) ?_
  refine GL_nil (GQ_sub (.t5 0 1 20 21 22) ?_)
  refine GQ_block ?_
  refine GQ_then ?_
  refine G_region ?_
  refine Gt (PS_add rfl rfl (IntWalk.i64_in _ (by omega))) ?_
  refine Gm rfl ?_
  refine GL_nil (GQ_sub (.t5 0 1 20 21 22) ?_)
  refine GQ_next1_ (k + 1) ?_ ?_ (.t5 22 0 1 20 21) (by rw [Land.newA_step (by omega)]; exact (.cons _ (.refl _)))
  · exact ⟨by omega, by omega⟩
  · omega
 ·
  have c1p := c1; try simp only [kk] at c1p
  obtain rfl : k = 6 := by omega
  refine G_exit ?_
  refine GQ_then_exit ?_
  refine GQ_then_exit ?_
  refine GQ_block_exit ?_
  refine GQ_sub (.t2 0 1) ?_
  refine GQ_then ?_
  refine Gss ?_
  refine Gt (PS_build pl28 zv28 rfl (.cons Thing.l0 rfl rfl rfl (.cons Thing.l1 rfl rfl rfl .nil))) ?_
  refine Gt (PS_build pl28 zv28 rfl (.cons Thing.l0 rfl rfl rfl (.cons Thing.l1 rfl rfl rfl (.cons Thing.l3 rfl rfl rfl .nil)))) ?_
  refine Gt (PS_build pl28 zv28 rfl (.cons Thing.l0 rfl rfl rfl (.cons Thing.l1 rfl rfl rfl .nil))) ?_
  refine Gt (PS_build pl28 zv28 rfl (.cons Thing.l0 rfl rfl rfl (.cons Thing.l1 rfl rfl rfl (.cons Thing.l3 rfl rfl rfl .nil)))) ?_
  refine Gt (PS_build pl28 zv28 rfl (.cons Thing.l0 rfl rfl rfl (.cons Thing.l2 rfl rfl rfl (.cons Thing.l3 rfl rfl rfl .nil)))) ?_
  refine Gt (PS_build pl28 zv28 rfl (.cons Thing.l0 rfl rfl rfl (.cons Thing.l3 rfl rfl rfl .nil))) ?_
  refine Gt (PS_build pl28 zv28 rfl (.cons Thing.l0 rfl rfl rfl .nil)) ?_
  refine Gt (PS_build pl28 zv28 rfl (.cons Thing.l0 rfl rfl rfl (.cons Thing.l1 rfl rfl rfl (.cons Thing.l4 rfl rfl rfl .nil)))) ?_
  refine Gt (PS_build pl28 zv28 rfl (.cons Thing.l0 rfl rfl rfl (.cons Thing.l2 rfl rfl rfl (.cons Thing.l3 rfl rfl rfl .nil)))) ?_
  refine GL_bs (cs := encA (n := 9) Thing.enc (Vector.replicate 9 default)) (cs' := encA (n := 9) Thing.enc Land.thingsV) rfl Tryz.underlying82 sz28 zv28 (by decide) (by decide) (by kernel_rfl) (.cons (Lens.arr (n := 9) (i := 0) Thing.fl (by decide) (by decide)) rfl rfl rfl (.cons (Lens.arr (n := 9) (i := 1) Thing.fl (by decide) (by decide)) rfl rfl rfl (.cons (Lens.arr (n := 9) (i := 2) Thing.fl (by decide) (by decide)) rfl rfl rfl (.cons (Lens.arr (n := 9) (i := 3) Thing.fl (by decide) (by decide)) rfl rfl rfl (.cons (Lens.arr (n := 9) (i := 4) Thing.fl (by decide) (by decide)) rfl rfl rfl (.cons (Lens.arr (n := 9) (i := 5) Thing.fl (by decide) (by decide)) rfl rfl rfl (.cons (Lens.arr (n := 9) (i := 6) Thing.fl (by decide) (by decide)) rfl rfl rfl (.cons (Lens.arr (n := 9) (i := 7) Thing.fl (by decide) (by decide)) rfl rfl rfl (.cons (Lens.arr (n := 9) (i := 8) Thing.fl (by decide) (by decide)) rfl rfl rfl .nil))))))))) rfl (fun b5 => ?_)
  refine Gt (PS_len_slice rfl Tryz.underlying82 rfl) ?_
  refine Gm rfl ?_
  refine Gn (.t5 0 1 41 42 43) ?_
  refine G_block ?_
  refine G_subF (.t5 43 0 1 41 42) ?_
  refine G_pull (.tail .head) ?_
  refine G_loop1_ (fun (k : Int) => 0 ≤ k ∧ k ≤ 9) (fun (k : Int) => (9 - k).toNat) (fun (k : Int) => [(43, .int .i64 k)]) (fun (k : Int) => [Res.box b2 34 (Land.enc (Land.newB k.toNat))]) (0) ?_ rfl rfl (fun k hI2 => ?_)
  · exact ⟨Int.le_refl _, by omega⟩
  obtain ⟨hI21, hI22⟩ := hI2
  refine Gs ?_
  refine Gt (PS_lss rfl rfl) ?_
  refine GL_nil ?_
  refine GQ_then ?_
  refine G_seq ?_
  refine Gc (fun c2 => ?_) (fun c2 => ?_)
  ·
   have c2p := c2; try simp only [kk] at c2p
   refine G_skip ?_
   refine GQ_sub (.t5 0 1 41 42 43) ?_
   refine GQ_then ?_
   refine G_seq ?_
   refine G_block ?_
   refine Gs ?_
   refine Gm rfl ?_
   refine Gt (PS_idxS is82 (by decide) (Kn.own (.tail _ (.head _))) rfl rfl (by omega) (by dsimp only; omega)) ?_
   refine Gt (PS_ldG rfl tya28 (by decide) Thing.fl (Kn.own (.tail _ (.head _))) (by simp; omega)) ?_
   refine GL_alloc rfl zv28 rfl (fun b6 => ?_)
   refine Ga rfl ?_
   refine GL_unit (PU_store (Lens.id Thing.fl.len Thing.fl.one) rfl rfl rfl sz28 rfl .head) ?_
   refine Gn (.t7 0 1 4 5 41 42 43) ?_
   refine G_region ?_
   refine Gm rfl ?_
   refine Gt (PS_loadA rfl tya28 (.head _) (Lens.id Thing.fl.len Thing.fl.one) rfl) ?_
   refine Gt (PSf fa34_1 rfl) ?_
   refine Gt (PS_indexAddr ia29 rfl rfl (by omega) (by omega)) ?_
   refine GL_unit (PU_store (Land.l1.comp (Lens.ar (n := 9) Thing.fl (by omega))) rfl rfl rfl sz28 rfl (.tail .head)) ?_
   refine GL_nil (GQ_sub (.t5 0 1 41 42 43) ?_)
   refine GQ_block ?_
   refine GQ_then ?_
   refine G_region ?_
   refine Gt (PS_add rfl rfl (IntWalk.i64_in _ (by omega))) ?_
   refine Gm rfl ?_
   refine GL_nil (GQ_sub (.t5 0 1 41 42 43) ?_)
   refine GQ_next1_ (k + 1) ?_ ?_ (.t5 43 0 1 41 42) (by rw [Land.newB_step (by omega)]; exact (.cons _ (.refl _)))
   · exact ⟨by omega, by omega⟩
   · omega
  ·
   have c2p := c2; try simp only [kk] at c2p
   obtain rfl : k = 9 := by omega
   refine G_exit ?_
   refine GQ_then_exit ?_
   refine GQ_then_exit ?_
   refine GQ_block_exit ?_
   refine GQ_sub (.t2 0 1) ?_
   refine GQ_then ?_
   refine Gs ?_
   refine Gt (PS_build pl31 zv31 rfl (.cons Being.l0 rfl rfl rfl (.cons Being.l1 rfl rfl rfl (.cons Being.l2 rfl rfl rfl (.cons Being.l4 rfl rfl rfl .nil))))) ?_
   refine Gt (PSf fa34_2 rfl) ?_
   refine Gt (PS_indexAddr ia32 rfl rfl (by decide) (by decide)) ?_
   refine GL_unit (PU_store (Land.l2.comp (Lens.arr (n := 6) Being.fl (by decide) (by decide))) rfl rfl rfl sz31 rfl .head) ?_
   refine Gn (.t2 0 1) ?_
   refine Gs ?_
   refine Gt (PS_build pl31 zv31 rfl (.cons Being.l0 rfl rfl rfl (.cons Being.l1 rfl rfl rfl (.cons Being.l3 rfl rfl rfl (.cons Being.l4 rfl rfl rfl .nil))))) ?_
   refine Gt (PSf fa34_2 rfl) ?_
   refine Gt (PS_indexAddr ia32 rfl rfl (by decide) (by decide)) ?_
   refine GL_unit (PU_store (Land.l2.comp (Lens.arr (n := 6) Being.fl (by decide) (by decide))) rfl rfl rfl sz31 rfl .head) ?_
   refine Gn (.t2 0 1) ?_
   refine Gs ?_
   refine Gt (PS_loadA rfl tya34 (.head _) (Lens.id Land.fl.len Land.fl.one) rfl) ?_
   refine GL_unit (PU_store (Lens.id Land.fl.len Land.fl.one) rfl rfl rfl sz34 rfl (.tail (.tail (.tail .head)))) ?_
   refine Gn (.t1 0) ?_
   refine G_ret ?_
   refine GQ_ret rfl (.cell rfl (.tail _ (.tail _ (.tail _ (.head _)))) (.inl ⟨(by rw [Land.fl.len]; exact tya34), rfl⟩) .nil) ?_
   intro w1 hS; refine ⟨?_, hS.toKeep⟩; rfl
theorem law_acts_spec  (w : World) (gl0 : GV 1 Land.verbsV w) (gl1 : GVE 3 w) (gl2 : GVE 4 w) : Ret Tryz.prog 11 #[] w fun v w' => v = .bool true ∧ Keep w w' := by
 refine Ret_body [] [] Tryz.func11 rfl rfl rfl (St.start w []) ?_
 refine Gs ?_
 refine Ga rfl ?_
 refine Gn (.nil _) ?_
 refine Gs ?_
 refine GL_pure rfl cf22 .nil (fun w hS => land_New_spec w) ?_
 refine Gt (PS_build pl47 zv47 rfl (.cons Order.l0 rfl rfl rfl (.cons Order.l1 rfl rfl rfl (.cons Order.l3 rfl rfl rfl .nil)))) ?_
 refine GL_callR rfl cf14 (.cons rfl (.cons rfl (.cons rfl .nil))) .nil (rules_Do_spec Land.new 0 Turn.mugO Land.new_brief (by decide) (by decide)) (fun w hS => ⟨gl0.pull (by simp) hS .nil, gl1.pull (by simp) hS .nil, gl2.pull (by simp) hS .nil⟩) (fun v1 B hv => ?_)
 obtain ⟨y2, rfl, y3, rfl⟩ := hv
 refine Gm rfl ?_
 refine Gt (PS_extract rfl rfl) ?_
 refine Gt (PS_extract rfl rfl) ?_
 refine Gt (PS_extract rfl rfl) ?_
 refine GL_alloc rfl zv34 rfl (fun b1 => ?_)
 refine GL_unit (PU_store (Lens.id Land.fl.len Land.fl.one) rfl rfl rfl sz34 rfl .head) ?_
 refine Ga rfl (Ga rfl ?_)
 refine Gn (.t3 1 2 3) ?_
 refine Gs ?_
 refine Gm rfl ?_
 refine Gt (PS_eql rfl rfl) ?_
 refine Gm rfl ?_
 refine GL_gt (t := 13) rfl rfl rfl (fun q => PS_move rfl) ?_
 refine GL_gt (t := 13) rfl rfl rfl (fun q => PS_len_slice rfl Tryz.underlying35 (cvE rfl q)) ?_
 refine GL_gt (t := 13) rfl rfl rfl (fun q => PS_eql (cvE rfl q) rfl) ?_
 refine Gt (PS_and rfl rfl (fun h => h)) ?_
 refine Gm rfl ?_
 refine GL_gt (t := 18) rfl rfl rfl (fun q => PS_move rfl) ?_
 refine GL_gt (t := 18) rfl rfl rfl (fun q => by have q1 := q; (try simp at q1); exact PS_idxS is35 (by decide) (Kn.own (.tail _ (.head _))) (cvE rfl q) rfl (by omega) (by omega)) ?_
 refine GL_gt (t := 18) rfl rfl rfl (fun q => PS_fldS fa60_0 (cvE rfl q)) ?_
 refine GL_gt (t := 18) rfl rfl rfl (fun q => by have q1 := q; (try simp at q1); exact PS_ldF (cvE rfl q) tys3 Ing.Event.fl Ing.Event.l0 (Kn.own (.tail _ (.head _))) (by omega) rfl) ?_
 refine GL_gt (t := 18) rfl rfl rfl (fun q => PS_eql (cvE rfl q) rfl) ?_
 refine Gt (PS_and rfl rfl (fun h => h)) ?_
 refine Gm rfl ?_
 refine GL_gt (t := 25) rfl rfl rfl (fun q => PSf fa34_1 rfl) ?_
 refine GL_gt (t := 25) rfl rfl rfl (fun q => PS_indexAddr ia29 (cvE rfl q) rfl (by decide) (by decide)) ?_
 refine GL_gt (t := 25) rfl rfl rfl (fun q => PSf fa28_2 (cvE rfl q)) ?_
 refine GL_gt (t := 25) rfl rfl rfl (fun q => PS_load (cvE rfl q) tys3 (.head _) ((Land.l1.comp (Lens.arr (n := 9) Thing.fl (by decide) (by decide))).comp Thing.l2) rfl rfl) ?_
 refine GL_gt (t := 25) rfl rfl rfl (fun q => PS_eql (cvE rfl q) rfl) ?_
 refine Gt (PS_and rfl rfl (fun h => h)) ?_
 refine Ga rfl ?_
 refine Gn (.t1 0) ?_
 refine G_ret ?_
 refine GQ_ret rfl (.tmp rfl .nil) ?_
 intro w1 hS; refine ⟨?_, hS.toKeep⟩; exact congrArg Value.bool (by rw [y3, Turn.mug_0, Turn.mug_1, show (Turn.doR Land.new 0 Turn.mugO).2.1.getD (Int.toNat 0) default = (Turn.doR Land.new 0 Turn.mugO).2.1.getD 0 default from rfl, Turn.mug_2, Turn.mug_3]; rfl)
end Go.Proofs.YthaobbemigbcgaaGreatDoor
