/- What the functions that the law RulesDoes reaches compute: walks, part 3. No condition. -/
import Derived.Test.YthaobbemigbcgaaGreatDoorCards
import Derived.Test.YthaobbemigbcgaaGreatDoorTie
import Derived.Deep.DeepHandedRow
import Derived.Test.YthaobbemigbcgaaGreatDoorRows
import Derived.Test.YthaobbemigbcgaaGreatDoorRulesDoesEc3
import Derived.Test.YthaobbemigbcgaaGreatDoorRulesDoesRa1
import Derived.Test.YthaobbemigbcgaaGreatDoorRulesDoesRb1
import Derived.Test.YthaobbemigbcgaaGreatDoorRulesDoesWalks
import Derived.Test.YthaobbemigbcgaaGreatDoorRulesDoesWalks2
set_option linter.unusedSimpArgs false
set_option linter.unusedVariables false
set_option maxRecDepth 100000
set_option maxHeartbeats 1000000
namespace Go.Proofs.YthaobbemigbcgaaGreatDoor
open Go Go.Ing Go.RowKit Go.ChangeShapes Go.WideShapes Go.ChangeAt
theorem rules_turn_door_spec (b : Nat) (T : Turn) (g : Hd) (d : Int) (p : Bool) (k : Int) (hg : g.len = T.out.length) (hF : T.Fit) (hd : 0 ≤ d ∧ d < 6) (hn : T.out.length ≤ 90000) : Ctr Tryz.prog 65 #[.pointer (some ⟨b, 0, none⟩), .int .i64 d, .bool p, .int .i64 k] [Res.box b 53 (TurnV.enc ⟨T.w, T.b, g⟩), Res.own g 60 16 (T.out.flatMap Ing.Event.enc)] (fun v B => ∃ g' : Hd, v = .tuple #[] ∧ g'.len = (T.door d p k).out.length ∧ B = [Res.box b 53 (TurnV.enc ⟨(T.door d p k).w, (T.door d p k).b, g'⟩), Res.own g' 60 16 ((T.door d p k).out.flatMap Ing.Event.enc)]) := by
 intro w hS0
 have hb := hF.b
 have hr := hF.room
 have hx := hF.exit hd.1 hd.2
 have hop := Land.opposite_rng d
 refine Ret_body _ _ Tryz.func65 rfl rfl rfl (hS0) ?_
 refine G_seq ?_
 refine G_planN (N := 12) [0, 0, 2, 6, 14, 1, 33, 97, 255, 511, 1023, 2047] mix (by kernel_rfl) rfl ?_
 refine Pf 0 rfl (PS_move rfl) (Pf 1 rfl (PS_move rfl) (Pf 2 rfl (PSn rfl) (Pf 3 rfl (PSf fa53_1 rfl) ?_)))
 refine Pf 4 rfl (PS_load rfl tys3 (.head _) TurnV.l1 rfl rfl) ?_
 refine Pf 5 rfl (PSn rfl) (Pf 6 rfl (PSf fa53_0 rfl) (Pf 7 rfl (PSf fa34_2 rfl) ?_))
 refine Pf 8 rfl (PS_indexAddr ia32 rfl rfl (by first | omega | exact hb.1 | exact hb.2 | exact hr.1 | exact hr.2 | (dsimp only; omega)) (by first | omega | exact hb.1 | exact hb.2 | exact hr.1 | exact hr.2 | (dsimp only; omega))) ?_
 refine Pf 9 rfl (PSf fa31_3 rfl) ?_
 refine Pf 10 rfl (PS_load rfl tys3 (.head _) (((TurnV.l0.comp Land.l2).comp (Lens.ar (n := 6) Being.fl (by first | omega | exact hb | exact hr | (dsimp only; omega)))).comp Being.l3) rfl rfl) ?_
 refine Pf 11 rfl (PS_assign rfl) ?_
 refine Plan_end (by kernel_rfl) ?_
 refine GQ_sub (.t5 0 1 2 3 8) ?_
 refine GQ_then ?_
 refine Gs ?_
 refine Gm rfl (Gm rfl (Gm rfl (Gt (PSn rfl) (Gt (PSf fa53_0 rfl) (Gt (PSf fa34_0 rfl) ?_)))))
 refine Gt (PS_indexAddr ia26 rfl rfl (by first | omega | exact hb.1 | exact hb.2 | exact hr.1 | exact hr.2 | (dsimp only; omega)) (by first | omega | exact hb.1 | exact hb.2 | exact hr.1 | exact hr.2 | (dsimp only; omega))) ?_
 refine Gt (PSf fa25_2 rfl) ?_
 refine Gt (PS_indexAddr ia22 rfl rfl (by first | omega | exact hb.1 | exact hb.2 | exact hr.1 | exact hr.2 | (dsimp only; omega)) (by first | omega | exact hb.1 | exact hb.2 | exact hr.1 | exact hr.2 | (dsimp only; omega))) ?_
 refine Gt (PS_load rfl tys3 (.head _) ((((TurnV.l0.comp Land.l0).comp (Lens.ar (n := 6) Room.fl (by first | omega | exact hb | exact hr | (dsimp only; omega)))).comp Room.l2).comp (Lens.ar (n := 6) flI (by first | omega | exact hb | exact hr | (dsimp only; omega)))) rfl rfl) ?_
 refine Gt (PS_sub rfl rfl (IntWalk.i64_in _ (by first | omega | exact hb.1 | exact hb.2 | exact hr.1 | exact hr.2 | (dsimp only; omega)))) ?_
 refine Ga rfl ?_
 refine Gn (.t6 0 1 2 3 8 9) ?_
 refine G_block ?_
 refine Gs ?_
 refine Gm rfl ?_
 refine Gt (PS_lss rfl rfl) ?_
 refine Ga rfl ?_
 refine Gn (.t7 0 1 2 3 8 9 74) ?_
 refine Gc (fun c1 => ?_) (fun c1 => ?_)
 ·
  have c1p := c1; try simp only [kk] at c1p
  refine G_region ?_
  refine Gm rfl ?_
  refine GL_callL rfl cf45 (.cons rfl (.cons rfl .nil)) (.cons .head (.cons .head .nil)) (rules_turn_tell_spec _ _ _ _ hg hb (by omega)) (fun v1 B hv => ?_)
  obtain ⟨y2, rfl, y3, rfl⟩ := hv
  refine GL_nil (GQ_sub (.nil _) ?_)
  refine GQ_block ?_
  refine GQ_end rfl .nil ?_
  intro w1 hS
  have hS := (hS.perm (Pulls.perm (.cons .head (.cons .head .nil)))).headL
  have hq : T.door d p k = _ := (if_t c1)
  refine ⟨_, ⟨?gq1, rfl, ?hl1, ?hB1⟩, hS⟩
  case hB1 => rw [hq]; (try rfl)
  case hl1 => rw [hq]; assumption
 ·
  have c1p := c1; try simp only [kk] at c1p
  refine Gs ?_
  refine Gm rfl (Gm rfl (Gm rfl (Gt (PSn rfl) (Gt (PSf fa53_0 rfl) (Gt (PSf fa34_0 rfl) ?_)))))
  refine Gt (PS_indexAddr ia26 rfl rfl (by first | omega | exact hb.1 | exact hb.2 | exact hr.1 | exact hr.2 | (dsimp only; omega)) (by first | omega | exact hb.1 | exact hb.2 | exact hr.1 | exact hr.2 | (dsimp only; omega))) ?_
  refine Gt (PSf fa25_3 rfl) ?_
  refine Gt (PS_indexAddr ia23 rfl rfl (by first | omega | exact hb.1 | exact hb.2 | exact hr.1 | exact hr.2 | (dsimp only; omega)) (by first | omega | exact hb.1 | exact hb.2 | exact hr.1 | exact hr.2 | (dsimp only; omega))) ?_
  refine Gt (PS_load rfl tys4 (.head _) ((((TurnV.l0.comp Land.l0).comp (Lens.ar (n := 6) Room.fl (by first | omega | exact hb | exact hr | (dsimp only; omega)))).comp Room.l3).comp (Lens.ar (n := 6) flB (by first | omega | exact hb | exact hr | (dsimp only; omega)))) rfl rfl) ?_
  refine Gm rfl ?_
  refine Gt (PS_neq_bool Tryz.underlying4 rfl rfl) ?_
  refine Ga rfl ?_
  refine Gn (.t7 0 1 2 3 8 9 79) ?_
  refine Gc (fun c2 => ?_) (fun c2 => ?_)
  ·
   have c2p := c2; try simp only [kk] at c2p
   refine G_region ?_
   refine Gm rfl ?_
   refine GL_callL rfl cf45 (.cons rfl (.cons rfl .nil)) (.cons .head (.cons .head .nil)) (rules_turn_tell_spec _ _ _ _ hg hb (by omega)) (fun v4 B hv => ?_)
   obtain ⟨y5, rfl, y6, rfl⟩ := hv
   refine GL_nil (GQ_sub (.nil _) ?_)
   refine GQ_block ?_
   refine GQ_end rfl .nil ?_
   intro w1 hS
   have hS := (hS.perm (Pulls.perm (.cons .head (.cons .head .nil)))).headL
   have hq : T.door d p k = _ := ((if_f c1).trans (if_t c2))
   refine ⟨_, ⟨?gq2, rfl, ?hl2, ?hB2⟩, hS⟩
   case hB2 => rw [hq]; (try rfl)
   case hl2 => rw [hq]; assumption
  ·
   have c2p := c2; try simp only [kk] at c2p
   refine Gs ?_
   refine Gm rfl (Gm rfl (Gm rfl (Gm rfl ?_)))
   refine Gt (PS_not rfl) ?_
   refine Gt (PSn rfl) (Gt (PSf fa53_0 rfl) (Gt (PSf fa34_0 rfl) ?_))
   refine Gt (PS_indexAddr ia26 rfl rfl (by first | omega | exact hb.1 | exact hb.2 | exact hr.1 | exact hr.2 | (dsimp only; omega)) (by first | omega | exact hb.1 | exact hb.2 | exact hr.1 | exact hr.2 | (dsimp only; omega))) ?_
   refine Gt (PSf fa25_3 rfl) ?_
   refine Gt (PS_indexAddr ia23 rfl rfl (by first | omega | exact hb.1 | exact hb.2 | exact hr.1 | exact hr.2 | (dsimp only; omega)) (by first | omega | exact hb.1 | exact hb.2 | exact hr.1 | exact hr.2 | (dsimp only; omega))) ?_
   refine GL_unit (PU_store ((((TurnV.l0.comp Land.l0).comp (Lens.ar (n := 6) Room.fl (by first | omega | exact hb | exact hr | (dsimp only; omega)))).comp Room.l3).comp (Lens.ar (n := 6) flB (by first | omega | exact hb | exact hr | (dsimp only; omega)))) rfl rfl rfl sz4 rfl .head) ?_
   refine Gn (.t6 0 1 2 3 8 9) ?_
   refine Gss ?_
   refine Gm rfl ?_
   refine GL_pure rfl cf56 (.cons rfl .nil) (fun w hS => land_Opposite_spec _ w) ?_
   refine Ga rfl ?_
   refine Gn (.t6 0 2 3 8 9 10) ?_
   refine Gs ?_
   refine Gm rfl (Gm rfl (Gm rfl (Gt (PSn rfl) (Gt (PSf fa53_0 rfl) (Gt (PSf fa34_0 rfl) ?_)))))
   refine Gt (PS_indexAddr ia26 rfl rfl (by first | omega | exact hb.1 | exact hb.2 | exact hr.1 | exact hr.2 | (dsimp only; omega)) (by first | omega | exact hb.1 | exact hb.2 | exact hr.1 | exact hr.2 | (dsimp only; omega))) ?_
   refine Gt (PSf fa25_2 rfl) ?_
   refine Gt (PS_indexAddr ia22 rfl rfl (by first | omega | exact hb.1 | exact hb.2 | exact hr.1 | exact hr.2 | (dsimp only; omega)) (by first | omega | exact hb.1 | exact hb.2 | exact hr.1 | exact hr.2 | (dsimp only; omega))) ?_
   refine Gt (PS_load rfl tys3 (.head _) ((((TurnV.l0.comp Land.l0).comp (Lens.ar (n := 6) Room.fl (by first | omega | exact hb | exact hr | (dsimp only; omega)))).comp Room.l2).comp (Lens.ar (n := 6) flI (by first | omega | exact hb | exact hr | (dsimp only; omega)))) rfl rfl) ?_
   refine Gm rfl ?_
   refine Gt (PS_add rfl rfl (IntWalk.i64_in _ (by first | omega | exact hb.1 | exact hb.2 | exact hr.1 | exact hr.2 | (dsimp only; omega)))) ?_
   refine Gt (PS_eql rfl rfl) ?_
   refine Gn (.t6 0 2 3 9 10 58) ?_
   refine Gc (fun c3 => ?_) (fun c3 => ?_)
   ·
    have c3p := c3; try simp only [kk] at c3p
    refine G_region ?_
    refine Gm rfl (Gm rfl (Gm rfl (Gm rfl ?_)))
    refine Gt (PS_not rfl) ?_
    refine Gt (PSn rfl) (Gt (PSf fa53_0 rfl) (Gt (PSf fa34_0 rfl) ?_))
    refine Gt (PS_indexAddr ia26 rfl rfl (by first | omega | exact hb.1 | exact hb.2 | exact hr.1 | exact hr.2 | (dsimp only; omega)) (by first | omega | exact hb.1 | exact hb.2 | exact hr.1 | exact hr.2 | (dsimp only; omega))) ?_
    refine Gt (PSf fa25_3 rfl) ?_
    refine Gt (PS_indexAddr ia23 rfl rfl (by first | omega | exact hb.1 | exact hb.2 | exact hr.1 | exact hr.2 | (dsimp only; omega)) (by first | omega | exact hb.1 | exact hb.2 | exact hr.1 | exact hr.2 | (dsimp only; omega))) ?_
    refine GL_unit (PU_store ((((TurnV.l0.comp Land.l0).comp (Lens.ar (n := 6) Room.fl (by first | omega | exact hb | exact hr | (dsimp only; omega)))).comp Room.l3).comp (Lens.ar (n := 6) flB (by first | omega | exact hb | exact hr | (dsimp only; omega)))) rfl rfl rfl sz4 rfl .head) ?_
    refine Gn (.t2 0 3) ?_
    refine G_region ?_
    refine Gm rfl (Gm rfl ?_)
    refine Gt (PS_build pl60 zv60 rfl (.cons Ing.Event.l0 rfl rfl rfl (.cons Ing.Event.l3 rfl rfl rfl (.cons Ing.Event.l8 rfl rfl rfl .nil)))) ?_
    refine GL_callL rfl cf23 (.cons rfl (.cons rfl .nil)) (.cons .head (.cons .head .nil)) (rules_turn_happens_spec _ (Turn.setShut (T.setShut T.me.room d (!p)) ((T.w.rooms.at (T.w.beings.at T.b).room).exits.at d - 1) (Land.opposite d) (!p)) _ { Turn.evk k with thing := Turn.doorT } hg hb (show (-1 : Int) < 6 by decide) (show T.out.length ≤ 100000 by omega)) (fun v7 B hv => ?_)
    obtain ⟨y8, rfl, y9, rfl⟩ := hv
    refine GL_nil (GQ_sub (.nil _) ?_)
    refine GQ_block ?_
    refine GQ_end rfl .nil ?_
    intro w1 hS
    have hS := (hS.perm (Pulls.perm (.cons .head (.cons .head .nil)))).headL
    have hq : T.door d p k = _ := (show T.door d p k = _ from (if_f c1).trans (if_f c2)).trans (congrArg (fun q => Turn.happens q { Turn.evk k with thing := Turn.doorT }) (if_t c3))
    refine ⟨_, ⟨?gq3, rfl, ?hl3, ?hB3⟩, hS⟩
    case hB3 => rw [hq]; (try rfl)
    case hl3 => rw [hq]; assumption
   ·
    have c3p := c3; try simp only [kk] at c3p
    refine G_skip ?_
    refine GQ_sub (.t2 0 3) ?_
    refine GQ_then ?_
    refine G_region ?_
    refine Gm rfl (Gm rfl ?_)
    refine Gt (PS_build pl60 zv60 rfl (.cons Ing.Event.l0 rfl rfl rfl (.cons Ing.Event.l3 rfl rfl rfl (.cons Ing.Event.l8 rfl rfl rfl .nil)))) ?_
    refine GL_callL rfl cf23 (.cons rfl (.cons rfl .nil)) (.cons .head (.cons .head .nil)) (rules_turn_happens_spec _ (T.setShut T.me.room d (!p)) _ { Turn.evk k with thing := Turn.doorT } hg hb (show (-1 : Int) < 6 by decide) (show T.out.length ≤ 100000 by omega)) (fun v10 B hv => ?_)
    obtain ⟨y11, rfl, y12, rfl⟩ := hv
    refine GL_nil (GQ_sub (.nil _) ?_)
    refine GQ_block ?_
    refine GQ_end rfl .nil ?_
    intro w1 hS
    have hS := (hS.perm (Pulls.perm (.cons .head (.cons .head .nil)))).headL
    have hq : T.door d p k = _ := (show T.door d p k = _ from (if_f c1).trans (if_f c2)).trans (congrArg (fun q => Turn.happens q { Turn.evk k with thing := Turn.doorT }) (if_f c3))
    refine ⟨_, ⟨?gq4, rfl, ?hl4, ?hB4⟩, hS⟩
    case hB4 => rw [hq]; (try rfl)
    case hl4 => rw [hq]; assumption
theorem rules_turn_before_spec (b : Nat) (T : Turn) (g : Hd) (a : Bool) (i : Int) (p : Bool) (k : Int) (hg : g.len = T.out.length) (hb : 0 ≤ T.b ∧ T.b < 6) (hi : 0 ≤ i ∧ i < 9) (hn : T.out.length ≤ 90000) : Ctr Tryz.prog 66 #[.pointer (some ⟨b, 0, none⟩), .bool a, .int .i64 i, .bool p, .int .i64 k] [Res.box b 53 (TurnV.enc ⟨T.w, T.b, g⟩), Res.own g 60 16 (T.out.flatMap Ing.Event.enc)] (fun v B => ∃ g' : Hd, v = .tuple #[] ∧ g'.len = (T.before a i p k).out.length ∧ B = [Res.box b 53 (TurnV.enc ⟨(T.before a i p k).w, (T.before a i p k).b, g'⟩), Res.own g' 60 16 ((T.before a i p k).out.flatMap Ing.Event.enc)]) := by
 intro w hS0
 refine Ret_body _ _ Tryz.func66 rfl rfl rfl (hS0) ?_
 refine Gss ?_
 refine Gm rfl ?_
 refine Gn (.t5 0 2 3 4 10) ?_
 refine Gc (fun c1 => ?_) (fun c1 => ?_)
 ·
  have c1p := c1; try simp only [kk] at c1p
  refine Gs ?_
  refine Gm rfl (Gm rfl (Gm rfl (Gt (PSn rfl) (Gt (PSf fa53_0 rfl) (Gt (PSf fa34_1 rfl) ?_)))))
  refine Gt (PS_indexAddr ia29 rfl rfl (by first | omega | exact hb.1 | exact hb.2 | (dsimp only; omega)) (by first | omega | exact hb.1 | exact hb.2 | (dsimp only; omega))) ?_
  refine Gt (PSf fa28_4 rfl) ?_
  refine GL_unit (PU_store (((TurnV.l0.comp Land.l1).comp (Lens.ar (n := 9) Thing.fl (by first | omega | exact hb | (dsimp only; omega)))).comp Thing.l4) rfl rfl rfl sz4 rfl .head) ?_
  refine Gn (.t3 0 2 4) ?_
  refine Gs ?_
  refine Gm rfl (Gm rfl (Gm rfl ?_))
  refine GL_callL rfl cf61 (.cons rfl (.cons rfl (.cons rfl .nil))) (.cons .head (.cons .head .nil)) (rules_turn_thing_spec _ (T.setThing i { T.w.things.at i with on := p }) _ k i hg hb hi (show T.out.length ≤ 100000 by omega)) (fun v1 B hv => ?_)
  obtain ⟨y2, rfl, y3, rfl⟩ := hv
  refine Gn (.nil _) ?_
  refine G_ret ?_
  refine GQ_then_ret ?_
  refine GQ_ret rfl .nil ?_
  intro w1 hS
  have hS := (hS.perm (Pulls.perm (.cons .head (.cons .head .nil)))).headL
  have hq : T.before a i p k = _ := (if_t c1)
  refine ⟨_, ⟨?gq1, rfl, ?hl1, ?hB1⟩, hS⟩
  case hB1 => rw [hq]; (try rfl)
  case hl1 => rw [hq]; assumption
 ·
  have c1p := c1; try simp only [kk] at c1p
  refine G_skip ?_
  refine GQ_sub (.t4 0 2 3 4) ?_
  refine GQ_then ?_
  refine Gs ?_
  refine Gm rfl (Gm rfl (Gm rfl ?_))
  refine GL_callL rfl cf61 (.cons rfl (.cons rfl (.cons rfl .nil))) (.cons .head (.cons .head .nil)) (rules_turn_thing_spec _ T _ k i hg hb hi (show T.out.length ≤ 100000 by omega)) (fun v4 B hv => ?_)
  obtain ⟨y5, rfl, y6, rfl⟩ := hv
  refine Gn (.t3 0 2 3) ?_
  refine G_region ?_
  refine Gm rfl (Gm rfl (Gm rfl (Gt (PSn rfl) (Gt (PSf fa53_0 rfl) (Gt (PSf fa34_1 rfl) ?_)))))
  refine Gt (PS_indexAddr ia29 rfl rfl (by first | omega | exact hb.1 | exact hb.2 | (dsimp only; omega)) (by first | omega | exact hb.1 | exact hb.2 | (dsimp only; omega))) ?_
  refine Gt (PSf fa28_4 rfl) ?_
  refine GL_unit (PU_store (((TurnV.l0.comp Land.l1).comp (Lens.ar (n := 9) Thing.fl (by first | omega | exact hb | (dsimp only; omega)))).comp Thing.l4) rfl rfl rfl sz4 rfl .head) ?_
  refine GL_nil ?_
  refine GQ_end rfl .nil ?_
  intro w1 hS
  have hS := (hS.perm (Pulls.perm (.cons .head (.cons .head .nil)))).headL
  have hq : T.before a i p k = _ := (if_f c1)
  refine ⟨_, ⟨?gq2, rfl, ?hl2, ?hB2⟩, hS⟩
  case hB2 => rw [hq]; (try rfl)
  case hl2 => rw [hq]; assumption
theorem rules_turn_set_spec (b : Nat) (T : Turn) (g : Hd) (o : Order) (hg : g.len = T.out.length) (hF : T.Fit) (hv : 12 ≤ o.verb ∧ o.verb ≤ 17) (hn : T.out.length ≤ 80000) : CtrR Tryz.prog 34 #[.pointer (some ⟨b, 0, none⟩), .agg o.enc.toArray] [Res.box b 53 (TurnV.enc ⟨T.w, T.b, g⟩), Res.own g 60 16 (T.out.flatMap Ing.Event.enc)] (fun w => (GV 1 Land.verbsV w ∧ 1 ∉ feet [Res.box b 53 (TurnV.enc ⟨T.w, T.b, g⟩), Res.own g 60 16 (T.out.flatMap Ing.Event.enc)])) (fun v B => ∃ g' : Hd, v = .tuple #[] ∧ g'.len = (T.set o).out.length ∧ B = [Res.box b 53 (TurnV.enc ⟨(T.set o).w, (T.set o).b, g'⟩), Res.own g' 60 16 ((T.set o).out.flatMap Ing.Event.enc)]) := by
 intro w hS0 hH
 obtain ⟨gl0, gm0⟩ := hH
 have hb := hF.b
 have hr := hF.room
 have ho9 := T.own_len
 have hs9 := T.seen_len
 refine Ret_body _ _ Tryz.func34 rfl rfl rfl (hS0) ?_
 refine Gs ?_
 refine GL_box rfl rfl rfl (fun b1 => ?_)
 refine Gn (.t2 0 3) ?_
 refine Gs ?_
 refine Gt (PSf fa47_0 rfl) ?_
 refine Gt (PS_load rfl tys3 (.head _) Order.l0 rfl rfl) ?_
 refine Gt (PS_eql rfl rfl) ?_
 refine Gm rfl ?_
 refine GL_gf (t := 13) rfl rfl rfl (fun q => PSf fa47_0 rfl) ?_
 refine GL_gf (t := 13) rfl rfl rfl (fun q => PS_load (cF rfl q) tys3 (.head _) Order.l0 rfl rfl) ?_
 refine GL_gf (t := 13) rfl rfl rfl (fun q => PS_eql (cF rfl q) rfl) ?_
 refine Gt (PS_or rfl rfl (fun h => by rw [h]; rfl)) ?_
 refine Gm rfl ?_
 refine GL_gf (t := 18) rfl rfl rfl (fun q => PSf fa47_0 rfl) ?_
 refine GL_gf (t := 18) rfl rfl rfl (fun q => PS_load (cF rfl q) tys3 (.head _) Order.l0 rfl rfl) ?_
 refine GL_gf (t := 18) rfl rfl rfl (fun q => PS_eql (cF rfl q) rfl) ?_
 refine Gt (PS_or rfl rfl (fun h => by rw [h]; rfl)) ?_
 refine Ga rfl ?_
 refine Gn (.t3 0 3 4) ?_
 refine Gs ?_
 refine Ga rfl (Ga rfl ?_)
 refine GL_nil ?_
 refine GQ_then ?_
 refine G_cut2_ (Lm := []) (fun (kd : Int) (ev : Int) => kd = Turn.setKind o.verb ∧ ev = Turn.setEv o.verb) (fun (kd : Int) (ev : Int) => [(5, .int .i64 kd), (6, .int .i64 ev)]) (fun (kd : Int) (ev : Int) => []) (.t3 0 3 4) rfl ?_ (fun kd ev hC => ?_)
 ·
  refine Gs ?_
  refine Gt (PSf fa47_0 rfl) ?_
  refine Gt (PS_load rfl tys3 (.head _) Order.l0 rfl rfl) ?_
  refine Gn (.t6 0 3 4 5 6 24) ?_
  refine G_block ?_
  refine Gs ?_
  refine Gt (PS_eql rfl rfl) ?_
  refine Ga rfl ?_
  refine Gn (.t7 0 3 4 5 6 24 25) ?_
  refine Gc (fun c1 => ?_) (fun c1 => ?_)
  ·
   have c1p := c1; try simp only [kk] at c1p
   refine G_region ?_
   refine Ga rfl ?_
   refine GL_nil (GQ_sub (.t5 0 3 4 5 6) ?_)
   refine GQ_block ?_
   refine GQ_at2_ _ _ ?_ (.t5 5 6 0 3 4) (.refl _)
   · have hv6 : o.verb = 12 ∨ o.verb = 13 ∨ o.verb = 14 ∨ o.verb = 15 ∨ o.verb = 16 ∨ o.verb = 17 := by omega
     rcases hv6 with e | e | e | e | e | e <;> (try rw [e] at c1) <;> first | exact ⟨by rw [e]; rfl, by rw [e]; rfl⟩ | exact absurd c1 (by decide)
  ·
   have c1p := c1; try simp only [kk] at c1p
   refine Gss ?_
   refine Gt (PS_eql rfl rfl) ?_
   refine Ga rfl ?_
   refine Gn (.t7 0 3 4 5 6 24 27) ?_
   refine Gc (fun c2 => ?_) (fun c2 => ?_)
   ·
    have c2p := c2; try simp only [kk] at c2p
    refine G_skip ?_
    refine GQ_then ?_
    refine G_true rfl c2 ?_
    refine Gs ?_
    refine Ga rfl (Ga rfl ?_)
    refine Gn (.t5 0 3 4 5 6) ?_
    refine Gs ?_
    refine Gm rfl ?_
    refine Gt (PS_not rfl) ?_
    refine Gn (.t6 0 3 4 5 6 31) ?_
    refine Gc (fun c3 => ?_) (fun c3 => ?_)
    ·
     have c3p := c3; try simp only [kk] at c3p
     refine G_region ?_
     refine Ga rfl ?_
     refine GL_nil (GQ_sub (.t5 0 3 4 5 6) ?_)
     refine GQ_block ?_
     refine GQ_at2_ _ _ ?_ (.t5 5 6 0 3 4) (.refl _)
     · have hv6 : o.verb = 12 ∨ o.verb = 13 ∨ o.verb = 14 ∨ o.verb = 15 ∨ o.verb = 16 ∨ o.verb = 17 := by omega
       rcases hv6 with e | e | e | e | e | e <;> (try rw [e] at c1) <;> (try rw [e] at c2) <;> (try rw [e] at c3) <;> first | exact ⟨by rw [e]; rfl, by rw [e]; rfl⟩ | exact absurd c1 (by decide) | exact absurd c2 (by decide) | exact absurd c3 (by decide)
    ·
     have c3p := c3; try simp only [kk] at c3p
     refine G_skip ?_
     refine GQ_sub (.t5 0 3 4 5 6) ?_
     refine GQ_block ?_
     refine GQ_at2_ _ _ ?_ (.t5 5 6 0 3 4) (.refl _)
     · have hv6 : o.verb = 12 ∨ o.verb = 13 ∨ o.verb = 14 ∨ o.verb = 15 ∨ o.verb = 16 ∨ o.verb = 17 := by omega
       rcases hv6 with e | e | e | e | e | e <;> (try rw [e] at c1) <;> (try rw [e] at c2) <;> (try rw [e] at c3) <;> first | exact ⟨by rw [e]; rfl, by rw [e]; rfl⟩ | exact absurd c1 (by decide) | exact absurd c2 (by decide) | exact absurd c3 (by decide)
   ·
    have c2p := c2; try simp only [kk] at c2p
    refine G_region ?_
    refine Gt (PS_eql rfl rfl) ?_
    refine Ga rfl ?_
    refine Gn (.t7 0 3 4 5 6 24 27) ?_
    refine Gc (fun c4 => ?_) (fun c4 => ?_)
    ·
     have c4p := c4; try simp only [kk] at c4p
     refine Gs ?_
     refine Ga rfl (Ga rfl ?_)
     refine Gn (.t5 0 3 4 5 6) ?_
     refine Gs ?_
     refine Gm rfl ?_
     refine Gt (PS_not rfl) ?_
     refine Gn (.t6 0 3 4 5 6 31) ?_
     refine Gc (fun c5 => ?_) (fun c5 => ?_)
     ·
      have c5p := c5; try simp only [kk] at c5p
      refine G_region ?_
      refine Ga rfl ?_
      refine GL_nil (GQ_sub (.t5 0 3 4 5 6) ?_)
      refine GQ_block ?_
      refine GQ_at2_ _ _ ?_ (.t5 5 6 0 3 4) (.refl _)
      · have hv6 : o.verb = 12 ∨ o.verb = 13 ∨ o.verb = 14 ∨ o.verb = 15 ∨ o.verb = 16 ∨ o.verb = 17 := by omega
        rcases hv6 with e | e | e | e | e | e <;> (try rw [e] at c1) <;> (try rw [e] at c2) <;> (try rw [e] at c4) <;> (try rw [e] at c5) <;> first | exact ⟨by rw [e]; rfl, by rw [e]; rfl⟩ | exact absurd c1 (by decide) | exact absurd c2 (by decide) | exact absurd c4 (by decide) | exact absurd c5 (by decide)
     ·
      have c5p := c5; try simp only [kk] at c5p
      refine G_skip ?_
      refine GQ_sub (.t5 0 3 4 5 6) ?_
      refine GQ_block ?_
      refine GQ_at2_ _ _ ?_ (.t5 5 6 0 3 4) (.refl _)
      · have hv6 : o.verb = 12 ∨ o.verb = 13 ∨ o.verb = 14 ∨ o.verb = 15 ∨ o.verb = 16 ∨ o.verb = 17 := by omega
        rcases hv6 with e | e | e | e | e | e <;> (try rw [e] at c1) <;> (try rw [e] at c2) <;> (try rw [e] at c4) <;> (try rw [e] at c5) <;> first | exact ⟨by rw [e]; rfl, by rw [e]; rfl⟩ | exact absurd c1 (by decide) | exact absurd c2 (by decide) | exact absurd c4 (by decide) | exact absurd c5 (by decide)
    ·
     have c4p := c4; try simp only [kk] at c4p
     refine Gss ?_
     refine Gt (PS_eql rfl rfl) ?_
     refine Ga rfl ?_
     refine Gn (.t7 0 3 4 5 6 24 32) ?_
     refine Gc (fun c6 => ?_) (fun c6 => ?_)
     ·
      have c6p := c6; try simp only [kk] at c6p
      refine G_skip ?_
      refine GQ_sub (.t6 0 3 4 5 6 32) ?_
      refine GQ_then ?_
      refine G_true rfl c6 ?_
      refine Gs ?_
      refine Ga rfl (Ga rfl ?_)
      refine Gn (.t5 0 3 4 5 6) ?_
      refine Gs ?_
      refine Gm rfl ?_
      refine Gt (PS_not rfl) ?_
      refine Gn (.t6 0 3 4 5 6 36) ?_
      refine Gc (fun c7 => ?_) (fun c7 => ?_)
      ·
       have c7p := c7; try simp only [kk] at c7p
       refine G_region ?_
       refine Ga rfl ?_
       refine GL_nil (GQ_sub (.t5 0 3 4 5 6) ?_)
       refine GQ_block ?_
       refine GQ_at2_ _ _ ?_ (.t5 5 6 0 3 4) (.refl _)
       · have hv6 : o.verb = 12 ∨ o.verb = 13 ∨ o.verb = 14 ∨ o.verb = 15 ∨ o.verb = 16 ∨ o.verb = 17 := by omega
         rcases hv6 with e | e | e | e | e | e <;> (try rw [e] at c1) <;> (try rw [e] at c2) <;> (try rw [e] at c4) <;> (try rw [e] at c6) <;> (try rw [e] at c7) <;> first | exact ⟨by rw [e]; rfl, by rw [e]; rfl⟩ | exact absurd c1 (by decide) | exact absurd c2 (by decide) | exact absurd c4 (by decide) | exact absurd c6 (by decide) | exact absurd c7 (by decide)
      ·
       have c7p := c7; try simp only [kk] at c7p
       refine G_skip ?_
       refine GQ_sub (.t5 0 3 4 5 6) ?_
       refine GQ_block ?_
       refine GQ_at2_ _ _ ?_ (.t5 5 6 0 3 4) (.refl _)
       · have hv6 : o.verb = 12 ∨ o.verb = 13 ∨ o.verb = 14 ∨ o.verb = 15 ∨ o.verb = 16 ∨ o.verb = 17 := by omega
         rcases hv6 with e | e | e | e | e | e <;> (try rw [e] at c1) <;> (try rw [e] at c2) <;> (try rw [e] at c4) <;> (try rw [e] at c6) <;> (try rw [e] at c7) <;> first | exact ⟨by rw [e]; rfl, by rw [e]; rfl⟩ | exact absurd c1 (by decide) | exact absurd c2 (by decide) | exact absurd c4 (by decide) | exact absurd c6 (by decide) | exact absurd c7 (by decide)
     ·
      have c6p := c6; try simp only [kk] at c6p
      refine G_region ?_
      refine Gt (PS_eql rfl rfl) ?_
      refine Ga rfl ?_
      refine Gn (.t6 0 3 4 5 6 32) ?_
      refine Gc (fun c8 => ?_) (fun c8 => ?_)
      ·
       have c8p := c8; try simp only [kk] at c8p
       refine Gs ?_
       refine Ga rfl (Ga rfl ?_)
       refine Gn (.t5 0 3 4 5 6) ?_
       refine Gs ?_
       refine Gm rfl ?_
       refine Gt (PS_not rfl) ?_
       refine Gn (.t6 0 3 4 5 6 36) ?_
       refine Gc (fun c9 => ?_) (fun c9 => ?_)
       ·
        have c9p := c9; try simp only [kk] at c9p
        refine G_region ?_
        refine Ga rfl ?_
        refine GL_nil (GQ_sub (.t5 0 3 4 5 6) ?_)
        refine GQ_block ?_
        refine GQ_at2_ _ _ ?_ (.t5 5 6 0 3 4) (.refl _)
        · have hv6 : o.verb = 12 ∨ o.verb = 13 ∨ o.verb = 14 ∨ o.verb = 15 ∨ o.verb = 16 ∨ o.verb = 17 := by omega
          rcases hv6 with e | e | e | e | e | e <;> (try rw [e] at c1) <;> (try rw [e] at c2) <;> (try rw [e] at c4) <;> (try rw [e] at c6) <;> (try rw [e] at c8) <;> (try rw [e] at c9) <;> first | exact ⟨by rw [e]; rfl, by rw [e]; rfl⟩ | exact absurd c1 (by decide) | exact absurd c2 (by decide) | exact absurd c4 (by decide) | exact absurd c6 (by decide) | exact absurd c8 (by decide) | exact absurd c9 (by decide)
       ·
        have c9p := c9; try simp only [kk] at c9p
        refine G_skip ?_
        refine GQ_sub (.t5 0 3 4 5 6) ?_
        refine GQ_block ?_
        refine GQ_at2_ _ _ ?_ (.t5 5 6 0 3 4) (.refl _)
        · have hv6 : o.verb = 12 ∨ o.verb = 13 ∨ o.verb = 14 ∨ o.verb = 15 ∨ o.verb = 16 ∨ o.verb = 17 := by omega
          rcases hv6 with e | e | e | e | e | e <;> (try rw [e] at c1) <;> (try rw [e] at c2) <;> (try rw [e] at c4) <;> (try rw [e] at c6) <;> (try rw [e] at c8) <;> (try rw [e] at c9) <;> first | exact ⟨by rw [e]; rfl, by rw [e]; rfl⟩ | exact absurd c1 (by decide) | exact absurd c2 (by decide) | exact absurd c4 (by decide) | exact absurd c6 (by decide) | exact absurd c8 (by decide) | exact absurd c9 (by decide)
      ·
       have c8p := c8; try simp only [kk] at c8p
       refine G_skip ?_
       refine GQ_sub (.t5 0 3 4 5 6) ?_
       refine GQ_block ?_
       refine GQ_at2_ _ _ ?_ (.t5 5 6 0 3 4) (.refl _)
       · have hv6 : o.verb = 12 ∨ o.verb = 13 ∨ o.verb = 14 ∨ o.verb = 15 ∨ o.verb = 16 ∨ o.verb = 17 := by omega
         rcases hv6 with e | e | e | e | e | e <;> (try rw [e] at c1) <;> (try rw [e] at c2) <;> (try rw [e] at c4) <;> (try rw [e] at c6) <;> (try rw [e] at c8) <;> first | exact ⟨by rw [e]; rfl, by rw [e]; rfl⟩ | exact absurd c1 (by decide) | exact absurd c2 (by decide) | exact absurd c4 (by decide) | exact absurd c6 (by decide) | exact absurd c8 (by decide)
 ·
  obtain ⟨rfl, rfl⟩ := hC
  refine Gss ?_
  refine Gt (PSf fa47_3 rfl) ?_
  refine Gt (PS_load rfl tys9 (.head _) Order.l3 rfl rfl) ?_
  refine GL_pure rfl cf64 (.cons rfl .nil) (fun w hS => words_Direction_spec _ w (gl0.stM gm0 hS)) ?_
  refine Gm rfl ?_
  refine Gt (PS_extract rfl rfl) ?_
  refine Gt (PS_extract rfl rfl) ?_
  refine Ga rfl (Ga rfl ?_)
  refine Gn (.t7 0 3 4 5 6 7 8) ?_
  refine Gs ?_
  refine Gm rfl (Gm rfl ?_)
  refine GL_gt (t := 44) rfl rfl rfl (fun q => PS_move rfl) ?_
  refine GL_gt (t := 44) rfl rfl rfl (fun q => PS_eql (cvE rfl q) rfl) ?_
  refine Gt (PS_and rfl rfl (fun h => h)) ?_
  refine Gn (.t7 0 3 4 5 6 7 47) ?_
  refine Gc (fun c10 => ?_) (fun c10 => ?_)
  ·
   have c10p := c10; try simp only [kk] at c10p
   refine Gs ?_
   refine Gm rfl (Gm rfl (Gm rfl (Gm rfl ?_)))
   refine GL_callL rfl cf65 (.cons rfl (.cons rfl (.cons rfl (.cons rfl .nil)))) (.cons (.tail .head) (.cons (.tail .head) .nil)) (rules_turn_door_spec _ T _ _ _ _ hg hF (Words.dir_rng (Bool.and_eq_true_iff.1 c10).1) (by omega)) (fun v1 B hv => ?_)
   obtain ⟨y2, rfl, y3, rfl⟩ := hv
   refine Gn (.nil _) ?_
   refine G_ret ?_
   refine GQ_then_ret ?_
   refine GQ_ret rfl .nil ?_
   intro w1 hS
   have hS := (hS.perm (Pulls.perm (.cons .head (.cons .head .nil)))).headL
   have hq : T.set o = _ := (if_t c10)
   refine ⟨_, ⟨?gq1, rfl, ?hl1, ?hB1⟩, hS⟩
   case hB1 => rw [hq]; (try rfl)
   case hl1 => rw [hq]; assumption
  ·
   have c10p := c10; try simp only [kk] at c10p
   refine G_skip ?_
   refine GQ_sub (.t5 0 3 4 5 6) ?_
   refine GQ_then ?_
   refine Gs ?_
   refine Gm rfl ?_
   refine GL_callL rfl cf62 (.cons rfl .nil) (.cons (.tail .head) .nil) (rules_turn_own_spec _ T _ hF) (fun v4 B hv => ?_)
   obtain ⟨y5, rfl, y6, rfl⟩ := hv
   refine Ga rfl ?_
   refine Gn (.t6 0 3 4 5 6 9) ?_
   refine Gss ?_
   refine Gm rfl ?_
   refine Gt (PS_eql rfl rfl) ?_
   refine Gn (.t7 0 3 4 5 6 9 56) ?_
   refine Gc (fun c11 => ?_) (fun c11 => ?_)
   ·
    have c11p := c11; try simp only [kk] at c11p
    refine G_region ?_
    refine Gm rfl (Gm rfl ?_)
    refine GL_callL rfl cf58 (.cons rfl .nil) (.cons .head .nil) (rules_turn_seen_spec _ T _ hF) (fun v8 B hv => ?_)
    obtain ⟨y9, rfl, y10, rfl⟩ := hv
    refine GL_appendF flI rfl Tryz.underlying66 sz3 zv3 rfl by3 (by decide) (by decide) rfl rfl (fun w hS => Src.sliceT Tryz.underlying66 ((Kn.own (.tail _ (.head _))) w hS)) (by (try dsimp only); omega) (fun _ => (.tail (.tail .head))) (fun h12 h12l h12z => ?_)
    refine Ga rfl ?_
    refine Gn (.t6 0 3 4 5 6 9) ?_
    refine Gs ?_
    refine Gm rfl (Gm rfl (Gt (PSf fa47_1 rfl) ?_))
    refine Gt (PS_load rfl tys3 (.tail _ (.tail _ (.tail _ (.head _)))) Order.l1 rfl rfl) ?_
    refine Gt (PS_max2 rfl rfl) ?_
    refine Gt (PSf fa47_3 rfl) ?_
    refine Gt (PS_load rfl tys9 (.tail _ (.tail _ (.tail _ (.head _)))) Order.l3 rfl rfl) ?_
    refine GL_callL rfl cf60 (.cons rfl (.cons rfl (.cons rfl (.cons rfl (.cons rfl .nil))))) (.cons .head (.cons (.tail .head) .nil)) (rules_turn_pick_spec _ T _ _ (T.own ++ T.seen) _ _ _ hF (by rw [List.length_append]; omega) (by rw [List.length_append]; omega) (fun i hi => Turn.at_hand hi)) (fun v13 B hv => ?_)
    obtain ⟨y14, rfl, y15, rfl⟩ := hv
    refine Ga rfl ?_
    refine Gn (.t5 0 4 5 6 9) ?_
    refine G_block ?_
    refine G_seq ?_
    have hx0 := Turn.getD_rng (l := (Turn.pickL T.w (T.own ++ T.seen) (max o.nth 1) o.name false)) (fun i hi => Turn.at_hand (Turn.pickL_mem hi))
    refine G_planN (N := 18) [0, 1, 3, 7, 15, 15, 47, 111, 31, 287, 799, 2047, 4095, 8191, 15, 32767, 65535, 131071] mix (by kernel_rfl) rfl ?_
    refine Pf 0 rfl (PS_move rfl) ?_
    refine Pf 1 rfl (PS_len_slice rfl Tryz.underlying66 rfl) ?_
    refine Pf 2 rfl (PS_eql rfl rfl) ?_
    refine Pf 3 rfl (PS_move rfl) ?_
    refine Pgf 4 82 rfl rfl rfl (fun q => PS_move rfl) ?_
    refine Pgf 5 82 rfl rfl rfl (fun q => PS_move rfl) ?_
    refine Plan_float 6 rfl rfl (by kernel_rfl) (OK_gf (t := 82) rfl rfl (fun q => by have q1 := q; (try simp at q1); exact EX_s (PS_idxS is66 (by decide) (Kn.own (.tail _ (.tail _ (.head _)))) (cF rfl q) rfl (by omega) (by first | omega | (simp at q ⊢; omega))))) ?_
    refine Plan_float 7 rfl rfl (by kernel_rfl) (OK_gf (t := 82) rfl rfl (fun q => by have q1 := q; (try simp at q1); exact EX_s (PS_ldInt (cF rfl q) tys3 (Kn.own (.tail _ (.tail _ (.head _)))) (by first | omega | (simp at q ⊢; omega))))) ?_
    refine Pgf 8 82 rfl rfl rfl (fun q => PSn (cF rfl q)) ?_
    refine Pgf 9 82 rfl rfl rfl (fun q => PSf fa53_0 (cF rfl q)) ?_
    refine Pgf 10 82 rfl rfl rfl (fun q => PSf fa34_1 (cF rfl q)) ?_
    refine Plan_float 11 rfl rfl (by kernel_rfl) (OK_gf (t := 82) rfl rfl (fun q => by have q1 := q; (try simp at q1); exact EX_s (PS_indexAddr ia29 (cF rfl q) (cF rfl q) (by first | omega | exact hb.1 | exact hb.2 | exact hx0.1 | exact hx0.2 | (dsimp only; omega)) (by first | omega | exact hb.1 | exact hb.2 | exact hx0.1 | exact hx0.2 | (dsimp only; omega))))) ?_
    refine Pgf 12 82 rfl rfl rfl (fun q => PSf fa28_1 (cF rfl q)) ?_
    refine Plan_float 13 rfl rfl (by kernel_rfl) (OK_gf (t := 82) rfl rfl (fun q => by have q1 := q; (try simp at q1); exact EX_s (PS_load (cF rfl q) tys3 (.head _) (((TurnV.l0.comp Land.l1).comp (Lens.ar (n := 9) Thing.fl (by first | omega | exact hb | exact hx0 | (dsimp only; omega)))).comp Thing.l1) rfl rfl))) ?_
    refine Pgf 14 82 rfl rfl rfl (fun q => PS_move rfl) ?_
    refine Pgf 15 82 rfl rfl rfl (fun q => PS_neq (cF rfl q) (cF rfl q)) ?_
    refine Pf 16 rfl (PS_or rfl rfl (fun h => by rw [h]; rfl)) ?_
    refine Pf 17 rfl (PS_assign rfl) ?_
    refine Plan_end (by kernel_rfl) ?_
    refine GQ_sub (.t6 0 4 5 6 9 78) ?_
    refine GQ_then ?_
    refine Gc (fun c12 => ?_) (fun c12 => ?_)
    ·
     have c12p := c12; try simp only [kk] at c12p
     rw [y15] at c12 c12p
     have hsl : T.setL o = (Turn.pickL T.w (T.own ++ T.seen) (max o.nth 1) o.name false) := congrArg (fun q => Turn.pickL T.w q _ _ _) (if_t c11)
     refine G_region ?_
     refine Gm rfl ?_
     refine GL_callL rfl cf45 (.cons rfl (.cons rfl .nil)) (.cons .head (.cons (.tail (.tail (.tail (.tail .head)))) .nil)) (rules_turn_tell_spec _ _ _ _ hg hb (by omega)) (fun v17 B hv => ?_)
     obtain ⟨y18, rfl, y19, rfl⟩ := hv
     refine GL_nil (GQ_sub (.nil _) ?_)
     refine GQ_block ?_
     refine GQ_end rfl .nil ?_
     intro w1 hS
     have hS := (hS.perm (Pulls.perm (.cons .head (.cons .head .nil)))).headL
     have d0 : (decide (((T.setL o).length : Int) = 0) || !decide ((T.w.things.at ((T.setL o).getD 0 0)).kind = Turn.setKind o.verb)) = true := by rw [hsl]; exact c12
     have hq : T.set o = _ := (if_f c10).trans (if_t d0)
     (try rw [hsl] at hq)
     refine ⟨_, ⟨?gq2, rfl, ?hl2, ?hB2⟩, hS⟩
     case hB2 => rw [hq]; (try rfl)
     case hl2 => rw [hq]; assumption
    ·
     have c12p := c12; try simp only [kk] at c12p
     rw [y15] at c12 c12p
     have hsl : T.setL o = (Turn.pickL T.w (T.own ++ T.seen) (max o.nth 1) o.name false) := congrArg (fun q => Turn.pickL T.w q _ _ _) (if_t c11)
     refine G_seq ?_
     refine G_planN (N := 13) [0, 0, 2, 6, 1, 17, 49, 127, 255, 511, 0, 2047, 4095] mix (by kernel_rfl) rfl ?_
     refine Pf 0 rfl (PS_move rfl) (Pf 1 rfl (PS_move rfl) ?_)
     refine Pf 2 rfl (PS_idxS is66 (by decide) (Kn.own (.tail _ (.tail _ (.head _)))) rfl rfl (by omega) (by first | omega | (simp at q ⊢; omega))) ?_
     refine Pf 3 rfl (PS_ldInt rfl tys3 (Kn.own (.tail _ (.tail _ (.head _)))) (by first | omega | (simp at q ⊢; omega))) ?_
     refine Pf 4 rfl (PSn rfl) (Pf 5 rfl (PSf fa53_0 rfl) (Pf 6 rfl (PSf fa34_1 rfl) ?_))
     refine Pf 7 rfl (PS_indexAddr ia29 rfl rfl (by first | omega | exact hb.1 | exact hb.2 | exact hx0.1 | exact hx0.2 | (dsimp only; omega)) (by first | omega | exact hb.1 | exact hb.2 | exact hx0.1 | exact hx0.2 | (dsimp only; omega))) ?_
     refine Pf 8 rfl (PSf fa28_4 rfl) ?_
     refine Pf 9 rfl (PS_load rfl tys4 (.head _) (((TurnV.l0.comp Land.l1).comp (Lens.ar (n := 9) Thing.fl (by first | omega | exact hb | exact hx0 | (dsimp only; omega)))).comp Thing.l4) rfl rfl) ?_
     refine Pf 10 rfl (PS_move rfl) ?_
     refine Pf 11 rfl (PS_eql_bool Tryz.underlying4 rfl rfl) ?_
     refine Pf 12 rfl (PS_assign rfl) ?_
     refine Plan_end (by kernel_rfl) ?_
     refine GQ_sub (.t6 0 4 5 6 9 98) ?_
     refine GQ_then ?_
     refine Gc (fun c13 => ?_) (fun c13 => ?_)
     ·
      have c13p := c13; try simp only [kk] at c13p
      refine G_region ?_
      refine Gm rfl ?_
      refine GL_callL rfl cf45 (.cons rfl (.cons rfl .nil)) (.cons .head (.cons (.tail (.tail (.tail (.tail .head)))) .nil)) (rules_turn_tell_spec _ _ _ _ hg hb (by omega)) (fun v20 B hv => ?_)
      obtain ⟨y21, rfl, y22, rfl⟩ := hv
      refine GL_nil (GQ_sub (.nil _) ?_)
      refine GQ_block ?_
      refine GQ_end rfl .nil ?_
      intro w1 hS
      have hS := (hS.perm (Pulls.perm (.cons .head (.cons .head .nil)))).headL
      have d0 : (decide (((T.setL o).length : Int) = 0) || !decide ((T.w.things.at ((T.setL o).getD 0 0)).kind = Turn.setKind o.verb)) = false := by rw [hsl]; exact c12
      have d1 : ((T.w.things.at ((T.setL o).getD 0 0)).on == Turn.setOn o.verb) = true := by rw [hsl]; exact c13
      have hq : T.set o = _ := (if_f c10).trans ((if_f d0).trans (if_t d1))
      (try rw [hsl] at hq)
      refine ⟨_, ⟨?gq3, rfl, ?hl3, ?hB3⟩, hS⟩
      case hB3 => rw [hq]; (try rfl)
      case hl3 => rw [hq]; assumption
     ·
      have c13p := c13; try simp only [kk] at c13p
      refine Gs ?_
      refine Gm rfl (Ga rfl ?_)
      refine Gn (.t6 0 4 5 6 9 113) ?_
      refine Gc (fun c14 => ?_) (fun c14 => ?_)
      ·
       have c14p := c14; try simp only [kk] at c14p
       refine G_region ?_
       refine Gm rfl (Gm rfl ?_)
       refine Gt (PS_neq rfl rfl) ?_
       refine Gm rfl ?_
       refine Gt (PS_idxS is66 (by decide) (Kn.own (.tail _ (.tail _ (.head _)))) rfl rfl (by omega) (by first | omega | (simp at q ⊢; omega))) ?_
       refine Gt (PS_ldInt rfl tys3 (Kn.own (.tail _ (.tail _ (.head _)))) (by first | omega | (simp at q ⊢; omega))) ?_
       refine Gm rfl (Gm rfl ?_)
       refine GL_callL rfl cf66 (.cons rfl (.cons rfl (.cons rfl (.cons rfl (.cons rfl .nil))))) (.cons .head (.cons (.tail (.tail (.tail (.tail .head)))) .nil)) (rules_turn_before_spec _ T _ (!decide (Turn.setKind o.verb = 2)) ((Turn.pickL T.w (T.own ++ T.seen) (max o.nth 1) o.name false).getD (0 : Int).toNat 0) _ _ hg hb hx0 (by omega)) (fun v23 B hv => ?_)
       obtain ⟨y24, rfl, y25, rfl⟩ := hv
       refine GL_nil (GQ_sub (.nil _) ?_)
       refine GQ_block ?_
       refine GQ_end rfl .nil ?_
       intro w1 hS
       have hS := (hS.perm (Pulls.perm (.cons .head (.cons .head .nil)))).headL
       have d0 : (decide (((T.setL o).length : Int) = 0) || !decide ((T.w.things.at ((T.setL o).getD 0 0)).kind = Turn.setKind o.verb)) = false := by rw [hsl]; exact c12
       have d1 : ((T.w.things.at ((T.setL o).getD 0 0)).on == Turn.setOn o.verb) = false := by rw [hsl]; exact c13
       have d2 : Turn.setOn o.verb = true := c14
       have hq : T.set o = _ := (if_f c10).trans ((if_f d0).trans ((if_f d1).trans (if_t d2)))
       (try rw [hsl] at hq)
       refine ⟨_, ⟨?gq4, rfl, ?hl4, ?hB4⟩, hS⟩
       case hB4 => rw [hq]; (try rfl)
       case hl4 => rw [hq]; assumption
      ·
       have c14p := c14; try simp only [kk] at c14p
       refine G_region ?_
       refine Gm rfl (Gm rfl ?_)
       refine Gt (PS_eql rfl rfl) ?_
       refine Gm rfl ?_
       refine Gt (PS_idxS is66 (by decide) (Kn.own (.tail _ (.tail _ (.head _)))) rfl rfl (by omega) (by first | omega | (simp at q ⊢; omega))) ?_
       refine Gt (PS_ldInt rfl tys3 (Kn.own (.tail _ (.tail _ (.head _)))) (by first | omega | (simp at q ⊢; omega))) ?_
       refine Gm rfl (Gm rfl ?_)
       refine GL_callL rfl cf66 (.cons rfl (.cons rfl (.cons rfl (.cons rfl (.cons rfl .nil))))) (.cons .head (.cons (.tail (.tail (.tail (.tail .head)))) .nil)) (rules_turn_before_spec _ T _ (decide (Turn.setKind o.verb = 2)) ((Turn.pickL T.w (T.own ++ T.seen) (max o.nth 1) o.name false).getD (0 : Int).toNat 0) _ _ hg hb hx0 (by omega)) (fun v26 B hv => ?_)
       obtain ⟨y27, rfl, y28, rfl⟩ := hv
       refine GL_nil (GQ_sub (.nil _) ?_)
       refine GQ_block ?_
       refine GQ_end rfl .nil ?_
       intro w1 hS
       have hS := (hS.perm (Pulls.perm (.cons .head (.cons .head .nil)))).headL
       have d0 : (decide (((T.setL o).length : Int) = 0) || !decide ((T.w.things.at ((T.setL o).getD 0 0)).kind = Turn.setKind o.verb)) = false := by rw [hsl]; exact c12
       have d1 : ((T.w.things.at ((T.setL o).getD 0 0)).on == Turn.setOn o.verb) = false := by rw [hsl]; exact c13
       have d2 : Turn.setOn o.verb = false := c14
       have hq : T.set o = _ := (if_f c10).trans ((if_f d0).trans ((if_f d1).trans (if_f d2)))
       (try rw [hsl] at hq)
       refine ⟨_, ⟨?gq5, rfl, ?hl5, ?hB5⟩, hS⟩
       case hB5 => rw [hq]; (try rfl)
       case hl5 => rw [hq]; assumption
   ·
    have c11p := c11; try simp only [kk] at c11p
    refine G_skip ?_
    refine GQ_sub (.t6 0 3 4 5 6 9) ?_
    refine GQ_then ?_
    refine Gs ?_
    refine Gm rfl (Gm rfl (Gt (PSf fa47_1 rfl) ?_))
    refine Gt (PS_load rfl tys3 (.tail _ (.tail _ (.head _))) Order.l1 rfl rfl) ?_
    refine Gt (PS_max2 rfl rfl) ?_
    refine Gt (PSf fa47_3 rfl) ?_
    refine Gt (PS_load rfl tys9 (.tail _ (.tail _ (.head _))) Order.l3 rfl rfl) ?_
    refine GL_callL rfl cf60 (.cons rfl (.cons rfl (.cons rfl (.cons rfl (.cons rfl .nil))))) (.cons .head (.cons .head .nil)) (rules_turn_pick_spec _ T _ _ T.own _ _ _ hF (by assumption) (by omega) (fun i hi => Turn.own_rng hi)) (fun v29 B hv => ?_)
    obtain ⟨y30, rfl, y31, rfl⟩ := hv
    refine Ga rfl ?_
    refine Gn (.t5 0 4 5 6 9) ?_
    refine G_block ?_
    refine G_seq ?_
    have hx0 := Turn.getD_rng (l := (Turn.pickL T.w T.own (max o.nth 1) o.name false)) (fun i hi => Turn.own_rng (Turn.pickL_mem hi))
    refine G_planN (N := 18) [0, 1, 3, 7, 15, 15, 47, 111, 31, 287, 799, 2047, 4095, 8191, 15, 32767, 65535, 131071] mix (by kernel_rfl) rfl ?_
    refine Pf 0 rfl (PS_move rfl) ?_
    refine Pf 1 rfl (PS_len_slice rfl Tryz.underlying66 rfl) ?_
    refine Pf 2 rfl (PS_eql rfl rfl) ?_
    refine Pf 3 rfl (PS_move rfl) ?_
    refine Pgf 4 82 rfl rfl rfl (fun q => PS_move rfl) ?_
    refine Pgf 5 82 rfl rfl rfl (fun q => PS_move rfl) ?_
    refine Plan_float 6 rfl rfl (by kernel_rfl) (OK_gf (t := 82) rfl rfl (fun q => by have q1 := q; (try simp at q1); exact EX_s (PS_idxS is66 (by decide) (Kn.own (.tail _ (.tail _ (.head _)))) (cF rfl q) rfl (by omega) (by first | omega | (simp at q ⊢; omega))))) ?_
    refine Plan_float 7 rfl rfl (by kernel_rfl) (OK_gf (t := 82) rfl rfl (fun q => by have q1 := q; (try simp at q1); exact EX_s (PS_ldInt (cF rfl q) tys3 (Kn.own (.tail _ (.tail _ (.head _)))) (by first | omega | (simp at q ⊢; omega))))) ?_
    refine Pgf 8 82 rfl rfl rfl (fun q => PSn (cF rfl q)) ?_
    refine Pgf 9 82 rfl rfl rfl (fun q => PSf fa53_0 (cF rfl q)) ?_
    refine Pgf 10 82 rfl rfl rfl (fun q => PSf fa34_1 (cF rfl q)) ?_
    refine Plan_float 11 rfl rfl (by kernel_rfl) (OK_gf (t := 82) rfl rfl (fun q => by have q1 := q; (try simp at q1); exact EX_s (PS_indexAddr ia29 (cF rfl q) (cF rfl q) (by first | omega | exact hb.1 | exact hb.2 | exact hx0.1 | exact hx0.2 | (dsimp only; omega)) (by first | omega | exact hb.1 | exact hb.2 | exact hx0.1 | exact hx0.2 | (dsimp only; omega))))) ?_
    refine Pgf 12 82 rfl rfl rfl (fun q => PSf fa28_1 (cF rfl q)) ?_
    refine Plan_float 13 rfl rfl (by kernel_rfl) (OK_gf (t := 82) rfl rfl (fun q => by have q1 := q; (try simp at q1); exact EX_s (PS_load (cF rfl q) tys3 (.head _) (((TurnV.l0.comp Land.l1).comp (Lens.ar (n := 9) Thing.fl (by first | omega | exact hb | exact hx0 | (dsimp only; omega)))).comp Thing.l1) rfl rfl))) ?_
    refine Pgf 14 82 rfl rfl rfl (fun q => PS_move rfl) ?_
    refine Pgf 15 82 rfl rfl rfl (fun q => PS_neq (cF rfl q) (cF rfl q)) ?_
    refine Pf 16 rfl (PS_or rfl rfl (fun h => by rw [h]; rfl)) ?_
    refine Pf 17 rfl (PS_assign rfl) ?_
    refine Plan_end (by kernel_rfl) ?_
    refine GQ_sub (.t6 0 4 5 6 9 78) ?_
    refine GQ_then ?_
    refine Gc (fun c15 => ?_) (fun c15 => ?_)
    ·
     have c15p := c15; try simp only [kk] at c15p
     rw [y31] at c15 c15p
     have hsl : T.setL o = (Turn.pickL T.w T.own (max o.nth 1) o.name false) := congrArg (fun q => Turn.pickL T.w q _ _ _) (if_f c11)
     refine G_region ?_
     refine Gm rfl ?_
     refine GL_callL rfl cf45 (.cons rfl (.cons rfl .nil)) (.cons .head (.cons (.tail (.tail (.tail .head))) .nil)) (rules_turn_tell_spec _ _ _ _ hg hb (by omega)) (fun v33 B hv => ?_)
     obtain ⟨y34, rfl, y35, rfl⟩ := hv
     refine GL_nil (GQ_sub (.nil _) ?_)
     refine GQ_block ?_
     refine GQ_end rfl .nil ?_
     intro w1 hS
     have hS := (hS.perm (Pulls.perm (.cons .head (.cons .head .nil)))).headL
     have d0 : (decide (((T.setL o).length : Int) = 0) || !decide ((T.w.things.at ((T.setL o).getD 0 0)).kind = Turn.setKind o.verb)) = true := by rw [hsl]; exact c15
     have hq : T.set o = _ := (if_f c10).trans (if_t d0)
     (try rw [hsl] at hq)
     refine ⟨_, ⟨?gq6, rfl, ?hl6, ?hB6⟩, hS⟩
     case hB6 => rw [hq]; (try rfl)
     case hl6 => rw [hq]; assumption
    ·
     have c15p := c15; try simp only [kk] at c15p
     rw [y31] at c15 c15p
     have hsl : T.setL o = (Turn.pickL T.w T.own (max o.nth 1) o.name false) := congrArg (fun q => Turn.pickL T.w q _ _ _) (if_f c11)
     refine G_seq ?_
     refine G_planN (N := 13) [0, 0, 2, 6, 1, 17, 49, 127, 255, 511, 0, 2047, 4095] mix (by kernel_rfl) rfl ?_
     refine Pf 0 rfl (PS_move rfl) (Pf 1 rfl (PS_move rfl) ?_)
     refine Pf 2 rfl (PS_idxS is66 (by decide) (Kn.own (.tail _ (.tail _ (.head _)))) rfl rfl (by omega) (by first | omega | (simp at q ⊢; omega))) ?_
     refine Pf 3 rfl (PS_ldInt rfl tys3 (Kn.own (.tail _ (.tail _ (.head _)))) (by first | omega | (simp at q ⊢; omega))) ?_
     refine Pf 4 rfl (PSn rfl) (Pf 5 rfl (PSf fa53_0 rfl) (Pf 6 rfl (PSf fa34_1 rfl) ?_))
     refine Pf 7 rfl (PS_indexAddr ia29 rfl rfl (by first | omega | exact hb.1 | exact hb.2 | exact hx0.1 | exact hx0.2 | (dsimp only; omega)) (by first | omega | exact hb.1 | exact hb.2 | exact hx0.1 | exact hx0.2 | (dsimp only; omega))) ?_
     refine Pf 8 rfl (PSf fa28_4 rfl) ?_
     refine Pf 9 rfl (PS_load rfl tys4 (.head _) (((TurnV.l0.comp Land.l1).comp (Lens.ar (n := 9) Thing.fl (by first | omega | exact hb | exact hx0 | (dsimp only; omega)))).comp Thing.l4) rfl rfl) ?_
     refine Pf 10 rfl (PS_move rfl) ?_
     refine Pf 11 rfl (PS_eql_bool Tryz.underlying4 rfl rfl) ?_
     refine Pf 12 rfl (PS_assign rfl) ?_
     refine Plan_end (by kernel_rfl) ?_
     refine GQ_sub (.t6 0 4 5 6 9 98) ?_
     refine GQ_then ?_
     refine Gc (fun c16 => ?_) (fun c16 => ?_)
     ·
      have c16p := c16; try simp only [kk] at c16p
      refine G_region ?_
      refine Gm rfl ?_
      refine GL_callL rfl cf45 (.cons rfl (.cons rfl .nil)) (.cons .head (.cons (.tail (.tail (.tail .head))) .nil)) (rules_turn_tell_spec _ _ _ _ hg hb (by omega)) (fun v36 B hv => ?_)
      obtain ⟨y37, rfl, y38, rfl⟩ := hv
      refine GL_nil (GQ_sub (.nil _) ?_)
      refine GQ_block ?_
      refine GQ_end rfl .nil ?_
      intro w1 hS
      have hS := (hS.perm (Pulls.perm (.cons .head (.cons .head .nil)))).headL
      have d0 : (decide (((T.setL o).length : Int) = 0) || !decide ((T.w.things.at ((T.setL o).getD 0 0)).kind = Turn.setKind o.verb)) = false := by rw [hsl]; exact c15
      have d1 : ((T.w.things.at ((T.setL o).getD 0 0)).on == Turn.setOn o.verb) = true := by rw [hsl]; exact c16
      have hq : T.set o = _ := (if_f c10).trans ((if_f d0).trans (if_t d1))
      (try rw [hsl] at hq)
      refine ⟨_, ⟨?gq7, rfl, ?hl7, ?hB7⟩, hS⟩
      case hB7 => rw [hq]; (try rfl)
      case hl7 => rw [hq]; assumption
     ·
      have c16p := c16; try simp only [kk] at c16p
      refine Gs ?_
      refine Gm rfl (Ga rfl ?_)
      refine Gn (.t6 0 4 5 6 9 113) ?_
      refine Gc (fun c17 => ?_) (fun c17 => ?_)
      ·
       have c17p := c17; try simp only [kk] at c17p
       refine G_region ?_
       refine Gm rfl (Gm rfl ?_)
       refine Gt (PS_neq rfl rfl) ?_
       refine Gm rfl ?_
       refine Gt (PS_idxS is66 (by decide) (Kn.own (.tail _ (.tail _ (.head _)))) rfl rfl (by omega) (by first | omega | (simp at q ⊢; omega))) ?_
       refine Gt (PS_ldInt rfl tys3 (Kn.own (.tail _ (.tail _ (.head _)))) (by first | omega | (simp at q ⊢; omega))) ?_
       refine Gm rfl (Gm rfl ?_)
       refine GL_callL rfl cf66 (.cons rfl (.cons rfl (.cons rfl (.cons rfl (.cons rfl .nil))))) (.cons .head (.cons (.tail (.tail (.tail .head))) .nil)) (rules_turn_before_spec _ T _ (!decide (Turn.setKind o.verb = 2)) ((Turn.pickL T.w T.own (max o.nth 1) o.name false).getD (0 : Int).toNat 0) _ _ hg hb hx0 (by omega)) (fun v39 B hv => ?_)
       obtain ⟨y40, rfl, y41, rfl⟩ := hv
       refine GL_nil (GQ_sub (.nil _) ?_)
       refine GQ_block ?_
       refine GQ_end rfl .nil ?_
       intro w1 hS
       have hS := (hS.perm (Pulls.perm (.cons .head (.cons .head .nil)))).headL
       have d0 : (decide (((T.setL o).length : Int) = 0) || !decide ((T.w.things.at ((T.setL o).getD 0 0)).kind = Turn.setKind o.verb)) = false := by rw [hsl]; exact c15
       have d1 : ((T.w.things.at ((T.setL o).getD 0 0)).on == Turn.setOn o.verb) = false := by rw [hsl]; exact c16
       have d2 : Turn.setOn o.verb = true := c17
       have hq : T.set o = _ := (if_f c10).trans ((if_f d0).trans ((if_f d1).trans (if_t d2)))
       (try rw [hsl] at hq)
       refine ⟨_, ⟨?gq8, rfl, ?hl8, ?hB8⟩, hS⟩
       case hB8 => rw [hq]; (try rfl)
       case hl8 => rw [hq]; assumption
      ·
       have c17p := c17; try simp only [kk] at c17p
       refine G_region ?_
       refine Gm rfl (Gm rfl ?_)
       refine Gt (PS_eql rfl rfl) ?_
       refine Gm rfl ?_
       refine Gt (PS_idxS is66 (by decide) (Kn.own (.tail _ (.tail _ (.head _)))) rfl rfl (by omega) (by first | omega | (simp at q ⊢; omega))) ?_
       refine Gt (PS_ldInt rfl tys3 (Kn.own (.tail _ (.tail _ (.head _)))) (by first | omega | (simp at q ⊢; omega))) ?_
       refine Gm rfl (Gm rfl ?_)
       refine GL_callL rfl cf66 (.cons rfl (.cons rfl (.cons rfl (.cons rfl (.cons rfl .nil))))) (.cons .head (.cons (.tail (.tail (.tail .head))) .nil)) (rules_turn_before_spec _ T _ (decide (Turn.setKind o.verb = 2)) ((Turn.pickL T.w T.own (max o.nth 1) o.name false).getD (0 : Int).toNat 0) _ _ hg hb hx0 (by omega)) (fun v42 B hv => ?_)
       obtain ⟨y43, rfl, y44, rfl⟩ := hv
       refine GL_nil (GQ_sub (.nil _) ?_)
       refine GQ_block ?_
       refine GQ_end rfl .nil ?_
       intro w1 hS
       have hS := (hS.perm (Pulls.perm (.cons .head (.cons .head .nil)))).headL
       have d0 : (decide (((T.setL o).length : Int) = 0) || !decide ((T.w.things.at ((T.setL o).getD 0 0)).kind = Turn.setKind o.verb)) = false := by rw [hsl]; exact c15
       have d1 : ((T.w.things.at ((T.setL o).getD 0 0)).on == Turn.setOn o.verb) = false := by rw [hsl]; exact c16
       have d2 : Turn.setOn o.verb = false := c17
       have hq : T.set o = _ := (if_f c10).trans ((if_f d0).trans ((if_f d1).trans (if_f d2)))
       (try rw [hsl] at hq)
       refine ⟨_, ⟨?gq9, rfl, ?hl9, ?hB9⟩, hS⟩
       case hB9 => rw [hq]; (try rfl)
       case hl9 => rw [hq]; assumption
theorem rules_Do_spec (X : Land) (b : Int) (o : Order) (hw : X.Brief) (hu : o.second.length ≤ 5000000) (hm : o.name.length ≤ 5000000) : CtrR Tryz.prog 14 #[.agg X.enc.toArray, .int .i64 b, .agg o.enc.toArray] [] (fun w => (GV 1 Land.verbsV w ∧ 1 ∉ feet []) ∧ (GVE 3 w ∧ 3 ∉ feet []) ∧ (GVE 4 w ∧ 4 ∉ feet [])) (fun v B => ∃ h : Hd, v = .tuple #[.agg ((Turn.doR X b o).1.enc).toArray, h.val, .int .i64 (Turn.doR X b o).2.2] ∧ h.len = (Turn.doR X b o).2.1.length ∧ B = [Res.own h 60 16 ((Turn.doR X b o).2.1.flatMap Ing.Event.enc)]) := by
 intro w hS0 hH
 obtain ⟨⟨gl0, gm0⟩, ⟨gl1, gm1⟩, ⟨gl2, gm2⟩⟩ := hH
 refine Ret_body _ _ Tryz.func14 rfl rfl rfl (hS0) ?_
 refine Gs ?_
 refine GL_box rfl rfl rfl (fun b1 => ?_)
 refine GL_box rfl rfl rfl (fun b2 => ?_)
 refine GL_alloc rfl zv34 rfl (fun b3 => ?_)
 refine Ga rfl (Ga rfl ?_)
 refine Gn (.t4 1 3 5 6) ?_
 refine G_seq ?_
 refine G_block ?_
 refine Gs ?_
 refine Gt (PS_loadA rfl tya34 (.tail _ (.tail _ (.head _))) (Lens.id Land.fl.len Land.fl.one) rfl) ?_
 refine GL_pure rfl cf16 (.cons rfl .nil) (fun w hS => land_Good_spec _ w) ?_
 refine Gt (PS_not rfl) ?_
 refine Ga rfl ?_
 refine Gn (.t5 1 3 5 6 10) ?_
 refine Gc (fun c1 => ?_) (fun c1 => ?_)
 ·
  have c1p := c1; try simp only [kk] at c1p
  refine Gs ?_
  refine Gt (PS_loadA rfl tya34 (.tail _ (.tail _ (.head _))) (Lens.id Land.fl.len Land.fl.one) rfl) ?_
  refine GL_unit (PU_store (Lens.id Land.fl.len Land.fl.one) rfl rfl rfl sz34 rfl .head) ?_
  refine Ga rfl (Ga rfl ?_)
  refine Gn (.t3 6 7 8) ?_
  refine G_ret ?_
  refine GQ_block_ret ?_
  refine GQ_then_ret ?_
  refine GQ_ret rfl (.cell rfl (.head _) (.inl ⟨(by rw [Land.fl.len]; exact tya34), rfl⟩) (.tmp rfl (.tmp rfl .nil))) ?_
  intro w1 hS
  have hS := hS.own_nil 60 16
  have hS := (hS.perm (Pulls.perm (.cons .head .nil))).headL
  have hq : Turn.doR X b o = _ := (if_t c1)
  refine ⟨_, ⟨⟨none, 0, 0⟩, ?hv1, ?hl1, ?hB1⟩, hS⟩
  case hv1 => rw [hq]; rfl
  case hl1 => rw [hq]; rfl
  case hB1 => rw [hq]; rfl
 ·
  have c1p := c1; try simp only [kk] at c1p
  refine Gs ?_
  refine Gm rfl ?_
  refine Gt (PS_lss rfl rfl) ?_
  refine Gm rfl ?_
  refine GL_gf (t := 18) rfl rfl rfl (fun q => PS_move rfl) ?_
  refine GL_gf (t := 18) rfl rfl rfl (fun q => PS_geq (cF rfl q) rfl) ?_
  refine Gt (PS_or rfl rfl (fun h => by rw [h]; rfl)) ?_
  refine Gm rfl ?_
  refine GL_gf (t := 22) rfl rfl rfl (fun q => PS_move rfl) ?_
  refine GL_gf (t := 22) rfl rfl rfl (fun q => PSf fa34_2 rfl) ?_
  refine GL_gf (t := 22) rfl rfl rfl (fun q => by have q1 := q; (try simp at q1); exact PS_indexAddr ia32 (cF rfl q) (cF rfl q) (by first | omega | exact hb.1 | exact hb.2 | (dsimp only; omega)) (by first | omega | exact hb.1 | exact hb.2 | (dsimp only; omega))) ?_
  refine GL_gf (t := 22) rfl rfl rfl (fun q => PSf fa31_1 (cF rfl q)) ?_
  refine GL_gf (t := 22) rfl rfl rfl (fun q => by have q1 := q; (try simp at q1); exact PS_load (cF rfl q) tys4 (.tail _ (.tail _ (.head _))) ((Land.l2.comp (Lens.ar (n := 6) Being.fl (by first | omega | exact hb | (dsimp only; omega)))).comp Being.l1) rfl rfl) ?_
  refine GL_gf (t := 22) rfl rfl rfl (fun q => PS_not (cF rfl q)) ?_
  refine Gt (PS_or rfl rfl (fun h => by rw [h]; rfl)) ?_
  refine Ga rfl ?_
  refine Gn (.t5 1 3 5 6 15) ?_
  refine Gc (fun c2 => ?_) (fun c2 => ?_)
  ·
   have c2p := c2; try simp only [kk] at c2p
   refine Gs ?_
   refine Gt (PS_loadA rfl tya34 (.tail _ (.tail _ (.head _))) (Lens.id Land.fl.len Land.fl.one) rfl) ?_
   refine GL_unit (PU_store (Lens.id Land.fl.len Land.fl.one) rfl rfl rfl sz34 rfl .head) ?_
   refine Ga rfl (Ga rfl ?_)
   refine Gn (.t3 6 7 8) ?_
   refine G_ret ?_
   refine GQ_block_ret ?_
   refine GQ_then_ret ?_
   refine GQ_ret rfl (.cell rfl (.head _) (.inl ⟨(by rw [Land.fl.len]; exact tya34), rfl⟩) (.tmp rfl (.tmp rfl .nil))) ?_
   intro w1 hS
   have hS := hS.own_nil 60 16
   have hS := (hS.perm (Pulls.perm (.cons .head .nil))).headL
   have hq : Turn.doR X b o = _ := ((if_f c1).trans (if_t c2))
   refine ⟨_, ⟨⟨none, 0, 0⟩, ?hv2, ?hl2, ?hB2⟩, hS⟩
   case hv2 => rw [hq]; rfl
   case hl2 => rw [hq]; rfl
   case hB2 => rw [hq]; rfl
  ·
   have c2p := c2; try simp only [kk] at c2p
   refine Gs ?_
   refine Gt (PSf fa47_0 rfl) ?_
   refine Gt (PS_load rfl tys3 (.tail _ (.head _)) Order.l0 rfl rfl) ?_
   refine Gt (PS_lss rfl rfl) ?_
   refine Gm rfl ?_
   refine GL_gf (t := 35) rfl rfl rfl (fun q => PSf fa47_0 rfl) ?_
   refine GL_gf (t := 35) rfl rfl rfl (fun q => PS_load (cF rfl q) tys3 (.tail _ (.head _)) Order.l0 rfl rfl) ?_
   refine GL_gf (t := 35) rfl rfl rfl (fun q => PS_gtr (cF rfl q) rfl) ?_
   refine Gt (PS_or rfl rfl (fun h => by rw [h]; rfl)) ?_
   refine Ga rfl ?_
   refine Gn (.t5 1 3 5 6 31) ?_
   refine Gc (fun c3 => ?_) (fun c3 => ?_)
   ·
    have c3p := c3; try simp only [kk] at c3p
    refine Gs ?_
    refine Gt (PS_loadA rfl tya34 (.tail _ (.tail _ (.head _))) (Lens.id Land.fl.len Land.fl.one) rfl) ?_
    refine GL_unit (PU_store (Lens.id Land.fl.len Land.fl.one) rfl rfl rfl sz34 rfl .head) ?_
    refine Ga rfl (Ga rfl ?_)
    refine Gn (.t3 6 7 8) ?_
    refine G_ret ?_
    refine GQ_block_ret ?_
    refine GQ_then_ret ?_
    refine GQ_ret rfl (.cell rfl (.head _) (.inl ⟨(by rw [Land.fl.len]; exact tya34), rfl⟩) (.tmp rfl (.tmp rfl .nil))) ?_
    intro w1 hS
    have hS := hS.own_nil 60 16
    have hS := (hS.perm (Pulls.perm (.cons .head .nil))).headL
    have hq : Turn.doR X b o = _ := ((if_f c1).trans ((if_f c2).trans (if_t c3)))
    refine ⟨_, ⟨⟨none, 0, 0⟩, ?hv3, ?hl3, ?hB3⟩, hS⟩
    case hv3 => rw [hq]; rfl
    case hl3 => rw [hq]; rfl
    case hB3 => rw [hq]; rfl
   ·
    have c3p := c3; try simp only [kk] at c3p
    have hF := Turn.start_fit hw c1 c2
    have hb := hF.b
    refine G_skip ?_
    refine GQ_sub (.t4 1 3 5 6) ?_
    refine GQ_block ?_
    refine GQ_then ?_
    refine Gs ?_
    refine Gt (PS_loadA rfl tya34 (.tail _ (.tail _ (.head _))) (Lens.id Land.fl.len Land.fl.one) rfl) ?_
    refine Gm rfl ?_
    refine Gt (PS_build pl53 zv53 rfl (.cons TurnV.l0 rfl rfl rfl (.cons TurnV.l1 rfl rfl rfl .nil))) ?_
    refine GL_box rfl rfl rfl (fun b4 => ?_)
    refine Ga rfl ?_
    refine Gn (.t4 1 5 6 9) ?_
    refine G_seq ?_
    refine G_block ?_
    refine Gs ?_
    refine Gt (PSf fa47_0 rfl) ?_
    refine Gt (PS_load rfl tys3 (.tail _ (.tail _ (.head _))) Order.l0 rfl rfl) ?_
    refine Gt (PS_lss rfl rfl) ?_
    refine Ga rfl ?_
    refine Gn (.t5 1 5 6 9 48) ?_
    refine Gc (fun c4 => ?_) (fun c4 => ?_)
    ·
     have c4p := c4; try simp only [kk] at c4p
     refine G_region ?_
     refine Gm rfl (Gt (PSf fa47_0 rfl) ?_)
     refine Gt (PS_load rfl tys3 (.tail _ (.tail _ (.head _))) Order.l0 rfl rfl) ?_
     refine GL_nilF Ing.Event.enc 60 16 ?_
     refine GL_callR rfl cf27 (.cons rfl (.cons rfl .nil)) (.cons (.tail .head) (.cons .head .nil)) (rules_turn_walk_spec _ (⟨X, b, []⟩ : Turn) _ o.verb rfl hF (by omega) (Nat.zero_le _)) (fun w hS => gl0.pull gm0 hS (.cons (.tail .head) (.cons .head .nil))) (fun v5 B hv => ?_)
     obtain ⟨y6, rfl, y7, rfl⟩ := hv
     refine GL_nil (GQ_sub (.t2 6 9) ?_)
     refine GQ_block ?_
     refine GQ_then ?_
     refine G_seq ?_
     refine G_planN (N := 11) [0, 1, 3, 7, 0, 16, 48, 112, 15, 511, 1023] mix (by kernel_rfl) rfl ?_
     refine Pf 0 rfl (PS_move rfl) (Pf 1 rfl (PSn rfl) (Pf 2 rfl (PSf fa53_0 rfl) ?_))
     refine Pf 3 rfl (PS_loadA rfl tya34 (.head _) TurnV.l0 rfl) ?_
     refine Pf 4 rfl (PS_move rfl) (Pf 5 rfl (PSn rfl) (Pf 6 rfl (PSf fa53_2 rfl) ?_))
     refine Pf 7 rfl (PS_load rfl tys35 (.head _) TurnV.l2 rfl rfl) ?_
     refine Plan_chain 8 rfl (by kernel_rfl) ?_
     refine GL_unit (PU_store (Lens.id Land.fl.len Land.fl.one) rfl rfl rfl sz34 rfl (.tail (.tail .head))) ?_
     refine GL_hand0 rfl ⟨?_, ?_⟩
     · exact (Po rfl (PS_load rfl tys35 (.head _) TurnV.l2 rfl rfl) rfl rfl (Po rfl (PSf fa53_2 rfl) rfl rfl (Po rfl (PSn rfl) rfl rfl (Po rfl (PS_move rfl) rfl rfl (Pk (Pk (Pk (Pk Pend_nil))))))))
     refine Pf 9 rfl (PS_assign rfl) ?_
     refine Pf 10 rfl (PS_assign rfl) ?_
     refine Plan_end (by kernel_rfl) ?_
     refine GQ_sub (.t3 6 7 8) ?_
     refine GQ_then ?_
     refine G_ret ?_
     refine GQ_ret rfl (.cell rfl (.tail _ (.tail _ (.head _))) (.inl ⟨(by rw [Land.fl.len]; exact tya34), rfl⟩) (.tmp rfl (.tmp rfl .nil))) ?_
     intro w1 hS
     have hS := (hS.perm (Pulls.perm (.cons (.tail .head) .nil))).headL
     have ha : Turn.act (⟨X, b, []⟩ : Turn) o = _ := (if_t c4)
     have hq : Turn.doR X b o = ((Turn.act (⟨X, b, []⟩ : Turn) o).w, (Turn.act (⟨X, b, []⟩ : Turn) o).out, 0) := ((if_f c1).trans ((if_f c2).trans (if_f c3)))
     rw [ha] at hq
     refine ⟨_, ⟨?gq4, ?hv4, ?hl4, ?hB4⟩, hS⟩
     case hB4 => rw [hq]; (try rfl)
     case hv4 => rw [hq]; (try rfl)
     case hl4 => rw [hq]; (try dsimp only); exact y7
    ·
     have c4p := c4; try simp only [kk] at c4p
     refine Gs ?_
     refine Gt (PSf fa47_0 rfl) ?_
     refine Gt (PS_load rfl tys3 (.tail _ (.tail _ (.head _))) Order.l0 rfl rfl) ?_
     refine Gt (PS_eql rfl rfl) ?_
     refine Ga rfl ?_
     refine Gn (.t5 1 5 6 9 56) ?_
     refine Gc (fun c5 => ?_) (fun c5 => ?_)
     ·
      have c5p := c5; try simp only [kk] at c5p
      refine G_region ?_
      refine Gm rfl ?_
      refine GL_nilF Ing.Event.enc 60 16 ?_
      refine GL_callR rfl cf18 (.cons rfl .nil) (.cons (.tail .head) (.cons .head .nil)) (rules_turn_look_spec _ (⟨X, b, []⟩ : Turn) _ rfl hF.b hF.br (Nat.zero_le _)) (fun w hS => gl0.pull gm0 hS (.cons (.tail .head) (.cons .head .nil))) (fun v9 B hv => ?_)
      obtain ⟨y10, rfl, y11, rfl⟩ := hv
      refine GL_nil (GQ_sub (.t2 6 9) ?_)
      refine GQ_block ?_
      refine GQ_then ?_
      refine G_seq ?_
      refine G_planN (N := 11) [0, 1, 3, 7, 0, 16, 48, 112, 15, 511, 1023] mix (by kernel_rfl) rfl ?_
      refine Pf 0 rfl (PS_move rfl) (Pf 1 rfl (PSn rfl) (Pf 2 rfl (PSf fa53_0 rfl) ?_))
      refine Pf 3 rfl (PS_loadA rfl tya34 (.head _) TurnV.l0 rfl) ?_
      refine Pf 4 rfl (PS_move rfl) (Pf 5 rfl (PSn rfl) (Pf 6 rfl (PSf fa53_2 rfl) ?_))
      refine Pf 7 rfl (PS_load rfl tys35 (.head _) TurnV.l2 rfl rfl) ?_
      refine Plan_chain 8 rfl (by kernel_rfl) ?_
      refine GL_unit (PU_store (Lens.id Land.fl.len Land.fl.one) rfl rfl rfl sz34 rfl (.tail (.tail .head))) ?_
      refine GL_hand0 rfl ⟨?_, ?_⟩
      · exact (Po rfl (PS_load rfl tys35 (.head _) TurnV.l2 rfl rfl) rfl rfl (Po rfl (PSf fa53_2 rfl) rfl rfl (Po rfl (PSn rfl) rfl rfl (Po rfl (PS_move rfl) rfl rfl (Pk (Pk (Pk (Pk Pend_nil))))))))
      refine Pf 9 rfl (PS_assign rfl) ?_
      refine Pf 10 rfl (PS_assign rfl) ?_
      refine Plan_end (by kernel_rfl) ?_
      refine GQ_sub (.t3 6 7 8) ?_
      refine GQ_then ?_
      refine G_ret ?_
      refine GQ_ret rfl (.cell rfl (.tail _ (.tail _ (.head _))) (.inl ⟨(by rw [Land.fl.len]; exact tya34), rfl⟩) (.tmp rfl (.tmp rfl .nil))) ?_
      intro w1 hS
      have hS := (hS.perm (Pulls.perm (.cons (.tail .head) .nil))).headL
      have ha : Turn.act (⟨X, b, []⟩ : Turn) o = _ := ((if_f c4).trans (if_t c5))
      have hq : Turn.doR X b o = ((Turn.act (⟨X, b, []⟩ : Turn) o).w, (Turn.act (⟨X, b, []⟩ : Turn) o).out, 0) := ((if_f c1).trans ((if_f c2).trans (if_f c3)))
      rw [ha] at hq
      refine ⟨_, ⟨?gq5, ?hv5, ?hl5, ?hB5⟩, hS⟩
      case hB5 => rw [hq]; (try rfl)
      case hv5 => rw [hq]; (try rfl)
      case hl5 => rw [hq]; (try dsimp only); exact y11
     ·
      have c5p := c5; try simp only [kk] at c5p
      refine Gs ?_
      refine Gt (PSf fa47_0 rfl) ?_
      refine Gt (PS_load rfl tys3 (.tail _ (.tail _ (.head _))) Order.l0 rfl rfl) ?_
      refine Gt (PS_eql rfl rfl) ?_
      refine Ga rfl ?_
      refine Gn (.t5 1 5 6 9 62) ?_
      refine Gc (fun c6 => ?_) (fun c6 => ?_)
      ·
       have c6p := c6; try simp only [kk] at c6p
       refine G_region ?_
       refine Gm rfl (Gm rfl (Gt (PSn rfl) (Gt (PSf fa53_0 rfl) ?_)))
       refine Gt (PS_loadA rfl tya34 (.head _) TurnV.l0 rfl) ?_
       refine Gm rfl ?_
       refine GL_callL rfl cf29 (.cons rfl (.cons rfl (.cons rfl .nil))) .nil (land_Has_spec _ _ _) (fun v12 B hv => ?_)
       obtain ⟨y13, rfl, y14, rfl⟩ := hv
       refine GL_nilF Ing.Event.enc 60 16 ?_
       refine GL_callL rfl cf28 (.cons rfl (.cons rfl (.cons rfl .nil))) (.cons (.tail (.tail .head)) (.cons .head (.cons .head .nil))) (rules_turn_list_spec _ (⟨X, b, []⟩ : Turn) _ [89, 111, 117, 32, 104, 97, 118, 101] _ (X.has 1 b) rfl hF.b (by assumption) (Land.has_le _ _ _) (fun i hi => Land.has_mem hi) hF.br (by decide) (Nat.zero_le _)) (fun v17 B hv => ?_)
       obtain ⟨y18, rfl, y19, rfl⟩ := hv
       refine GL_nil (GQ_sub (.t2 6 9) ?_)
       refine GQ_block ?_
       refine GQ_then ?_
       refine G_seq ?_
       refine G_planN (N := 11) [0, 1, 3, 7, 0, 16, 48, 112, 15, 511, 1023] mix (by kernel_rfl) rfl ?_
       refine Pf 0 rfl (PS_move rfl) (Pf 1 rfl (PSn rfl) (Pf 2 rfl (PSf fa53_0 rfl) ?_))
       refine Pf 3 rfl (PS_loadA rfl tya34 (.head _) TurnV.l0 rfl) ?_
       refine Pf 4 rfl (PS_move rfl) (Pf 5 rfl (PSn rfl) (Pf 6 rfl (PSf fa53_2 rfl) ?_))
       refine Pf 7 rfl (PS_load rfl tys35 (.head _) TurnV.l2 rfl rfl) ?_
       refine Plan_chain 8 rfl (by kernel_rfl) ?_
       refine GL_unit (PU_store (Lens.id Land.fl.len Land.fl.one) rfl rfl rfl sz34 rfl (.tail (.tail (.tail .head)))) ?_
       refine GL_hand0 rfl ⟨?_, ?_⟩
       · exact (Po rfl (PS_load rfl tys35 (.head _) TurnV.l2 rfl rfl) rfl rfl (Po rfl (PSf fa53_2 rfl) rfl rfl (Po rfl (PSn rfl) rfl rfl (Po rfl (PS_move rfl) rfl rfl (Pk (Pk (Pk (Pk Pend_nil))))))))
       refine Pf 9 rfl (PS_assign rfl) ?_
       refine Pf 10 rfl (PS_assign rfl) ?_
       refine Plan_end (by kernel_rfl) ?_
       refine GQ_sub (.t3 6 7 8) ?_
       refine GQ_then ?_
       refine G_ret ?_
       refine GQ_ret rfl (.cell rfl (.tail _ (.tail _ (.tail _ (.head _)))) (.inl ⟨(by rw [Land.fl.len]; exact tya34), rfl⟩) (.tmp rfl (.tmp rfl .nil))) ?_
       intro w1 hS
       have hS := (hS.perm (Pulls.perm (.cons (.tail .head) .nil))).headL
       have ha : Turn.act (⟨X, b, []⟩ : Turn) o = _ := ((if_f c4).trans ((if_f c5).trans (if_t c6)))
       have hq : Turn.doR X b o = ((Turn.act (⟨X, b, []⟩ : Turn) o).w, (Turn.act (⟨X, b, []⟩ : Turn) o).out, 0) := ((if_f c1).trans ((if_f c2).trans (if_f c3)))
       rw [ha] at hq
       refine ⟨_, ⟨?gq6, ?hv6, ?hl6, ?hB6⟩, hS⟩
       case hB6 => rw [hq]; (try rfl)
       case hv6 => rw [hq]; (try rfl)
       case hl6 => rw [hq]; (try dsimp only); exact y19
      ·
       have c6p := c6; try simp only [kk] at c6p
       refine Gs ?_
       refine Gt (PSf fa47_0 rfl) ?_
       refine Gt (PS_load rfl tys3 (.tail _ (.tail _ (.head _))) Order.l0 rfl rfl) ?_
       refine Gt (PS_eql rfl rfl) ?_
       refine Ga rfl ?_
       refine Gn (.t4 5 6 9 74) ?_
       refine Gc (fun c7 => ?_) (fun c7 => ?_)
       ·
        have c7p := c7; try simp only [kk] at c7p
        refine G_region ?_
        refine Gm rfl (Gt (PSf fa47_5 rfl) ?_)
        refine Gt (PS_load rfl tys9 (.tail _ (.tail _ (.head _))) Order.l5 rfl rfl) ?_
        refine Gt (PS_build pl60 zv60 rfl (.cons Ing.Event.l0 rfl rfl rfl (.cons Ing.Event.l3 rfl rfl rfl (.cons Ing.Event.l9 rfl rfl rfl .nil)))) ?_
        refine GL_nilF Ing.Event.enc 60 16 ?_
        refine GL_callL rfl cf23 (.cons rfl (.cons rfl .nil)) (.cons (.tail .head) (.cons .head .nil)) (rules_turn_happens_spec _ (⟨X, b, []⟩ : Turn) _ { Turn.evk 7 with text := o.text } rfl hF.b (show (-1 : Int) < 6 by decide) (Nat.zero_le _)) (fun v21 B hv => ?_)
        obtain ⟨y22, rfl, y23, rfl⟩ := hv
        refine GL_nil (GQ_sub (.t2 6 9) ?_)
        refine GQ_block ?_
        refine GQ_then ?_
        refine G_seq ?_
        refine G_planN (N := 11) [0, 1, 3, 7, 0, 16, 48, 112, 15, 511, 1023] mix (by kernel_rfl) rfl ?_
        refine Pf 0 rfl (PS_move rfl) (Pf 1 rfl (PSn rfl) (Pf 2 rfl (PSf fa53_0 rfl) ?_))
        refine Pf 3 rfl (PS_loadA rfl tya34 (.head _) TurnV.l0 rfl) ?_
        refine Pf 4 rfl (PS_move rfl) (Pf 5 rfl (PSn rfl) (Pf 6 rfl (PSf fa53_2 rfl) ?_))
        refine Pf 7 rfl (PS_load rfl tys35 (.head _) TurnV.l2 rfl rfl) ?_
        refine Plan_chain 8 rfl (by kernel_rfl) ?_
        refine GL_unit (PU_store (Lens.id Land.fl.len Land.fl.one) rfl rfl rfl sz34 rfl (.tail (.tail .head))) ?_
        refine GL_hand0 rfl ⟨?_, ?_⟩
        · exact (Po rfl (PS_load rfl tys35 (.head _) TurnV.l2 rfl rfl) rfl rfl (Po rfl (PSf fa53_2 rfl) rfl rfl (Po rfl (PSn rfl) rfl rfl (Po rfl (PS_move rfl) rfl rfl (Pk (Pk (Pk (Pk Pend_nil))))))))
        refine Pf 9 rfl (PS_assign rfl) ?_
        refine Pf 10 rfl (PS_assign rfl) ?_
        refine Plan_end (by kernel_rfl) ?_
        refine GQ_sub (.t3 6 7 8) ?_
        refine GQ_then ?_
        refine G_ret ?_
        refine GQ_ret rfl (.cell rfl (.tail _ (.tail _ (.head _))) (.inl ⟨(by rw [Land.fl.len]; exact tya34), rfl⟩) (.tmp rfl (.tmp rfl .nil))) ?_
        intro w1 hS
        have hS := (hS.perm (Pulls.perm (.cons (.tail .head) .nil))).headL
        have ha : Turn.act (⟨X, b, []⟩ : Turn) o = _ := ((if_f c4).trans ((if_f c5).trans ((if_f c6).trans (if_t c7))))
        have hq : Turn.doR X b o = ((Turn.act (⟨X, b, []⟩ : Turn) o).w, (Turn.act (⟨X, b, []⟩ : Turn) o).out, 0) := ((if_f c1).trans ((if_f c2).trans (if_f c3)))
        rw [ha] at hq
        refine ⟨_, ⟨?gq7, ?hv7, ?hl7, ?hB7⟩, hS⟩
        case hB7 => rw [hq]; (try rfl)
        case hv7 => rw [hq]; (try rfl)
        case hl7 => rw [hq]; (try dsimp only); exact y23
       ·
        have c7p := c7; try simp only [kk] at c7p
        refine Gs ?_
        refine Gt (PSf fa47_0 rfl) ?_
        refine Gt (PS_load rfl tys3 (.tail _ (.tail _ (.head _))) Order.l0 rfl rfl) ?_
        refine Gt (PS_eql rfl rfl) ?_
        refine Ga rfl ?_
        refine Gn (.t4 5 6 9 83) ?_
        refine Gc (fun c8 => ?_) (fun c8 => ?_)
        ·
         have c8p := c8; try simp only [kk] at c8p
         refine G_region ?_
         refine Gm rfl ?_
         refine GL_nilF Ing.Event.enc 60 16 ?_
         refine GL_callL rfl cf30 (.cons rfl .nil) (.cons (.tail .head) (.cons .head .nil)) (rules_turn_fade_spec _ (⟨X, b, []⟩ : Turn) _ rfl hF (Nat.zero_le _)) (fun v25 B hv => ?_)
         obtain ⟨y26, rfl, y27, rfl⟩ := hv
         refine GL_nil (GQ_sub (.t2 6 9) ?_)
         refine GQ_block ?_
         refine GQ_then ?_
         refine G_seq ?_
         refine G_planN (N := 11) [0, 1, 3, 7, 0, 16, 48, 112, 15, 511, 1023] mix (by kernel_rfl) rfl ?_
         refine Pf 0 rfl (PS_move rfl) (Pf 1 rfl (PSn rfl) (Pf 2 rfl (PSf fa53_0 rfl) ?_))
         refine Pf 3 rfl (PS_loadA rfl tya34 (.head _) TurnV.l0 rfl) ?_
         refine Pf 4 rfl (PS_move rfl) (Pf 5 rfl (PSn rfl) (Pf 6 rfl (PSf fa53_2 rfl) ?_))
         refine Pf 7 rfl (PS_load rfl tys35 (.head _) TurnV.l2 rfl rfl) ?_
         refine Plan_chain 8 rfl (by kernel_rfl) ?_
         refine GL_unit (PU_store (Lens.id Land.fl.len Land.fl.one) rfl rfl rfl sz34 rfl (.tail (.tail .head))) ?_
         refine GL_hand0 rfl ⟨?_, ?_⟩
         · exact (Po rfl (PS_load rfl tys35 (.head _) TurnV.l2 rfl rfl) rfl rfl (Po rfl (PSf fa53_2 rfl) rfl rfl (Po rfl (PSn rfl) rfl rfl (Po rfl (PS_move rfl) rfl rfl (Pk (Pk (Pk (Pk Pend_nil))))))))
         refine Pf 9 rfl (PS_assign rfl) ?_
         refine Pf 10 rfl (PS_assign rfl) ?_
         refine Plan_end (by kernel_rfl) ?_
         refine GQ_sub (.t3 6 7 8) ?_
         refine GQ_then ?_
         refine G_ret ?_
         refine GQ_ret rfl (.cell rfl (.tail _ (.tail _ (.head _))) (.inl ⟨(by rw [Land.fl.len]; exact tya34), rfl⟩) (.tmp rfl (.tmp rfl .nil))) ?_
         intro w1 hS
         have hS := (hS.perm (Pulls.perm (.cons (.tail .head) .nil))).headL
         have ha : Turn.act (⟨X, b, []⟩ : Turn) o = _ := ((if_f c4).trans ((if_f c5).trans ((if_f c6).trans ((if_f c7).trans (if_t c8)))))
         have hq : Turn.doR X b o = ((Turn.act (⟨X, b, []⟩ : Turn) o).w, (Turn.act (⟨X, b, []⟩ : Turn) o).out, 0) := ((if_f c1).trans ((if_f c2).trans (if_f c3)))
         rw [ha] at hq
         refine ⟨_, ⟨?gq8, ?hv8, ?hl8, ?hB8⟩, hS⟩
         case hB8 => rw [hq]; (try rfl)
         case hv8 => rw [hq]; (try rfl)
         case hl8 => rw [hq]; (try dsimp only); exact y27
        ·
         have c8p := c8; try simp only [kk] at c8p
         refine Gs ?_
         refine Gt (PSf fa47_0 rfl) ?_
         refine Gt (PS_load rfl tys3 (.tail _ (.tail _ (.head _))) Order.l0 rfl rfl) ?_
         refine Gt (PS_eql rfl rfl) ?_
         refine Ga rfl ?_
         refine Gn (.t4 5 6 9 89) ?_
         refine Gc (fun c9 => ?_) (fun c9 => ?_)
         ·
          have c9p := c9; try simp only [kk] at c9p
          refine G_region ?_
          refine Gm rfl ?_
          refine Gt (PS_loadA rfl tya47 (.tail _ (.tail _ (.head _))) (Lens.id Order.fl.len Order.fl.one) rfl) ?_
          refine GL_nilF Ing.Event.enc 60 16 ?_
          refine GL_callR rfl cf31 (.cons rfl (.cons rfl .nil)) (.cons (.tail .head) (.cons .head .nil)) (rules_turn_fight_spec _ (⟨X, b, []⟩ : Turn) _ o rfl hF hm (Nat.zero_le _)) (fun w hS => ⟨gl1.pull gm1 hS (.cons (.tail .head) (.cons .head .nil)), gl2.pull gm2 hS (.cons (.tail .head) (.cons .head .nil))⟩) (fun v29 B hv => ?_)
          obtain ⟨y30, rfl, y31, rfl⟩ := hv
          refine GL_nil (GQ_sub (.t2 6 9) ?_)
          refine GQ_block ?_
          refine GQ_then ?_
          refine G_seq ?_
          refine G_planN (N := 11) [0, 1, 3, 7, 0, 16, 48, 112, 15, 511, 1023] mix (by kernel_rfl) rfl ?_
          refine Pf 0 rfl (PS_move rfl) (Pf 1 rfl (PSn rfl) (Pf 2 rfl (PSf fa53_0 rfl) ?_))
          refine Pf 3 rfl (PS_loadA rfl tya34 (.head _) TurnV.l0 rfl) ?_
          refine Pf 4 rfl (PS_move rfl) (Pf 5 rfl (PSn rfl) (Pf 6 rfl (PSf fa53_2 rfl) ?_))
          refine Pf 7 rfl (PS_load rfl tys35 (.head _) TurnV.l2 rfl rfl) ?_
          refine Plan_chain 8 rfl (by kernel_rfl) ?_
          refine GL_unit (PU_store (Lens.id Land.fl.len Land.fl.one) rfl rfl rfl sz34 rfl (.tail (.tail .head))) ?_
          refine GL_hand0 rfl ⟨?_, ?_⟩
          · exact (Po rfl (PS_load rfl tys35 (.head _) TurnV.l2 rfl rfl) rfl rfl (Po rfl (PSf fa53_2 rfl) rfl rfl (Po rfl (PSn rfl) rfl rfl (Po rfl (PS_move rfl) rfl rfl (Pk (Pk (Pk (Pk Pend_nil))))))))
          refine Pf 9 rfl (PS_assign rfl) ?_
          refine Pf 10 rfl (PS_assign rfl) ?_
          refine Plan_end (by kernel_rfl) ?_
          refine GQ_sub (.t3 6 7 8) ?_
          refine GQ_then ?_
          refine G_ret ?_
          refine GQ_ret rfl (.cell rfl (.tail _ (.tail _ (.head _))) (.inl ⟨(by rw [Land.fl.len]; exact tya34), rfl⟩) (.tmp rfl (.tmp rfl .nil))) ?_
          intro w1 hS
          have hS := (hS.perm (Pulls.perm (.cons (.tail .head) .nil))).headL
          have ha : Turn.act (⟨X, b, []⟩ : Turn) o = _ := ((if_f c4).trans ((if_f c5).trans ((if_f c6).trans ((if_f c7).trans ((if_f c8).trans (if_t c9))))))
          have hq : Turn.doR X b o = ((Turn.act (⟨X, b, []⟩ : Turn) o).w, (Turn.act (⟨X, b, []⟩ : Turn) o).out, 0) := ((if_f c1).trans ((if_f c2).trans (if_f c3)))
          rw [ha] at hq
          refine ⟨_, ⟨?gq9, ?hv9, ?hl9, ?hB9⟩, hS⟩
          case hB9 => rw [hq]; (try rfl)
          case hv9 => rw [hq]; (try rfl)
          case hl9 => rw [hq]; (try dsimp only); exact y31
         ·
          have c9p := c9; try simp only [kk] at c9p
          refine Gs ?_
          refine Gt (PSf fa47_0 rfl) ?_
          refine Gt (PS_load rfl tys3 (.tail _ (.tail _ (.head _))) Order.l0 rfl rfl) ?_
          refine Gt (PS_eql rfl rfl) ?_
          refine Ga rfl ?_
          refine Gn (.t4 5 6 9 96) ?_
          refine Gc (fun c10 => ?_) (fun c10 => ?_)
          ·
           have c10p := c10; try simp only [kk] at c10p
           refine G_region ?_
           refine Gm rfl ?_
           refine Gt (PS_loadA rfl tya47 (.tail _ (.tail _ (.head _))) (Lens.id Order.fl.len Order.fl.one) rfl) ?_
           refine GL_nilF Ing.Event.enc 60 16 ?_
           refine GL_callR rfl cf32 (.cons rfl (.cons rfl .nil)) (.cons (.tail .head) (.cons .head .nil)) (rules_turn_get_spec _ (⟨X, b, []⟩ : Turn) _ o rfl hF hu (Nat.zero_le _)) (fun w hS => ⟨gl1.pull gm1 hS (.cons (.tail .head) (.cons .head .nil)), gl2.pull gm2 hS (.cons (.tail .head) (.cons .head .nil))⟩) (fun v33 B hv => ?_)
           obtain ⟨y34, rfl, y35, rfl⟩ := hv
           refine GL_nil (GQ_sub (.t2 6 9) ?_)
           refine GQ_block ?_
           refine GQ_then ?_
           refine G_seq ?_
           refine G_planN (N := 11) [0, 1, 3, 7, 0, 16, 48, 112, 15, 511, 1023] mix (by kernel_rfl) rfl ?_
           refine Pf 0 rfl (PS_move rfl) (Pf 1 rfl (PSn rfl) (Pf 2 rfl (PSf fa53_0 rfl) ?_))
           refine Pf 3 rfl (PS_loadA rfl tya34 (.head _) TurnV.l0 rfl) ?_
           refine Pf 4 rfl (PS_move rfl) (Pf 5 rfl (PSn rfl) (Pf 6 rfl (PSf fa53_2 rfl) ?_))
           refine Pf 7 rfl (PS_load rfl tys35 (.head _) TurnV.l2 rfl rfl) ?_
           refine Plan_chain 8 rfl (by kernel_rfl) ?_
           refine GL_unit (PU_store (Lens.id Land.fl.len Land.fl.one) rfl rfl rfl sz34 rfl (.tail (.tail .head))) ?_
           refine GL_hand0 rfl ⟨?_, ?_⟩
           · exact (Po rfl (PS_load rfl tys35 (.head _) TurnV.l2 rfl rfl) rfl rfl (Po rfl (PSf fa53_2 rfl) rfl rfl (Po rfl (PSn rfl) rfl rfl (Po rfl (PS_move rfl) rfl rfl (Pk (Pk (Pk (Pk Pend_nil))))))))
           refine Pf 9 rfl (PS_assign rfl) ?_
           refine Pf 10 rfl (PS_assign rfl) ?_
           refine Plan_end (by kernel_rfl) ?_
           refine GQ_sub (.t3 6 7 8) ?_
           refine GQ_then ?_
           refine G_ret ?_
           refine GQ_ret rfl (.cell rfl (.tail _ (.tail _ (.head _))) (.inl ⟨(by rw [Land.fl.len]; exact tya34), rfl⟩) (.tmp rfl (.tmp rfl .nil))) ?_
           intro w1 hS
           have hS := (hS.perm (Pulls.perm (.cons (.tail .head) .nil))).headL
           have ha : Turn.act (⟨X, b, []⟩ : Turn) o = _ := ((if_f c4).trans ((if_f c5).trans ((if_f c6).trans ((if_f c7).trans ((if_f c8).trans ((if_f c9).trans (if_t c10)))))))
           have hq : Turn.doR X b o = ((Turn.act (⟨X, b, []⟩ : Turn) o).w, (Turn.act (⟨X, b, []⟩ : Turn) o).out, 0) := ((if_f c1).trans ((if_f c2).trans (if_f c3)))
           rw [ha] at hq
           refine ⟨_, ⟨?gq10, ?hv10, ?hl10, ?hB10⟩, hS⟩
           case hB10 => rw [hq]; (try rfl)
           case hv10 => rw [hq]; (try rfl)
           case hl10 => rw [hq]; (try dsimp only); exact y35
          ·
           have c10p := c10; try simp only [kk] at c10p
           refine Gs ?_
           refine Gt (PSf fa47_0 rfl) ?_
           refine Gt (PS_load rfl tys3 (.tail _ (.tail _ (.head _))) Order.l0 rfl rfl) ?_
           refine Gt (PS_eql rfl rfl) ?_
           refine Gm rfl ?_
           refine GL_gf (t := 107) rfl rfl rfl (fun q => PSf fa47_0 rfl) ?_
           refine GL_gf (t := 107) rfl rfl rfl (fun q => PS_load (cF rfl q) tys3 (.tail _ (.tail _ (.head _))) Order.l0 rfl rfl) ?_
           refine GL_gf (t := 107) rfl rfl rfl (fun q => PS_eql (cF rfl q) rfl) ?_
           refine Gt (PS_or rfl rfl (fun h => by rw [h]; rfl)) ?_
           refine Gm rfl ?_
           refine GL_gf (t := 112) rfl rfl rfl (fun q => PSf fa47_0 rfl) ?_
           refine GL_gf (t := 112) rfl rfl rfl (fun q => PS_load (cF rfl q) tys3 (.tail _ (.tail _ (.head _))) Order.l0 rfl rfl) ?_
           refine GL_gf (t := 112) rfl rfl rfl (fun q => PS_eql (cF rfl q) rfl) ?_
           refine Gt (PS_or rfl rfl (fun h => by rw [h]; rfl)) ?_
           refine Ga rfl ?_
           refine Gn (.t4 5 6 9 103) ?_
           refine Gc (fun c11 => ?_) (fun c11 => ?_)
           ·
            have c11p := c11; try simp only [kk] at c11p
            refine G_region ?_
            refine Gm rfl ?_
            refine Gt (PS_loadA rfl tya47 (.tail _ (.tail _ (.head _))) (Lens.id Order.fl.len Order.fl.one) rfl) ?_
            refine GL_nilF Ing.Event.enc 60 16 ?_
            refine GL_callR rfl cf33 (.cons rfl (.cons rfl .nil)) (.cons (.tail .head) (.cons .head .nil)) (rules_turn_let_spec _ (⟨X, b, []⟩ : Turn) _ o rfl hF (by omega) hu (Nat.zero_le _)) (fun w hS => ⟨gl1.pull gm1 hS (.cons (.tail .head) (.cons .head .nil)), gl2.pull gm2 hS (.cons (.tail .head) (.cons .head .nil))⟩) (fun v37 B hv => ?_)
            obtain ⟨y38, rfl, y39, rfl⟩ := hv
            refine GL_nil (GQ_sub (.t2 6 9) ?_)
            refine GQ_block ?_
            refine GQ_then ?_
            refine G_seq ?_
            refine G_planN (N := 11) [0, 1, 3, 7, 0, 16, 48, 112, 15, 511, 1023] mix (by kernel_rfl) rfl ?_
            refine Pf 0 rfl (PS_move rfl) (Pf 1 rfl (PSn rfl) (Pf 2 rfl (PSf fa53_0 rfl) ?_))
            refine Pf 3 rfl (PS_loadA rfl tya34 (.head _) TurnV.l0 rfl) ?_
            refine Pf 4 rfl (PS_move rfl) (Pf 5 rfl (PSn rfl) (Pf 6 rfl (PSf fa53_2 rfl) ?_))
            refine Pf 7 rfl (PS_load rfl tys35 (.head _) TurnV.l2 rfl rfl) ?_
            refine Plan_chain 8 rfl (by kernel_rfl) ?_
            refine GL_unit (PU_store (Lens.id Land.fl.len Land.fl.one) rfl rfl rfl sz34 rfl (.tail (.tail .head))) ?_
            refine GL_hand0 rfl ⟨?_, ?_⟩
            · exact (Po rfl (PS_load rfl tys35 (.head _) TurnV.l2 rfl rfl) rfl rfl (Po rfl (PSf fa53_2 rfl) rfl rfl (Po rfl (PSn rfl) rfl rfl (Po rfl (PS_move rfl) rfl rfl (Pk (Pk (Pk (Pk Pend_nil))))))))
            refine Pf 9 rfl (PS_assign rfl) ?_
            refine Pf 10 rfl (PS_assign rfl) ?_
            refine Plan_end (by kernel_rfl) ?_
            refine GQ_sub (.t3 6 7 8) ?_
            refine GQ_then ?_
            refine G_ret ?_
            refine GQ_ret rfl (.cell rfl (.tail _ (.tail _ (.head _))) (.inl ⟨(by rw [Land.fl.len]; exact tya34), rfl⟩) (.tmp rfl (.tmp rfl .nil))) ?_
            intro w1 hS
            have hS := (hS.perm (Pulls.perm (.cons (.tail .head) .nil))).headL
            have ha : Turn.act (⟨X, b, []⟩ : Turn) o = _ := ((if_f c4).trans ((if_f c5).trans ((if_f c6).trans ((if_f c7).trans ((if_f c8).trans ((if_f c9).trans ((if_f c10).trans (if_t c11))))))))
            have hq : Turn.doR X b o = ((Turn.act (⟨X, b, []⟩ : Turn) o).w, (Turn.act (⟨X, b, []⟩ : Turn) o).out, 0) := ((if_f c1).trans ((if_f c2).trans (if_f c3)))
            rw [ha] at hq
            refine ⟨_, ⟨?gq11, ?hv11, ?hl11, ?hB11⟩, hS⟩
            case hB11 => rw [hq]; (try rfl)
            case hv11 => rw [hq]; (try rfl)
            case hl11 => rw [hq]; (try dsimp only); exact y39
           ·
            have c11p := c11; try simp only [kk] at c11p
            refine G_region ?_
            refine Gm rfl ?_
            refine Gt (PS_loadA rfl tya47 (.tail _ (.tail _ (.head _))) (Lens.id Order.fl.len Order.fl.one) rfl) ?_
            refine GL_nilF Ing.Event.enc 60 16 ?_
            refine GL_callR rfl cf34 (.cons rfl (.cons rfl .nil)) (.cons (.tail .head) (.cons .head .nil)) (rules_turn_set_spec _ (⟨X, b, []⟩ : Turn) _ o rfl hF (by omega) (Nat.zero_le _)) (fun w hS => gl0.pull gm0 hS (.cons (.tail .head) (.cons .head .nil))) (fun v41 B hv => ?_)
            obtain ⟨y42, rfl, y43, rfl⟩ := hv
            refine GL_nil (GQ_sub (.t2 6 9) ?_)
            refine GQ_block ?_
            refine GQ_then ?_
            refine G_seq ?_
            refine G_planN (N := 11) [0, 1, 3, 7, 0, 16, 48, 112, 15, 511, 1023] mix (by kernel_rfl) rfl ?_
            refine Pf 0 rfl (PS_move rfl) (Pf 1 rfl (PSn rfl) (Pf 2 rfl (PSf fa53_0 rfl) ?_))
            refine Pf 3 rfl (PS_loadA rfl tya34 (.head _) TurnV.l0 rfl) ?_
            refine Pf 4 rfl (PS_move rfl) (Pf 5 rfl (PSn rfl) (Pf 6 rfl (PSf fa53_2 rfl) ?_))
            refine Pf 7 rfl (PS_load rfl tys35 (.head _) TurnV.l2 rfl rfl) ?_
            refine Plan_chain 8 rfl (by kernel_rfl) ?_
            refine GL_unit (PU_store (Lens.id Land.fl.len Land.fl.one) rfl rfl rfl sz34 rfl (.tail (.tail .head))) ?_
            refine GL_hand0 rfl ⟨?_, ?_⟩
            · exact (Po rfl (PS_load rfl tys35 (.head _) TurnV.l2 rfl rfl) rfl rfl (Po rfl (PSf fa53_2 rfl) rfl rfl (Po rfl (PSn rfl) rfl rfl (Po rfl (PS_move rfl) rfl rfl (Pk (Pk (Pk (Pk Pend_nil))))))))
            refine Pf 9 rfl (PS_assign rfl) ?_
            refine Pf 10 rfl (PS_assign rfl) ?_
            refine Plan_end (by kernel_rfl) ?_
            refine GQ_sub (.t3 6 7 8) ?_
            refine GQ_then ?_
            refine G_ret ?_
            refine GQ_ret rfl (.cell rfl (.tail _ (.tail _ (.head _))) (.inl ⟨(by rw [Land.fl.len]; exact tya34), rfl⟩) (.tmp rfl (.tmp rfl .nil))) ?_
            intro w1 hS
            have hS := (hS.perm (Pulls.perm (.cons (.tail .head) .nil))).headL
            have ha : Turn.act (⟨X, b, []⟩ : Turn) o = _ := ((if_f c4).trans ((if_f c5).trans ((if_f c6).trans ((if_f c7).trans ((if_f c8).trans ((if_f c9).trans ((if_f c10).trans (if_f c11))))))))
            have hq : Turn.doR X b o = ((Turn.act (⟨X, b, []⟩ : Turn) o).w, (Turn.act (⟨X, b, []⟩ : Turn) o).out, 0) := ((if_f c1).trans ((if_f c2).trans (if_f c3)))
            rw [ha] at hq
            refine ⟨_, ⟨?gq12, ?hv12, ?hl12, ?hB12⟩, hS⟩
            case hB12 => rw [hq]; (try rfl)
            case hv12 => rw [hq]; (try rfl)
            case hl12 => rw [hq]; (try dsimp only); exact y43
theorem ref_root_spec (X : Land) (i : Int) (w : World) : Ret Tryz.prog 48 #[.agg X.enc.toArray, .int .i64 i] w fun v w' => v = .tuple #[.int .i64 (Land.root X i).1, .int .i64 (Land.root X i).2.1, .bool (Land.root X i).2.2.1, .bool (Land.root X i).2.2.2] ∧ Keep w w' := by
 refine Ret_body [] [] Tryz.func48 rfl rfl rfl (St.start w []) ?_
 refine Gs ?_
 refine GL_box rfl rfl rfl (fun b1 => ?_)
 refine Ga rfl (Ga rfl (Ga rfl (Ga rfl ?_)))
 refine Gn (.t2 1 2) ?_
 refine Gs ?_
 refine Ga rfl ?_
 refine GL_nil ?_
 refine GQ_then ?_
 refine Gs ?_
 refine GL_makeMap rfl (fun b2 => ?_)
 refine Ga rfl ?_
 refine Gn (.t4 1 2 6 8) ?_
 refine G_seq ?_
 refine G_block ?_
 refine G_subF (.t4 1 6 2 8) ?_
 refine G_loop3_ (fun (j : Int) (o : Bool) (s : List Int) => Land.root X i = X.rootF (10 - s.length) j o ∧ X.SeenI s j) (fun (j : Int) (o : Bool) (s : List Int) => leftN s) (fun (j : Int) (o : Bool) (s : List Int) => [(1, .int .i64 j), (6, .bool o)]) (fun (j : Int) (o : Bool) (s : List Int) => [Res.imap b2 (kvOf s)]) (i) (true) ([]) ?_ rfl rfl (fun j o s hI1 => ?_)
 · exact ⟨rfl, Land.SeenI.start X i⟩
 obtain ⟨hI11, hI12⟩ := hI1
 refine Gss ?_
 refine Gm rfl ?_
 refine Gt (PS_geq rfl rfl) ?_
 refine Gm rfl ?_
 refine GL_gt (t := 13) rfl rfl rfl (fun q => PS_move rfl) ?_
 refine GL_gt (t := 13) rfl rfl rfl (fun q => PS_lss (cvE rfl q) rfl) ?_
 refine Gt (PS_and rfl rfl (fun h => h)) ?_
 refine Gm rfl ?_
 refine GL_gt (t := 17) rfl rfl rfl (fun q => PS_move rfl) ?_
 refine GL_gt (t := 17) rfl rfl rfl (fun q => PS_move rfl) ?_
 refine GL_gt (t := 17) rfl rfl rfl (fun q => PS_conv (PS_lookup1 Tryz.underlying95 Tryz.underlying3 zv4 (cvE rfl q) (cvE rfl q) (.head _)) (seen_eq _ _)) ?_
 refine GL_gt (t := 17) rfl rfl rfl (fun q => PS_not (cvE rfl q)) ?_
 refine Gt (PS_and rfl rfl (fun h => h)) ?_
 refine Gn (.t5 1 2 6 8 22) ?_
 refine Gc (fun c1 => ?_) (fun c1 => ?_)
 ·
  have c1p := c1; try simp only [kk] at c1p
  have hr : 0 ≤ j ∧ j < 9 ∧ j ∉ s := by simp at c1; exact ⟨c1.1.1, c1.1.2, c1.2⟩
  obtain ⟨hj0, hj9, hns⟩ := hr
  refine G_skip ?_
  refine GQ_sub (.t4 1 2 6 8) ?_
  refine GQ_then ?_
  refine G_block ?_
  refine Gs ?_
  refine Gm rfl (Gm rfl ?_)
  refine GL_unit (PU_mapSet Tryz.underlying95 Tryz.underlying3 rfl rfl rfl (seen_none hns) .head).1 ?_
  refine Gn (.t4 1 2 6 8) ?_
  refine Gs ?_
  refine Gm rfl (Gt (PSf fa34_1 rfl) ?_)
  refine Gt (PS_indexAddr ia29 rfl rfl (by omega) (by omega)) ?_
  refine Gt (PS_loadA rfl tya28 (.tail _ (.head _)) (Land.l1.comp (Lens.ar (n := 9) Thing.fl (by omega))) rfl) ?_
  refine GL_alloc rfl zv28 rfl (fun b3 => ?_)
  refine GL_unit (PU_store (Lens.id Thing.fl.len Thing.fl.one) rfl rfl rfl sz28 rfl .head) ?_
  refine Gn (.t4 2 6 8 9) ?_
  refine Gss ?_
  refine Gt (PSf fa28_2 rfl) ?_
  refine Gt (PS_load rfl tys3 (.head _) Thing.l2 rfl rfl) ?_
  refine Gt (PS_neq rfl rfl) ?_
  refine Gn (.t5 2 6 8 9 31) ?_
  refine Gc (fun c2 => ?_) (fun c2 => ?_)
  ·
   have c2p := c2; try simp only [kk] at c2p
   refine G_seq ?_
   refine G_planN (N := 17) [0, 1, 0, 4, 0, 0, 32, 96, 224, 480, 992, 2016, 4064, 483, 8687, 25087, 65535] mix (by kernel_rfl) rfl ?_
   refine Pf 0 rfl (PSf fa28_2 rfl) ?_
   refine Pf 1 rfl (PS_load rfl tys3 (.head _) Thing.l2 rfl rfl) ?_
   refine Pf 2 rfl (PSf fa28_3 rfl) ?_
   refine Pf 3 rfl (PS_load rfl tys3 (.head _) Thing.l3 rfl rfl) ?_
   refine Pf 4 rfl (PS_move rfl) (Pf 5 rfl (PSf fa28_2 rfl) ?_)
   refine Pf 6 rfl (PS_load rfl tys3 (.head _) Thing.l2 rfl rfl) ?_
   refine Pf 7 rfl (PS_eql rfl rfl) ?_
   refine Pf 8 rfl (PS_move rfl) ?_
   refine Pgf 9 40 rfl rfl rfl (fun q => PSf fa28_2 rfl) ?_
   refine Pgf 10 40 rfl rfl rfl (fun q => PS_load (cF rfl q) tys3 (.head _) Thing.l2 rfl rfl) ?_
   refine Pgf 11 40 rfl rfl rfl (fun q => PS_eql (cF rfl q) rfl) ?_
   refine Pf 12 rfl (PS_or rfl rfl (fun h => by rw [h]; rfl)) ?_
   refine Pf 13 rfl (PS_assign rfl) ?_
   refine Pf 14 rfl (PS_assign rfl) ?_
   refine Pf 15 rfl (PS_assign rfl) ?_
   refine Pf 16 rfl (PS_assign rfl) ?_
   refine Plan_end (by kernel_rfl) ?_
   refine GQ_sub (.t4 4 5 6 7) ?_
   refine GQ_then ?_
   refine G_ret ?_
   refine GQ_then_ret ?_
   refine GQ_block_ret ?_
   refine GQ_then_ret ?_
   refine GQ_block_ret ?_
   refine GQ_then_ret ?_
   refine GQ_ret rfl (.tmp rfl (.tmp rfl (.tmp rfl (.tmp rfl .nil)))) ?_
   intro w1 hS; refine ⟨?_, hS.toKeep⟩; rw [hI11, hI12.out hj0 hj9 c2]; rfl
  ·
   have c2p := c2; try simp only [kk] at c2p
   have hse := hI12.next hj0 hj9 hns (by simpa using c2)
   have hst := hI12.step (o := o) hse hj0 hj9 c2
   refine G_skip ?_
   refine GQ_sub (.t4 2 6 8 9) ?_
   refine GQ_then ?_
   refine Gs ?_
   refine Gt (PSf fa28_3 rfl) ?_
   refine Gt (PS_load rfl tys3 (.head _) Thing.l3 rfl rfl) ?_
   refine Ga rfl ?_
   refine Gn (.t4 1 2 6 8) ?_
   refine Gs ?_
   refine Gm rfl ?_
   refine Gt (PS_geq rfl rfl) ?_
   refine Gm rfl ?_
   refine GL_gt (t := 49) rfl rfl rfl (fun q => PS_move rfl) ?_
   refine GL_gt (t := 49) rfl rfl rfl (fun q => PS_lss (cvE rfl q) rfl) ?_
   refine Gt (PS_and rfl rfl (fun h => h)) ?_
   refine Gn (.t5 1 2 6 8 52) ?_
   refine Gc (fun c3 => ?_) (fun c3 => ?_)
   ·
    have c3p := c3; try simp only [kk] at c3p
    have hjr : 0 ≤ (X.things.at j).at_ ∧ (X.things.at j).at_ < 9 := by simp at c3; omega
    refine G_region ?_
    refine Gm rfl (Gm rfl ?_)
    refine GL_gt (t := 54) rfl rfl rfl (fun q => PS_move rfl) ?_
    refine GL_gt (t := 54) rfl rfl rfl (fun q => PSf fa34_1 rfl) ?_
    refine GL_gt (t := 54) rfl rfl rfl (fun q => by have q1 := q; (try simp at q1); exact PS_indexAddr ia29 (cvE rfl q) (cvE rfl q) (by omega) (by omega)) ?_
    refine GL_gt (t := 54) rfl rfl rfl (fun q => PSf fa28_4 (cvE rfl q)) ?_
    refine GL_gt (t := 54) rfl rfl rfl (fun q => by have q1 := q; (try simp at q1); exact PS_load (cvE rfl q) tys4 (.tail _ (.tail _ (.head _))) ((Land.l1.comp (Lens.ar (n := 9) Thing.fl (by omega))).comp Thing.l4) rfl rfl) ?_
    refine Gt (PS_and rfl rfl (fun h => h)) ?_
    refine Ga rfl ?_
    refine GL_nil (GQ_sub (.t4 1 2 6 8) ?_)
    refine GQ_block ?_
    refine GQ_next3_ _ _ (s ++ [j]) ?_ ?_ (.t4 1 6 2 8) (by rw [kvOf_snoc]; exact (.cons _ (.refl _)))
    · exact ⟨by rw [hI11, hst, if_pos c3], hse⟩
    · have := leftN_snoc hns hj0 hj9; omega
   ·
    have c3p := c3; try simp only [kk] at c3p
    refine G_skip ?_
    refine GQ_sub (.t4 1 2 6 8) ?_
    refine GQ_block ?_
    refine GQ_next3_ _ _ (s ++ [j]) ?_ ?_ (.t4 1 6 2 8) (by rw [kvOf_snoc]; exact (.cons _ (.refl _)))
    · exact ⟨by rw [hI11, hst, if_neg (by rw [c3]; decide)], hse⟩
    · have := leftN_snoc hns hj0 hj9; omega
 ·
  have c1p := c1; try simp only [kk] at c1p
  refine G_exit ?_
  refine GQ_then_exit ?_
  refine GQ_then_exit ?_
  refine GQ_block_exit ?_
  refine GQ_sub (.nil _) ?_
  refine GQ_then ?_
  refine Gs ?_
  refine Ga rfl (Ga rfl (Ga rfl (Ga rfl ?_)))
  refine GL_nil ?_
  refine GQ_then ?_
  refine G_ret ?_
  refine GQ_ret rfl (.tmp rfl (.tmp rfl (.tmp rfl (.tmp rfl .nil)))) ?_
  intro w1 hS; refine ⟨?_, hS.toKeep⟩; rw [hI11, hI12.ends c1]; rfl
theorem ref_GoodLand_spec (X : Land) (w : World) : Ret Tryz.prog 19 #[.agg X.enc.toArray] w fun v w' => v = .bool X.refGood ∧ Keep w w' := by
 refine Ret_body [] [] Tryz.func19 rfl rfl rfl (St.start w []) ?_
 refine Gs ?_
 refine GL_box rfl rfl rfl (fun b1 => ?_)
 refine Ga rfl ?_
 refine Gn (.t1 1) ?_
 refine Gss ?_
 refine Gt (PSf fa34_0 rfl) ?_
 refine Gt (PS_loadA rfl tya26 (.head _) Land.l0 rfl) ?_
 refine Gm rfl ?_
 refine Gn (.t3 1 15 16) ?_
 refine G_block ?_
 refine G_subF (.t3 16 1 15) ?_
 refine G_loop1_ (fun (k : Int) => 0 ≤ k ∧ k ≤ 6 ∧ X.refGood = (allFrom 6 X.refRoom (6 - k).toNat && (allFrom 6 (fun k => !Land.refBadBeing (X.beings.at k)) 6 && allFrom 9 X.refThing 9))) (fun (k : Int) => (6 - k).toNat) (fun (k : Int) => [(16, .int .i64 k)]) (fun (k : Int) => []) (0) ?_ rfl rfl (fun k hI1 => ?_)
 · exact ⟨Int.le_refl _, by omega, rfl⟩
 obtain ⟨hI11, hI12, hI13⟩ := hI1
 refine Gs ?_
 refine Gt (PS_lss rfl rfl) ?_
 refine GL_nil ?_
 refine GQ_then ?_
 refine G_seq ?_
 refine Gc (fun c1 => ?_) (fun c1 => ?_)
 ·
  have c1p := c1; try simp only [kk] at c1p
  rw [allFrom_step _ (by omega)] at hI13
  refine G_skip ?_
  refine GQ_sub (.t3 1 15 16) ?_
  refine GQ_then ?_
  refine G_seq ?_
  refine G_block ?_
  refine Gs ?_
  refine Gt (PS_indexAA Room.fl Tryz.underlying26 tya25 rfl rfl (by omega) (by omega)) ?_
  refine GL_alloc rfl zv25 rfl (fun b2 => ?_)
  refine GL_unit (PU_store (Lens.id Room.fl.len Room.fl.one) rfl rfl rfl sz25 rfl .head) ?_
  refine Gn (.t4 1 4 15 16) ?_
  refine Gs ?_
  refine Gm rfl ?_
  refine GL_nil ?_
  refine GQ_then ?_
  refine G_block ?_
  refine G_subF (.t5 19 1 4 15 16) ?_
  refine G_loop1_ (fun (d : Int) => 0 ≤ d ∧ d ≤ 6 ∧ X.refRoom k = allFrom 6 (fun d => !Land.refBadExit (X.rooms.at k) d) (6 - d).toNat) (fun (d : Int) => (6 - d).toNat) (fun (d : Int) => [(19, .int .i64 d)]) (fun (d : Int) => []) (0) ?_ rfl rfl (fun d hI2 => ?_)
  · exact ⟨Int.le_refl _, by omega, rfl⟩
  obtain ⟨hI21, hI22, hI23⟩ := hI2
  refine Gs ?_
  refine Gt (PS_lss rfl rfl) ?_
  refine GL_nil ?_
  refine GQ_then ?_
  refine G_seq ?_
  refine Gc (fun c2 => ?_) (fun c2 => ?_)
  ·
   have c2p := c2; try simp only [kk] at c2p
   rw [allFrom_step _ (by omega)] at hI23
   refine G_skip ?_
   refine GQ_sub (.t5 1 4 15 16 19) ?_
   refine GQ_then ?_
   refine G_seq ?_
   refine G_block ?_
   refine Gs ?_
   refine Gm rfl (Ga rfl ?_)
   refine Gn (.t6 1 4 5 15 16 19) ?_
   refine Gs ?_
   refine Gm rfl (Gt (PSf fa25_2 rfl) ?_)
   refine Gt (PS_indexAddr ia22 rfl rfl (by omega) (by omega)) ?_
   refine Gt (PS_load rfl tys3 (.head _) (Room.l2.comp (Lens.ar (n := 6) flI (by omega))) rfl rfl) ?_
   refine Gt (PS_lss rfl rfl) ?_
   refine Gm rfl ?_
   refine GL_gf (t := 27) rfl rfl rfl (fun q => PS_move rfl) ?_
   refine GL_gf (t := 27) rfl rfl rfl (fun q => PSf fa25_2 rfl) ?_
   refine GL_gf (t := 27) rfl rfl rfl (fun q => by have q1 := q; (try simp at q1); exact PS_indexAddr ia22 (cF rfl q) (cF rfl q) (by omega) (by omega)) ?_
   refine GL_gf (t := 27) rfl rfl rfl (fun q => by have q1 := q; (try simp at q1); exact PS_load (cF rfl q) tys3 (.head _) (Room.l2.comp (Lens.ar (n := 6) flI (by omega))) rfl rfl) ?_
   refine GL_gf (t := 27) rfl rfl rfl (fun q => PS_gtr (cF rfl q) rfl) ?_
   refine Gt (PS_or rfl rfl (fun h => by rw [h]; rfl)) ?_
   refine Gm rfl ?_
   refine GL_gf (t := 34) rfl rfl rfl (fun q => PS_move rfl) ?_
   refine GL_gf (t := 34) rfl rfl rfl (fun q => PSf fa25_3 rfl) ?_
   refine GL_gf (t := 34) rfl rfl rfl (fun q => by have q1 := q; (try simp at q1); exact PS_indexAddr ia23 (cF rfl q) (cF rfl q) (by omega) (by omega)) ?_
   refine GL_gf (t := 34) rfl rfl rfl (fun q => by have q1 := q; (try simp at q1); exact PS_load (cF rfl q) tys4 (.head _) (Room.l3.comp (Lens.ar (n := 6) flB (by omega))) rfl rfl) ?_
   refine GL_gf (t := 34) rfl rfl rfl (fun q => PS_move (cF rfl q)) ?_
   refine GL_gtc (t := 39) rfl rfl rfl (fun qc q => PS_move rfl) ?_
   refine GL_gtc (t := 39) rfl rfl rfl (fun qc q => PSf fa25_2 rfl) ?_
   refine GL_gtc (t := 39) rfl rfl rfl (fun qc q => by have q1 := q; have qc1 := qc; (try simp at q1 qc1); exact PS_indexAddr ia22 (cvE rfl (by rw [qc, q]; rfl)) (cvE rfl (by rw [qc, q]; rfl)) (by omega) (by omega)) ?_
   refine GL_gtc (t := 39) rfl rfl rfl (fun qc q => by have q1 := q; have qc1 := qc; (try simp at q1 qc1); exact PS_load (cvE rfl (by rw [qc, q]; rfl)) tys3 (.head _) (Room.l2.comp (Lens.ar (n := 6) flI (by omega))) rfl rfl) ?_
   refine GL_gtc (t := 39) rfl rfl rfl (fun qc q => PS_eql (cvE rfl (by rw [qc, q]; rfl)) rfl) ?_
   refine GL_gf (t := 34) rfl rfl rfl (fun q => PS_and (cF rfl q) rfl (fun h => by rw [q, h]; rfl)) ?_
   refine Gt (PS_or rfl rfl (fun h => by rw [h]; rfl)) ?_
   refine Gn (.t6 1 4 15 16 19 46) ?_
   refine Gc (fun c3 => ?_) (fun c3 => ?_)
   ·
    have c3p := c3; try simp only [kk] at c3p
    refine Gs ?_
    refine Ga rfl ?_
    refine Gn (.t1 2) ?_
    refine G_ret ?_
    refine GQ_block_ret ?_
    refine GQ_then_ret ?_
    refine GQ_then_ret ?_
    refine GQ_block_ret ?_
    refine GQ_block_ret ?_
    refine GQ_then_ret ?_
    refine GQ_then_ret ?_
    refine GQ_block_ret ?_
    refine GQ_then_ret ?_
    refine GQ_ret rfl (.tmp rfl .nil) ?_
    intro w1 hS; refine ⟨congrArg Value.bool ?_, hS.toKeep⟩; rw [hI13, hI23, Land.refBadExit, c3]; rfl
   ·
    have c3p := c3; try simp only [kk] at c3p
    refine G_skip ?_
    refine GQ_sub (.t5 1 4 15 16 19) ?_
    refine GQ_block ?_
    refine GQ_then ?_
    refine G_region ?_
    refine Gt (PS_add rfl rfl (IntWalk.i64_in _ (by omega))) ?_
    refine Gm rfl ?_
    refine GL_nil (GQ_sub (.t5 1 4 15 16 19) ?_)
    refine GQ_next1_ (d + 1) ?_ ?_ (.t5 19 1 4 15 16) (.refl _)
    · exact ⟨by omega, by omega, by rw [hI23, Land.refBadExit, c3]; rfl⟩
    · omega
  ·
   have c2p := c2; try simp only [kk] at c2p
   obtain rfl : d = 6 := by omega
   refine G_exit ?_
   refine GQ_then_exit ?_
   refine GQ_then_exit ?_
   refine GQ_block_exit ?_
   refine GQ_sub (.t3 1 15 16) ?_
   refine GQ_block ?_
   refine GQ_then ?_
   refine G_region ?_
   refine Gt (PS_add rfl rfl (IntWalk.i64_in _ (by omega))) ?_
   refine Gm rfl ?_
   refine GL_nil (GQ_sub (.t3 1 15 16) ?_)
   refine GQ_next1_ (k + 1) ?_ ?_ (.t3 16 1 15) (.cons _ (.refl _))
   · exact ⟨by omega, by omega, by rw [hI13, hI23]; rfl⟩
   · omega
 ·
  have c1p := c1; try simp only [kk] at c1p
  obtain rfl : k = 6 := by omega
  refine G_exit ?_
  refine GQ_then_exit ?_
  refine GQ_then_exit ?_
  refine GQ_block_exit ?_
  refine GQ_sub (.t1 1) ?_
  refine GQ_then ?_
  refine Gss ?_
  refine Gt (PSf fa34_2 rfl) ?_
  refine Gt (PS_loadA rfl tya32 (.head _) Land.l2 rfl) ?_
  refine Gm rfl ?_
  refine Gn (.t3 1 50 51) ?_
  refine G_block ?_
  refine G_subF (.t3 51 1 50) ?_
  refine G_loop1_ (fun (b : Int) => 0 ≤ b ∧ b ≤ 6 ∧ X.refGood = (allFrom 6 (fun k => !Land.refBadBeing (X.beings.at k)) (6 - b).toNat && allFrom 9 X.refThing 9)) (fun (b : Int) => (6 - b).toNat) (fun (b : Int) => [(51, .int .i64 b)]) (fun (b : Int) => []) (0) ?_ rfl rfl (fun b hI3 => ?_)
  · exact ⟨Int.le_refl _, by omega, hI13⟩
  obtain ⟨hI31, hI32, hI33⟩ := hI3
  refine Gs ?_
  refine Gt (PS_lss rfl rfl) ?_
  refine GL_nil ?_
  refine GQ_then ?_
  refine G_seq ?_
  refine Gc (fun c4 => ?_) (fun c4 => ?_)
  ·
   have c4p := c4; try simp only [kk] at c4p
   rw [allFrom_step _ (by omega)] at hI33
   refine G_skip ?_
   refine GQ_sub (.t3 1 50 51) ?_
   refine GQ_then ?_
   refine G_seq ?_
   refine G_block ?_
   refine Gs ?_
   refine Gt (PS_indexAA Being.fl Tryz.underlying32 tya31 rfl rfl (by omega) (by omega)) ?_
   refine GL_alloc rfl zv31 rfl (fun b3 => ?_)
   refine GL_unit (PU_store (Lens.id Being.fl.len Being.fl.one) rfl rfl rfl sz31 rfl .head) ?_
   refine Gn (.t4 1 7 50 51) ?_
   refine Gs ?_
   refine Gt (PSf fa31_3 rfl) ?_
   refine Gt (PS_load rfl tys3 (.head _) Being.l3 rfl rfl) ?_
   refine Gt (PS_lss rfl rfl) ?_
   refine Gm rfl ?_
   refine GL_gf (t := 57) rfl rfl rfl (fun q => PSf fa31_3 rfl) ?_
   refine GL_gf (t := 57) rfl rfl rfl (fun q => PS_load (cF rfl q) tys3 (.head _) Being.l3 rfl rfl) ?_
   refine GL_gf (t := 57) rfl rfl rfl (fun q => PS_gtr (cF rfl q) rfl) ?_
   refine Gt (PS_or rfl rfl (fun h => by rw [h]; rfl)) ?_
   refine Gm rfl ?_
   refine GL_gf (t := 62) rfl rfl rfl (fun q => PSf fa31_4 rfl) ?_
   refine GL_gf (t := 62) rfl rfl rfl (fun q => PS_load (cF rfl q) tys3 (.head _) Being.l4 rfl rfl) ?_
   refine GL_gf (t := 62) rfl rfl rfl (fun q => PS_lss (cF rfl q) rfl) ?_
   refine Gt (PS_or rfl rfl (fun h => by rw [h]; rfl)) ?_
   refine Gm rfl ?_
   refine GL_gf (t := 67) rfl rfl rfl (fun q => PSf fa31_4 rfl) ?_
   refine GL_gf (t := 67) rfl rfl rfl (fun q => PS_load (cF rfl q) tys3 (.head _) Being.l4 rfl rfl) ?_
   refine GL_gf (t := 67) rfl rfl rfl (fun q => PS_gtr (cF rfl q) rfl) ?_
   refine Gt (PS_or rfl rfl (fun h => by rw [h]; rfl)) ?_
   refine Gm rfl ?_
   refine GL_gf (t := 72) rfl rfl rfl (fun q => PSf fa31_5 rfl) ?_
   refine GL_gf (t := 72) rfl rfl rfl (fun q => PS_load (cF rfl q) tys3 (.head _) Being.l5 rfl rfl) ?_
   refine GL_gf (t := 72) rfl rfl rfl (fun q => PS_lss (cF rfl q) rfl) ?_
   refine Gt (PS_or rfl rfl (fun h => by rw [h]; rfl)) ?_
   refine Gm rfl ?_
   refine GL_gf (t := 77) rfl rfl rfl (fun q => PSf fa31_5 rfl) ?_
   refine GL_gf (t := 77) rfl rfl rfl (fun q => PS_load (cF rfl q) tys3 (.head _) Being.l5 rfl rfl) ?_
   refine GL_gf (t := 77) rfl rfl rfl (fun q => PS_gtr (cF rfl q) rfl) ?_
   refine Gt (PS_or rfl rfl (fun h => by rw [h]; rfl)) ?_
   refine Gm rfl ?_
   refine GL_gf (t := 82) rfl rfl rfl (fun q => PSf fa31_1 rfl) ?_
   refine GL_gf (t := 82) rfl rfl rfl (fun q => PS_load (cF rfl q) tys4 (.head _) Being.l1 rfl rfl) ?_
   refine GL_gf (t := 82) rfl rfl rfl (fun q => PSf fa31_4 rfl) ?_
   refine GL_gf (t := 82) rfl rfl rfl (fun q => PS_load (cF rfl q) tys3 (.head _) Being.l4 rfl rfl) ?_
   refine GL_gf (t := 82) rfl rfl rfl (fun q => PS_neq (cF rfl q) rfl) ?_
   refine GL_gf (t := 82) rfl rfl rfl (fun q => PS_neq_bool Tryz.underlying4 (cF rfl q) (cF rfl q)) ?_
   refine Gt (PS_or rfl rfl (fun h => by rw [h]; rfl)) ?_
   refine Gm rfl ?_
   refine GL_gf (t := 90) rfl rfl rfl (fun q => PSf fa31_1 rfl) ?_
   refine GL_gf (t := 90) rfl rfl rfl (fun q => PS_load (cF rfl q) tys4 (.head _) Being.l1 rfl rfl) ?_
   refine GL_gf (t := 90) rfl rfl rfl (fun q => PS_not (cF rfl q)) ?_
   refine GL_gf (t := 90) rfl rfl rfl (fun q => PS_move (cF rfl q)) ?_
   refine GL_gtc (t := 94) rfl rfl rfl (fun qc q => PSf fa31_5 rfl) ?_
   refine GL_gtc (t := 94) rfl rfl rfl (fun qc q => PS_load (cvE rfl (by rw [qc, q]; rfl)) tys3 (.head _) Being.l5 rfl rfl) ?_
   refine GL_gtc (t := 94) rfl rfl rfl (fun qc q => PS_neq (cvE rfl (by rw [qc, q]; rfl)) rfl) ?_
   refine GL_gf (t := 90) rfl rfl rfl (fun q => PS_and (cF rfl q) rfl (fun h => by rw [q, h]; rfl)) ?_
   refine Gt (PS_or rfl rfl (fun h => by rw [h]; rfl)) ?_
   refine Gn (.t4 1 50 51 99) ?_
   refine Gc (fun c5 => ?_) (fun c5 => ?_)
   ·
    have c5p := c5; try simp only [kk] at c5p
    refine Gs ?_
    refine Ga rfl ?_
    refine Gn (.t1 2) ?_
    refine G_ret ?_
    refine GQ_block_ret ?_
    refine GQ_then_ret ?_
    refine GQ_then_ret ?_
    refine GQ_block_ret ?_
    refine GQ_then_ret ?_
    refine GQ_ret rfl (.tmp rfl .nil) ?_
    intro w1 hS; refine ⟨congrArg Value.bool ?_, hS.toKeep⟩; rw [hI33, Land.refBadBeing, c5]; rfl
   ·
    have c5p := c5; try simp only [kk] at c5p
    refine G_skip ?_
    refine GQ_sub (.t3 1 50 51) ?_
    refine GQ_block ?_
    refine GQ_then ?_
    refine G_region ?_
    refine Gt (PS_add rfl rfl (IntWalk.i64_in _ (by omega))) ?_
    refine Gm rfl ?_
    refine GL_nil (GQ_sub (.t3 1 50 51) ?_)
    refine GQ_next1_ (b + 1) ?_ ?_ (.t3 51 1 50) (.cons _ (.refl _))
    · exact ⟨by omega, by omega, by rw [hI33, Land.refBadBeing, c5]; rfl⟩
    · omega
  ·
   have c4p := c4; try simp only [kk] at c4p
   obtain rfl : b = 6 := by omega
   refine G_exit ?_
   refine GQ_then_exit ?_
   refine GQ_then_exit ?_
   refine GQ_block_exit ?_
   refine GQ_sub (.t1 1) ?_
   refine GQ_then ?_
   refine Gss ?_
   refine Gt (PSf fa34_1 rfl) ?_
   refine Gt (PS_loadA rfl tya29 (.head _) Land.l1 rfl) ?_
   refine Gm rfl ?_
   refine Gn (.t3 1 102 103) ?_
   refine G_block ?_
   refine G_subF (.t3 103 1 102) ?_
   refine G_loop1_ (fun (t : Int) => 0 ≤ t ∧ t ≤ 9 ∧ X.refGood = allFrom 9 X.refThing (9 - t).toNat) (fun (t : Int) => (9 - t).toNat) (fun (t : Int) => [(103, .int .i64 t)]) (fun (t : Int) => []) (0) ?_ rfl rfl (fun t hI4 => ?_)
   · exact ⟨Int.le_refl _, by omega, hI33⟩
   obtain ⟨hI41, hI42, hI43⟩ := hI4
   refine Gs ?_
   refine Gt (PS_lss rfl rfl) ?_
   refine GL_nil ?_
   refine GQ_then ?_
   refine G_seq ?_
   refine Gc (fun c6 => ?_) (fun c6 => ?_)
   ·
    have c6p := c6; try simp only [kk] at c6p
    rw [allFrom_step _ (by omega)] at hI43
    refine G_skip ?_
    refine GQ_sub (.t3 1 102 103) ?_
    refine GQ_then ?_
    refine G_seq ?_
    refine G_block ?_
    refine Gs ?_
    refine Gm rfl ?_
    refine Gt (PS_indexAA Thing.fl Tryz.underlying29 tya28 rfl rfl (by omega) (by omega)) ?_
    refine GL_alloc rfl zv28 rfl (fun b4 => ?_)
    refine Ga rfl ?_
    refine GL_unit (PU_store (Lens.id Thing.fl.len Thing.fl.one) rfl rfl rfl sz28 rfl .head) ?_
    refine Gn (.t5 1 8 9 102 103) ?_
    refine Gss ?_
    refine Gt (PSf fa28_1 rfl) ?_
    refine Gt (PS_load rfl tys3 (.head _) Thing.l1 rfl rfl) ?_
    refine Gt (PS_lss rfl rfl) ?_
    refine Gm rfl ?_
    refine GL_gf (t := 110) rfl rfl rfl (fun q => PSf fa28_1 rfl) ?_
    refine GL_gf (t := 110) rfl rfl rfl (fun q => PS_load (cF rfl q) tys3 (.head _) Thing.l1 rfl rfl) ?_
    refine GL_gf (t := 110) rfl rfl rfl (fun q => PS_gtr (cF rfl q) rfl) ?_
    refine Gt (PS_or rfl rfl (fun h => by rw [h]; rfl)) ?_
    refine Gm rfl ?_
    refine GL_gf (t := 115) rfl rfl rfl (fun q => PSf fa28_1 rfl) ?_
    refine GL_gf (t := 115) rfl rfl rfl (fun q => PS_load (cF rfl q) tys3 (.head _) Thing.l1 rfl rfl) ?_
    refine GL_gf (t := 115) rfl rfl rfl (fun q => PS_eql (cF rfl q) rfl) ?_
    refine GL_gf (t := 115) rfl rfl rfl (fun q => PS_move (cF rfl q)) ?_
    refine GL_gtc (t := 119) rfl rfl rfl (fun qc q => PSf fa28_4 rfl) ?_
    refine GL_gtc (t := 119) rfl rfl rfl (fun qc q => PS_load (cvE rfl (by rw [qc, q]; rfl)) tys4 (.head _) Thing.l4 rfl rfl) ?_
    refine GL_gf (t := 115) rfl rfl rfl (fun q => PS_and (cF rfl q) rfl (fun h => by rw [q, h]; rfl)) ?_
    refine Gt (PS_or rfl rfl (fun h => by rw [h]; rfl)) ?_
    refine Gm rfl ?_
    refine GL_gf (t := 124) rfl rfl rfl (fun q => PSf fa28_1 rfl) ?_
    refine GL_gf (t := 124) rfl rfl rfl (fun q => PS_load (cF rfl q) tys3 (.head _) Thing.l1 rfl rfl) ?_
    refine GL_gf (t := 124) rfl rfl rfl (fun q => PS_eql (cF rfl q) rfl) ?_
    refine GL_gf (t := 124) rfl rfl rfl (fun q => PS_move (cF rfl q)) ?_
    refine GL_gtc (t := 128) rfl rfl rfl (fun qc q => PSf fa28_4 rfl) ?_
    refine GL_gtc (t := 128) rfl rfl rfl (fun qc q => PS_load (cvE rfl (by rw [qc, q]; rfl)) tys4 (.head _) Thing.l4 rfl rfl) ?_
    refine GL_gf (t := 124) rfl rfl rfl (fun q => PS_and (cF rfl q) rfl (fun h => by rw [q, h]; rfl)) ?_
    refine GL_gf (t := 124) rfl rfl rfl (fun q => PS_move (cF rfl q)) ?_
    refine GL_gtc (t := 132) rfl rfl rfl (fun qc q => PSf fa28_2 rfl) ?_
    refine GL_gtc (t := 132) rfl rfl rfl (fun qc q => PS_load (cvE rfl (by rw [qc, q]; rfl)) tys3 (.head _) Thing.l2 rfl rfl) ?_
    refine GL_gtc (t := 132) rfl rfl rfl (fun qc q => PS_neq (cvE rfl (by rw [qc, q]; rfl)) rfl) ?_
    refine GL_gf (t := 124) rfl rfl rfl (fun q => PS_and (cF rfl q) rfl (fun h => by rw [q, h]; rfl)) ?_
    refine Gt (PS_or rfl rfl (fun h => by rw [h]; rfl)) ?_
    refine Gm rfl ?_
    refine GL_gf (t := 138) rfl rfl rfl (fun q => PSf fa28_2 rfl) ?_
    refine GL_gf (t := 138) rfl rfl rfl (fun q => PS_load (cF rfl q) tys3 (.head _) Thing.l2 rfl rfl) ?_
    refine GL_gf (t := 138) rfl rfl rfl (fun q => PS_eql (cF rfl q) rfl) ?_
    refine GL_gf (t := 138) rfl rfl rfl (fun q => PS_move (cF rfl q)) ?_
    refine GL_gtc (t := 142) rfl rfl rfl (fun qc q => PSf fa28_3 rfl) ?_
    refine GL_gtc (t := 142) rfl rfl rfl (fun qc q => PS_load (cvE rfl (by rw [qc, q]; rfl)) tys3 (.head _) Thing.l3 rfl rfl) ?_
    refine GL_gtc (t := 142) rfl rfl rfl (fun qc q => PS_lss (cvE rfl (by rw [qc, q]; rfl)) rfl) ?_
    refine GL_gtc (t := 142) rfl rfl rfl (fun qc q => PS_move (cvE rfl (by rw [qc, q]; rfl))) ?_
    refine GL_gfc (t := 146) rfl rfl rfl (fun qc q => PSf fa28_3 rfl) ?_
    refine GL_gfc (t := 146) rfl rfl rfl (fun qc q => PS_load (cvE rfl (by rw [qc, q]; rfl)) tys3 (.head _) Thing.l3 rfl rfl) ?_
    refine GL_gfc (t := 146) rfl rfl rfl (fun qc q => PS_gtr (cvE rfl (by rw [qc, q]; rfl)) rfl) ?_
    refine GL_gtc (t := 142) rfl rfl rfl (fun qc q => PS_or (cvE rfl (by rw [qc, q]; rfl)) rfl (fun h => by rw [qc, q, h]; rfl)) ?_
    refine GL_gtc (t := 142) rfl rfl rfl (fun qc q => PS_move (cvE rfl (by rw [qc, q]; rfl))) ?_
    refine GL_gfc (t := 151) rfl rfl rfl (fun qc q => PSf fa28_3 rfl) ?_
    refine GL_gfc (t := 151) rfl rfl rfl (fun qc q => PS_load (cvE rfl (by rw [qc, q]; rfl)) tys3 (.head _) Thing.l3 rfl rfl) ?_
    refine GL_gfc (t := 151) rfl rfl rfl (fun qc q => PSf fa34_1 rfl) ?_
    refine GL_gfc (t := 151) rfl rfl rfl (fun qc q => by have q1 := q; have qc1 := qc; (try simp at q1 qc1); exact PS_indexAddr ia29 (cvE rfl (by rw [qc, q]; rfl)) (cvE rfl (by rw [qc, q]; rfl)) (by omega) (by omega)) ?_
    refine GL_gfc (t := 151) rfl rfl rfl (fun qc q => PSf fa28_1 (cvE rfl (by rw [qc, q]; rfl))) ?_
    refine GL_gfc (t := 151) rfl rfl rfl (fun qc q => by have q1 := q; have qc1 := qc; (try simp at q1 qc1); exact PS_load (cvE rfl (by rw [qc, q]; rfl)) tys3 (.tail _ (.head _)) ((Land.l1.comp (Lens.ar (n := 9) Thing.fl (by omega))).comp Thing.l1) rfl rfl) ?_
    refine GL_gfc (t := 151) rfl rfl rfl (fun qc q => PS_neq (cvE rfl (by rw [qc, q]; rfl)) rfl) ?_
    refine GL_gtc (t := 142) rfl rfl rfl (fun qc q => PS_or (cvE rfl (by rw [qc, q]; rfl)) rfl (fun h => by rw [qc, q, h]; rfl)) ?_
    refine GL_gf (t := 138) rfl rfl rfl (fun q => PS_and (cF rfl q) rfl (fun h => by rw [q, h]; rfl)) ?_
    refine Gt (PS_or rfl rfl (fun h => by rw [h]; rfl)) ?_
    refine Gn (.t5 1 8 102 103 161) ?_
    refine Gc (fun c7 => ?_) (fun c7 => ?_)
    ·
     have c7p := c7; try simp only [kk] at c7p
     refine Gs ?_
     refine Ga rfl ?_
     refine Gn (.t1 2) ?_
     refine G_ret ?_
     refine GQ_then_ret ?_
     refine GQ_block_ret ?_
     refine GQ_then_ret ?_
     refine GQ_then_ret ?_
     refine GQ_block_ret ?_
     refine GQ_then_ret ?_
     refine GQ_ret rfl (.tmp rfl .nil) ?_
     intro w1 hS; refine ⟨congrArg Value.bool ?_, hS.toKeep⟩; rw [hI43, Land.refThing, show X.refBadA (X.things.at t) = true from c7]; rfl
    ·
     have c7p := c7; try simp only [kk] at c7p
     refine G_skip ?_
     refine GQ_sub (.t4 1 8 102 103) ?_
     refine GQ_then ?_
     refine Gs ?_
     refine Gt (PS_loadA rfl tya34 (.tail _ (.head _)) (Lens.id Land.fl.len Land.fl.one) rfl) ?_
     refine Gm rfl ?_
     refine GL_pure rfl cf48 (.cons rfl (.cons rfl .nil)) (fun w hS => ref_root_spec _ _ w) ?_
     refine Gm rfl ?_
     refine Gt (PS_extract rfl rfl) ?_
     refine Gt (PS_extract rfl rfl) ?_
     refine Gt (PS_extract rfl rfl) ?_
     refine Gt (PS_extract rfl rfl) ?_
     refine Ga rfl (Ga rfl (Ga rfl (Ga rfl ?_)))
     refine Gn (.t6 1 10 11 13 102 103) ?_
     refine Gs ?_
     refine Gm rfl ?_
     refine Gt (PS_not rfl) ?_
     refine Gm rfl ?_
     refine GL_gf (t := 172) rfl rfl rfl (fun q => PS_move rfl) ?_
     refine GL_gf (t := 172) rfl rfl rfl (fun q => PS_eql (cF rfl q) rfl) ?_
     refine GL_gf (t := 172) rfl rfl rfl (fun q => PS_move (cF rfl q)) ?_
     refine GL_gtc (t := 175) rfl rfl rfl (fun qc q => PS_move rfl) ?_
     refine GL_gtc (t := 175) rfl rfl rfl (fun qc q => PS_lss (cvE rfl (by rw [qc, q]; rfl)) rfl) ?_
     refine GL_gtc (t := 175) rfl rfl rfl (fun qc q => PS_move (cvE rfl (by rw [qc, q]; rfl))) ?_
     refine GL_gfc (t := 178) rfl rfl rfl (fun qc q => PS_move rfl) ?_
     refine GL_gfc (t := 178) rfl rfl rfl (fun qc q => PS_gtr (cvE rfl (by rw [qc, q]; rfl)) rfl) ?_
     refine GL_gtc (t := 175) rfl rfl rfl (fun qc q => PS_or (cvE rfl (by rw [qc, q]; rfl)) rfl (fun h => by rw [qc, q, h]; rfl)) ?_
     refine GL_gf (t := 172) rfl rfl rfl (fun q => PS_and (cF rfl q) rfl (fun h => by rw [q, h]; rfl)) ?_
     refine Gt (PS_or rfl rfl (fun h => by rw [h]; rfl)) ?_
     refine Gm rfl ?_
     refine GL_gf (t := 184) rfl rfl rfl (fun q => PS_move rfl) ?_
     refine GL_gf (t := 184) rfl rfl rfl (fun q => PS_eql (cF rfl q) rfl) ?_
     refine GL_gf (t := 184) rfl rfl rfl (fun q => PS_move (cF rfl q)) ?_
     refine GL_gtc (t := 187) rfl rfl rfl (fun qc q => PS_move rfl) ?_
     refine GL_gtc (t := 187) rfl rfl rfl (fun qc q => PS_lss (cvE rfl (by rw [qc, q]; rfl)) rfl) ?_
     refine GL_gtc (t := 187) rfl rfl rfl (fun qc q => PS_move (cvE rfl (by rw [qc, q]; rfl))) ?_
     refine GL_gfc (t := 190) rfl rfl rfl (fun qc q => PS_move rfl) ?_
     refine GL_gfc (t := 190) rfl rfl rfl (fun qc q => PS_gtr (cvE rfl (by rw [qc, q]; rfl)) rfl) ?_
     refine GL_gtc (t := 187) rfl rfl rfl (fun qc q => PS_or (cvE rfl (by rw [qc, q]; rfl)) rfl (fun h => by rw [qc, q, h]; rfl)) ?_
     refine GL_gtc (t := 187) rfl rfl rfl (fun qc q => PS_move (cvE rfl (by rw [qc, q]; rfl))) ?_
     refine GL_gfc (t := 194) rfl rfl rfl (fun qc q => PS_move rfl) ?_
     refine GL_gfc (t := 194) rfl rfl rfl (fun qc q => PSf fa34_2 rfl) ?_
     refine GL_gfc (t := 194) rfl rfl rfl (fun qc q => by have q1 := q; have qc1 := qc; (try simp at q1 qc1); exact PS_indexAddr ia32 (cvE rfl (by rw [qc, q]; rfl)) (cvE rfl (by rw [qc, q]; rfl)) (by omega) (by omega)) ?_
     refine GL_gfc (t := 194) rfl rfl rfl (fun qc q => PSf fa31_1 (cvE rfl (by rw [qc, q]; rfl))) ?_
     refine GL_gfc (t := 194) rfl rfl rfl (fun qc q => by have q1 := q; have qc1 := qc; (try simp at q1 qc1); exact PS_load (cvE rfl (by rw [qc, q]; rfl)) tys4 (.tail _ (.head _)) ((Land.l2.comp (Lens.ar (n := 6) Being.fl (by omega))).comp Being.l1) rfl rfl) ?_
     refine GL_gfc (t := 194) rfl rfl rfl (fun qc q => PS_not (cvE rfl (by rw [qc, q]; rfl))) ?_
     refine GL_gtc (t := 187) rfl rfl rfl (fun qc q => PS_or (cvE rfl (by rw [qc, q]; rfl)) rfl (fun h => by rw [qc, q, h]; rfl)) ?_
     refine GL_gf (t := 184) rfl rfl rfl (fun q => PS_and (cF rfl q) rfl (fun h => by rw [q, h]; rfl)) ?_
     refine Gt (PS_or rfl rfl (fun h => by rw [h]; rfl)) ?_
     refine Gn (.t4 1 102 103 203) ?_
     refine Gc (fun c8 => ?_) (fun c8 => ?_)
     ·
      have c8p := c8; try simp only [kk] at c8p
      refine Gs ?_
      refine Ga rfl ?_
      refine Gn (.t1 2) ?_
      refine G_ret ?_
      refine GQ_block_ret ?_
      refine GQ_then_ret ?_
      refine GQ_then_ret ?_
      refine GQ_block_ret ?_
      refine GQ_then_ret ?_
      refine GQ_ret rfl (.tmp rfl .nil) ?_
      intro w1 hS; refine ⟨congrArg Value.bool ?_, hS.toKeep⟩; rw [hI43, Land.refThing, show X.refBadB (X.root t) = true from c8, Bool.not_true, Bool.and_false]; rfl
     ·
      have c8p := c8; try simp only [kk] at c8p
      refine G_skip ?_
      refine GQ_sub (.t3 1 102 103) ?_
      refine GQ_block ?_
      refine GQ_then ?_
      refine G_region ?_
      refine Gt (PS_add rfl rfl (IntWalk.i64_in _ (by omega))) ?_
      refine Gm rfl ?_
      refine GL_nil (GQ_sub (.t3 1 102 103) ?_)
      refine GQ_next1_ (t + 1) ?_ ?_ (.t3 103 1 102) (.cons _ (.refl _))
      · exact ⟨by omega, by omega, by rw [hI43, Land.refThing, show X.refBadA (X.things.at t) = false from c7, show X.refBadB (X.root t) = false from c8]; rfl⟩
      · omega
   ·
    have c6p := c6; try simp only [kk] at c6p
    obtain rfl : t = 9 := by omega
    refine G_exit ?_
    refine GQ_then_exit ?_
    refine GQ_then_exit ?_
    refine GQ_block_exit ?_
    refine GQ_sub (.nil _) ?_
    refine GQ_then ?_
    refine Gs ?_
    refine Ga rfl ?_
    refine GL_nil ?_
    refine GQ_then ?_
    refine G_ret ?_
    refine GQ_ret rfl (.tmp rfl .nil) ?_
    intro w1 hS; refine ⟨congrArg Value.bool ?_, hS.toKeep⟩; rw [hI43]; rfl
theorem ref_about_spec (X : Land) (b : Int) (w : World) : Ret Tryz.prog 25 #[.agg X.enc.toArray, .int .i64 b] w fun v w' => v = .bool (X.being b) ∧ Keep w w' := by
 refine Ret_body [] [] Tryz.func25 rfl rfl rfl (St.start w []) ?_
 refine Gs ?_
 refine GL_box rfl rfl rfl (fun b1 => ?_)
 refine Ga rfl ?_
 refine Gn (.t2 1 2) ?_
 refine Gs ?_
 refine Gm rfl ?_
 refine Gt (PS_geq rfl rfl) ?_
 refine Gm rfl ?_
 refine GL_gt (t := 7) rfl rfl rfl (fun q => PS_move rfl) ?_
 refine GL_gt (t := 7) rfl rfl rfl (fun q => PS_lss (cvE rfl q) rfl) ?_
 refine Gt (PS_and rfl rfl (fun h => h)) ?_
 refine Gm rfl ?_
 refine GL_gt (t := 11) rfl rfl rfl (fun q => PS_move rfl) ?_
 refine GL_gt (t := 11) rfl rfl rfl (fun q => PSf fa34_2 rfl) ?_
 refine GL_gt (t := 11) rfl rfl rfl (fun q => by have q1 := q; (try simp at q1); exact PS_indexAddr ia32 (cvE rfl q) (cvE rfl q) (by omega) (by omega)) ?_
 refine GL_gt (t := 11) rfl rfl rfl (fun q => PSf fa31_1 (cvE rfl q)) ?_
 refine GL_gt (t := 11) rfl rfl rfl (fun q => by have q1 := q; (try simp at q1); exact PS_load (cvE rfl q) tys4 (.head _) ((Land.l2.comp (Lens.ar (n := 6) Being.fl (by omega))).comp Being.l1) rfl rfl) ?_
 refine Gt (PS_and rfl rfl (fun h => h)) ?_
 refine Ga rfl ?_
 refine Gn (.t1 4) ?_
 refine G_ret ?_
 refine GQ_ret rfl (.tmp rfl .nil) ?_
 intro w1 hS; refine ⟨?_, hS.toKeep⟩; rfl
theorem ref_turn_here_spec (b : Nat) (T : Turn) (g : Hd) (hF : T.Fit) : Ctr Tryz.prog 51 #[.pointer (some ⟨b, 0, none⟩)] [Res.box b 57 (TurnV.enc ⟨T.w, T.b, g⟩)] (fun v B => v = .int .i64 (T.w.beings.at T.b).room ∧ B = [Res.box b 57 (TurnV.enc ⟨T.w, T.b, g⟩)]) := by
 intro w hS0
 have hb := hF.b
 have hr := hF.room
 refine Ret_body _ _ Tryz.func51 rfl rfl rfl (hS0) ?_
 refine Gs ?_
 refine Ga rfl ?_
 refine Gn (.t1 0) ?_
 refine G_seq ?_
 refine G_planN (N := 12) [0, 0, 2, 6, 14, 1, 33, 97, 255, 511, 1023, 2047] mix (by kernel_rfl) rfl ?_
 refine Pf 0 rfl (PS_move rfl) (Pf 1 rfl (PS_move rfl) (Pf 2 rfl (PSn rfl) (Pf 3 rfl (PSf fa57_1 rfl) ?_)))
 refine Pf 4 rfl (PS_load rfl tys3 (.head _) TurnV.l1 rfl rfl) ?_
 refine Pf 5 rfl (PSn rfl) (Pf 6 rfl (PSf fa57_0 rfl) (Pf 7 rfl (PSf fa34_2 rfl) ?_))
 refine Pf 8 rfl (PS_indexAddr ia32 rfl rfl (by first | omega | exact hb.1 | exact hb.2 | (dsimp only; omega)) (by first | omega | exact hb.1 | exact hb.2 | (dsimp only; omega))) ?_
 refine Pf 9 rfl (PSf fa31_3 rfl) ?_
 refine Pf 10 rfl (PS_load rfl tys3 (.head _) (((TurnV.l0.comp Land.l2).comp (Lens.ar (n := 6) Being.fl (by first | omega | exact hb | (dsimp only; omega)))).comp Being.l3) rfl rfl) ?_
 refine Pf 11 rfl (PS_assign rfl) ?_
 refine Plan_end (by kernel_rfl) ?_
 refine GQ_sub (.t1 2) ?_
 refine GQ_then ?_
 refine G_ret ?_
 refine GQ_ret rfl (.tmp rfl .nil) ?_
 intro w1 hS
 have hS := (hS.perm (Pulls.perm (.cons .head .nil))).headL
 exact ⟨_, ⟨rfl, rfl⟩, hS⟩
theorem ref_RoomOf_spec (X : Land) (i : Int) (w : World) : Ret Tryz.prog 77 #[.agg X.enc.toArray, .int .i64 i] w fun v w' => v = .tuple #[.int .i64 (X.room i).1, .bool (X.room i).2] ∧ Keep w w' := by
 refine Ret_body [] [] Tryz.func77 rfl rfl rfl (St.start w []) ?_
 refine Gs ?_
 refine GL_box rfl rfl rfl (fun b1 => ?_)
 refine Ga rfl (Ga rfl ?_)
 refine Gn (.t2 1 2) ?_
 refine Gs ?_
 refine Gt (PS_loadA rfl tya34 (.head _) (Lens.id Land.fl.len Land.fl.one) rfl) ?_
 refine Gm rfl ?_
 refine GL_pure rfl cf48 (.cons rfl (.cons rfl .nil)) (fun w hS => ref_root_spec _ _ w) ?_
 refine Gm rfl ?_
 refine Gt (PS_extract rfl rfl) ?_
 refine Gt (PS_extract rfl rfl) ?_
 refine Gt (PS_extract rfl rfl) ?_
 refine Gt (PS_extract rfl rfl) ?_
 refine Ga rfl (Ga rfl (Ga rfl (Ga rfl ?_)))
 refine Gn (.t5 2 6 7 8 9) ?_
 refine Gss ?_
 refine Gm rfl (Gm rfl ?_)
 refine GL_gt (t := 19) rfl rfl rfl (fun q => PS_move rfl) ?_
 refine GL_gt (t := 19) rfl rfl rfl (fun q => PS_eql (cvE rfl q) rfl) ?_
 refine Gt (PS_and rfl rfl (fun h => h)) ?_
 refine Gn (.t5 2 7 8 9 22) ?_
 refine Gc (fun c1 => ?_) (fun c1 => ?_)
 ·
  have c1p := c1; try simp only [kk] at c1p
  refine Gss ?_
  refine Gm rfl ?_
  refine Gt (PS_lss rfl rfl) ?_
  refine Gm rfl ?_
  refine GL_gf (t := 25) rfl rfl rfl (fun q => PS_move rfl) ?_
  refine GL_gf (t := 25) rfl rfl rfl (fun q => PS_gtr (cF rfl q) rfl) ?_
  refine Gt (PS_or rfl rfl (fun h => by rw [h]; rfl)) ?_
  refine Gn (.t4 2 7 8 28) ?_
  refine Gc (fun c2 => ?_) (fun c2 => ?_)
  ·
   have c2p := c2; try simp only [kk] at c2p
   refine Gs ?_
   refine Ga rfl (Ga rfl ?_)
   refine Gn (.t2 4 5) ?_
   refine G_ret ?_
   refine GQ_then_ret ?_
   refine GQ_then_ret ?_
   refine GQ_ret rfl (.tmp rfl (.tmp rfl .nil)) ?_
   intro w1 hS; refine ⟨?_, hS.toKeep⟩; rw [← Land.roomOf, show Land.conv X (Land.root X i) = _ from ((if_t c1).trans (if_t c2))]; rfl
  ·
   have c2p := c2; try simp only [kk] at c2p
   have hat : 0 ≤ (Land.root X i).2.1 ∧ (Land.root X i).2.1 ≤ 5 := by simp at c2; omega
   refine G_skip ?_
   refine GQ_sub (.t3 2 7 8) ?_
   refine GQ_then ?_
   refine Gs ?_
   refine Gm rfl (Gt (PSf fa34_2 rfl) ?_)
   refine Gt (PS_indexAddr ia32 rfl rfl (by omega) (by omega)) ?_
   refine Gt (PSf fa31_3 rfl) ?_
   refine Gt (PS_load rfl tys3 (.head _) ((Land.l2.comp (Lens.ar (n := 6) Being.fl (by omega))).comp Being.l3) rfl rfl) ?_
   refine Gm rfl (Ga rfl (Ga rfl ?_))
   refine Gn (.t2 4 5) ?_
   refine G_ret ?_
   refine GQ_then_ret ?_
   refine GQ_ret rfl (.tmp rfl (.tmp rfl .nil)) ?_
   intro w1 hS; refine ⟨?_, hS.toKeep⟩; rw [← Land.roomOf, show Land.conv X (Land.root X i) = _ from ((if_t c1).trans (if_f c2))]; rfl
 ·
  have c1p := c1; try simp only [kk] at c1p
  refine G_skip ?_
  refine GQ_sub (.t3 7 8 9) ?_
  refine GQ_then ?_
  refine Gss ?_
  refine Gm rfl ?_
  refine Gt (PS_not rfl) ?_
  refine Gn (.t3 7 8 36) ?_
  refine Gc (fun c3 => ?_) (fun c3 => ?_)
  ·
   have c3p := c3; try simp only [kk] at c3p
   refine Gs ?_
   refine Ga rfl (Ga rfl ?_)
   refine Gn (.t2 4 5) ?_
   refine G_ret ?_
   refine GQ_then_ret ?_
   refine GQ_ret rfl (.tmp rfl (.tmp rfl .nil)) ?_
   intro w1 hS; refine ⟨?_, hS.toKeep⟩; rw [← Land.roomOf, show Land.conv X (Land.root X i) = _ from ((if_f c1).trans (if_t c3))]; rfl
  ·
   have c3p := c3; try simp only [kk] at c3p
   refine G_skip ?_
   refine GQ_sub (.t2 7 8) ?_
   refine GQ_then ?_
   refine Gs ?_
   refine Gm rfl (Gm rfl (Ga rfl (Ga rfl ?_)))
   refine Gn (.t2 4 5) ?_
   refine G_ret ?_
   refine GQ_ret rfl (.tmp rfl (.tmp rfl .nil)) ?_
   intro w1 hS; refine ⟨?_, hS.toKeep⟩; rw [← Land.roomOf, show Land.conv X (Land.root X i) = _ from ((if_f c1).trans (if_f c3))]; rfl
theorem ref_IsBright_spec (X : Land) (r : Int) (w : World) : Ret Tryz.prog 50 #[.agg X.enc.toArray, .int .i64 r] w fun v w' => v = .bool (X.bright r) ∧ Keep w w' := by
 refine Ret_body [] [] Tryz.func50 rfl rfl rfl (St.start w []) ?_
 refine Gs ?_
 refine GL_box rfl rfl rfl (fun b1 => ?_)
 refine Ga rfl ?_
 refine Gn (.t2 1 2) ?_
 refine Gss ?_
 refine Gm rfl ?_
 refine Gt (PS_lss rfl rfl) ?_
 refine Gm rfl ?_
 refine GL_gf (t := 12) rfl rfl rfl (fun q => PS_move rfl) ?_
 refine GL_gf (t := 12) rfl rfl rfl (fun q => PS_gtr (cF rfl q) rfl) ?_
 refine Gt (PS_or rfl rfl (fun h => by rw [h]; rfl)) ?_
 refine Gn (.t3 1 2 15) ?_
 refine Gc (fun c1 => ?_) (fun c1 => ?_)
 ·
  have c1p := c1; try simp only [kk] at c1p
  refine Gs ?_
  refine Ga rfl ?_
  refine Gn (.t1 4) ?_
  refine G_ret ?_
  refine GQ_then_ret ?_
  refine GQ_ret rfl (.tmp rfl .nil) ?_
  intro w1 hS; refine ⟨congrArg Value.bool ?_, hS.toKeep⟩; rw [Land.bright_out c1]
 ·
  have c1p := c1; try simp only [kk] at c1p
  have hr : 0 ≤ r ∧ r < 6 := by simp at c1; omega
  refine G_skip ?_
  refine GQ_sub (.t2 1 2) ?_
  refine GQ_then ?_
  refine Gs ?_
  refine Gm rfl (Gt (PSf fa34_0 rfl) ?_)
  refine Gt (PS_indexAddr ia26 rfl rfl (by omega) (by omega)) ?_
  refine Gt (PSf fa25_1 rfl) ?_
  refine Gt (PS_load rfl tys4 (.head _) ((Land.l0.comp (Lens.ar (n := 6) Room.fl (by omega))).comp Room.l1) rfl rfl) ?_
  refine Gt (PS_not rfl) ?_
  refine Ga rfl ?_
  refine Gn (.t3 1 2 5) ?_
  refine Gss ?_
  refine Gt (PSf fa34_1 rfl) ?_
  refine Gt (PS_loadA rfl tya29 (.head _) Land.l1 rfl) ?_
  refine Gm rfl ?_
  refine Gn (.t5 1 2 5 23 24) ?_
  refine G_block ?_
  refine G_subF (.t5 5 24 1 2 23) ?_
  refine G_loop2_ (fun (k : Int) (c : Bool) => 0 ≤ k ∧ k ≤ 9 ∧ (!(X.rooms.at r).dark || !(allFrom 9 (fun i => !X.lit r i) 9)) = (c || !(allFrom 9 (fun i => !X.lit r i) (9 - k).toNat))) (fun (k : Int) (c : Bool) => (9 - k).toNat) (fun (k : Int) (c : Bool) => [(5, .bool c), (24, .int .i64 k)]) (fun (k : Int) (c : Bool) => []) (0) (!(X.rooms.at r).dark) ?_ rfl rfl (fun k c hI1 => ?_)
  · exact ⟨by omega, by omega, rfl⟩
  obtain ⟨hI11, hI12, hI13⟩ := hI1
  refine Gs ?_
  refine Gt (PS_lss rfl rfl) ?_
  refine GL_nil ?_
  refine GQ_then ?_
  refine G_seq ?_
  refine Gc (fun c2 => ?_) (fun c2 => ?_)
  ·
   have c2p := c2; try simp only [kk] at c2p
   rw [allFrom_step (k := k) _ (by omega), Land.bright_step] at hI13
   refine G_skip ?_
   refine GQ_sub (.t5 1 2 5 23 24) ?_
   refine GQ_then ?_
   refine G_seq ?_
   refine G_block ?_
   refine Gs ?_
   refine Gm rfl ?_
   refine Gt (PS_indexAA Thing.fl Tryz.underlying29 tya28 rfl rfl (by omega) (by omega)) ?_
   refine GL_alloc rfl zv28 rfl (fun b2 => ?_)
   refine Ga rfl ?_
   refine GL_unit (PU_store (Lens.id Thing.fl.len Thing.fl.one) rfl rfl rfl sz28 rfl .head) ?_
   refine Gn (.t7 1 2 5 6 7 23 24) ?_
   refine Gs ?_
   refine Gt (PS_loadA rfl tya34 (.tail _ (.head _)) (Lens.id Land.fl.len Land.fl.one) rfl) ?_
   refine Gm rfl ?_
   refine GL_pure rfl cf77 (.cons rfl (.cons rfl .nil)) (fun w hS => ref_RoomOf_spec _ _ w) ?_
   refine Gm rfl ?_
   refine Gt (PS_extract rfl rfl) ?_
   refine Gt (PS_extract rfl rfl) ?_
   refine Ga rfl (Ga rfl ?_)
   refine Gn (.t8 1 2 5 7 8 9 23 24) ?_
   refine G_region ?_
   refine Gm rfl (Gm rfl ?_)
   refine GL_gf (t := 35) rfl rfl rfl (fun q => PSf fa28_1 rfl) ?_
   refine GL_gf (t := 35) rfl rfl rfl (fun q => PS_load (cF rfl q) tys3 (.head _) Thing.l1 rfl rfl) ?_
   refine GL_gf (t := 35) rfl rfl rfl (fun q => PS_eql (cF rfl q) rfl) ?_
   refine GL_gf (t := 35) rfl rfl rfl (fun q => PS_move (cF rfl q)) ?_
   refine GL_gtc (t := 39) rfl rfl rfl (fun qc q => PSf fa28_4 rfl) ?_
   refine GL_gtc (t := 39) rfl rfl rfl (fun qc q => PS_load (cvE rfl (by rw [qc, q]; rfl)) tys4 (.head _) Thing.l4 rfl rfl) ?_
   refine GL_gf (t := 35) rfl rfl rfl (fun q => PS_and (cF rfl q) rfl (fun h => by rw [q, h]; rfl)) ?_
   refine GL_gf (t := 35) rfl rfl rfl (fun q => PS_move (cF rfl q)) ?_
   refine GL_gtc (t := 43) rfl rfl rfl (fun qc q => PS_move rfl) ?_
   refine GL_gf (t := 35) rfl rfl rfl (fun q => PS_and (cF rfl q) rfl (fun h => by rw [q, h]; rfl)) ?_
   refine GL_gf (t := 35) rfl rfl rfl (fun q => PS_move (cF rfl q)) ?_
   refine GL_gtc (t := 46) rfl rfl rfl (fun qc q => PS_move rfl) ?_
   refine GL_gtc (t := 46) rfl rfl rfl (fun qc q => PS_move rfl) ?_
   refine GL_gtc (t := 46) rfl rfl rfl (fun qc q => PS_eql (cvE rfl (by rw [qc, q]; rfl)) (cvE rfl (by rw [qc, q]; rfl))) ?_
   refine GL_gf (t := 35) rfl rfl rfl (fun q => PS_and (cF rfl q) rfl (fun h => by rw [q, h]; rfl)) ?_
   refine Gt (PS_or rfl rfl (fun h => by rw [h]; rfl)) ?_
   refine Ga rfl ?_
   refine GL_nil (GQ_sub (.t5 1 2 5 23 24) ?_)
   refine GQ_block ?_
   refine GQ_then ?_
   refine G_region ?_
   refine Gt (PS_add rfl rfl (IntWalk.i64_in _ (by omega))) ?_
   refine Gm rfl ?_
   refine GL_nil (GQ_sub (.t5 1 2 5 23 24) ?_)
   refine GQ_next2_ (k + 1) _ ?_ ?_ (.t5 5 24 1 2 23) (.cons _ (.refl _))
   · exact ⟨by omega, by omega, hI13⟩
   · omega
  ·
   have c2p := c2; try simp only [kk] at c2p
   obtain rfl : k = 9 := by omega
   refine G_exit ?_
   refine GQ_then_exit ?_
   refine GQ_then_exit ?_
   refine GQ_block_exit ?_
   refine GQ_sub (.t1 5) ?_
   refine GQ_then ?_
   refine Gs ?_
   refine Gm rfl (Ga rfl ?_)
   refine Gn (.t1 4) ?_
   refine G_ret ?_
   refine GQ_ret rfl (.tmp rfl .nil) ?_
   intro w1 hS; refine ⟨congrArg Value.bool ?_, hS.toKeep⟩; rw [Land.bright_eq c1, hI13]; show c = (c || !true); simp
theorem ref_IsHidden_spec (X : Land) (b : Int) (w : World) : Ret Tryz.prog 78 #[.agg X.enc.toArray, .int .i64 b] w fun v w' => v = .bool (X.hidden b) ∧ Keep w w' := by
 refine Ret_body [] [] Tryz.func78 rfl rfl rfl (St.start w []) ?_
 refine Gs ?_
 refine GL_box rfl rfl rfl (fun b1 => ?_)
 refine Ga rfl ?_
 refine Gn (.t2 1 2) ?_
 refine Gss ?_
 refine Gt (PSf fa34_1 rfl) ?_
 refine Gt (PS_loadA rfl tya29 (.head _) Land.l1 rfl) ?_
 refine Gm rfl ?_
 refine Gn (.t3 1 8 9) ?_
 refine G_block ?_
 refine G_subF (.t3 9 1 8) ?_
 refine G_loop1_ (fun (k : Int) => 0 ≤ k ∧ k ≤ 9 ∧ allFrom 9 (fun i => !X.cloaked b i) 9 = allFrom 9 (fun i => !X.cloaked b i) (9 - k).toNat) (fun (k : Int) => (9 - k).toNat) (fun (k : Int) => [(9, .int .i64 k)]) (fun (k : Int) => []) (0) ?_ rfl rfl (fun k hI1 => ?_)
 · exact ⟨by omega, by omega, rfl⟩
 obtain ⟨hI11, hI12, hI13⟩ := hI1
 refine Gs ?_
 refine Gt (PS_lss rfl rfl) ?_
 refine GL_nil ?_
 refine GQ_then ?_
 refine G_seq ?_
 refine Gc (fun c1 => ?_) (fun c1 => ?_)
 ·
  have c1p := c1; try simp only [kk] at c1p
  rw [allFrom_step _ (by omega)] at hI13
  refine G_skip ?_
  refine GQ_sub (.t3 1 8 9) ?_
  refine GQ_then ?_
  refine G_seq ?_
  refine G_block ?_
  refine Gs ?_
  refine Gt (PS_indexAA Thing.fl Tryz.underlying29 tya28 rfl rfl (by omega) (by omega)) ?_
  refine GL_alloc rfl zv28 rfl (fun b2 => ?_)
  refine GL_unit (PU_store (Lens.id Thing.fl.len Thing.fl.one) rfl rfl rfl sz28 rfl .head) ?_
  refine Gn (.t4 1 6 8 9) ?_
  refine Gs ?_
  refine Gt (PSf fa28_2 rfl) ?_
  refine Gt (PS_load rfl tys3 (.head _) Thing.l2 rfl rfl) ?_
  refine Gt (PS_eql rfl rfl) ?_
  refine Gm rfl ?_
  refine GL_gt (t := 15) rfl rfl rfl (fun q => PSf fa28_3 rfl) ?_
  refine GL_gt (t := 15) rfl rfl rfl (fun q => PS_load (cvE rfl q) tys3 (.head _) Thing.l3 rfl rfl) ?_
  refine GL_gt (t := 15) rfl rfl rfl (fun q => PS_move rfl) ?_
  refine GL_gt (t := 15) rfl rfl rfl (fun q => PS_eql (cvE rfl q) (cvE rfl q)) ?_
  refine Gt (PS_and rfl rfl (fun h => h)) ?_
  refine Gm rfl ?_
  refine GL_gt (t := 21) rfl rfl rfl (fun q => PSf fa28_1 rfl) ?_
  refine GL_gt (t := 21) rfl rfl rfl (fun q => PS_load (cvE rfl q) tys3 (.head _) Thing.l1 rfl rfl) ?_
  refine GL_gt (t := 21) rfl rfl rfl (fun q => PS_eql (cvE rfl q) rfl) ?_
  refine Gt (PS_and rfl rfl (fun h => h)) ?_
  refine Gm rfl ?_
  refine GL_gt (t := 26) rfl rfl rfl (fun q => PSf fa28_4 rfl) ?_
  refine GL_gt (t := 26) rfl rfl rfl (fun q => PS_load (cvE rfl q) tys4 (.head _) Thing.l4 rfl rfl) ?_
  refine Gt (PS_and rfl rfl (fun h => h)) ?_
  refine Gn (.t4 1 8 9 29) ?_
  refine Gc (fun c2 => ?_) (fun c2 => ?_)
  ·
   have c2p := c2; try simp only [kk] at c2p
   refine Gs ?_
   refine Ga rfl ?_
   refine Gn (.t1 4) ?_
   refine G_ret ?_
   refine GQ_block_ret ?_
   refine GQ_then_ret ?_
   refine GQ_then_ret ?_
   refine GQ_block_ret ?_
   refine GQ_then_ret ?_
   refine GQ_ret rfl (.tmp rfl .nil) ?_
   intro w1 hS; refine ⟨congrArg Value.bool ?_, hS.toKeep⟩; rw [Land.hidden, hI13, show X.cloaked b k = true from (Land.cloaked_eq _ _ _).trans c2]; rfl
  ·
   have c2p := c2; try simp only [kk] at c2p
   refine G_skip ?_
   refine GQ_sub (.t3 1 8 9) ?_
   refine GQ_block ?_
   refine GQ_then ?_
   refine G_region ?_
   refine Gt (PS_add rfl rfl (IntWalk.i64_in _ (by omega))) ?_
   refine Gm rfl ?_
   refine GL_nil (GQ_sub (.t3 1 8 9) ?_)
   refine GQ_next1_ (k + 1) ?_ ?_ (.t3 9 1 8) (.cons _ (.refl _))
   · exact ⟨by omega, by omega, by rw [hI13, show X.cloaked b k = false from (Land.cloaked_eq _ _ _).trans c2]; rfl⟩
   · omega
 ·
  have c1p := c1; try simp only [kk] at c1p
  obtain rfl : k = 9 := by omega
  refine G_exit ?_
  refine GQ_then_exit ?_
  refine GQ_then_exit ?_
  refine GQ_block_exit ?_
  refine GQ_sub (.nil _) ?_
  refine GQ_then ?_
  refine Gs ?_
  refine Ga rfl ?_
  refine GL_nil ?_
  refine GQ_then ?_
  refine G_ret ?_
  refine GQ_ret rfl (.tmp rfl .nil) ?_
  intro w1 hS; refine ⟨congrArg Value.bool ?_, hS.toKeep⟩; rw [Land.hidden, hI13]; rfl
theorem ref_IsSeen_spec (X : Land) (a b : Int) (w : World) : Ret Tryz.prog 53 #[.agg X.enc.toArray, .int .i64 a, .int .i64 b] w fun v w' => v = .bool (X.sees a b) ∧ Keep w w' := by
 refine Ret_body [] [] Tryz.func53 rfl rfl rfl (St.start w []) ?_
 refine Gs ?_
 refine GL_box rfl rfl rfl (fun b1 => ?_)
 refine Ga rfl ?_
 refine Gn (.t3 1 2 3) ?_
 refine Gss ?_
 refine Gt (PS_loadA rfl tya34 (.head _) (Lens.id Land.fl.len Land.fl.one) rfl) ?_
 refine Gm rfl ?_
 refine GL_pure rfl cf25 (.cons rfl (.cons rfl .nil)) (fun w hS => ref_about_spec _ _ w) ?_
 refine Gt (PS_not rfl) ?_
 refine Gm rfl ?_
 refine GL_gf (t := 11) rfl rfl rfl (fun q => PS_loadA rfl tya34 (.head _) (Lens.id Land.fl.len Land.fl.one) rfl) ?_
 refine GL_gf (t := 11) rfl rfl rfl (fun q => PS_move rfl) ?_
 refine GL_pgf (t := 11) rfl rfl rfl (fun q => by have q1 := q; (try simp at q1); exact PC_of cf25 (.cons (cF rfl q) (.cons (cF rfl q) .nil)) (fun w hS => ref_about_spec _ _ w)) ?_
 refine GL_gf (t := 11) rfl rfl rfl (fun q => PS_not (cF rfl q)) ?_
 refine Gt (PS_or rfl rfl (fun h => by rw [h]; rfl)) ?_
 refine Gn (.t4 1 2 3 16) ?_
 refine Gc (fun c1 => ?_) (fun c1 => ?_)
 ·
  have c1p := c1; try simp only [kk] at c1p
  refine Gs ?_
  refine Ga rfl ?_
  refine Gn (.t1 6) ?_
  refine G_ret ?_
  refine GQ_then_ret ?_
  refine GQ_ret rfl (.tmp rfl .nil) ?_
  intro w1 hS; refine ⟨congrArg Value.bool ?_, hS.toKeep⟩; rw [Land.sees_out c1]
 ·
  have c1p := c1; try simp only [kk] at c1p
  have hr : (0 ≤ a ∧ a < 6) ∧ 0 ≤ b ∧ b < 6 := by simp at c1; have h1 := Land.being_rng c1.1; have h2 := Land.being_rng c1.2; omega
  refine G_skip ?_
  refine GQ_sub (.t3 1 2 3) ?_
  refine GQ_then ?_
  refine G_seq ?_
  refine G_planN (N := 39) [0, 0, 3, 7, 15, 15, 63, 127, 255, 15, 15, 1551, 3599, 7695, 16383, 32767, 65535, 65535, 65535, 458751, 983039, 2031615, 4194303, 8388607, 16777215, 33554431, 33554431, 134217727, 268435455, 536870911, 1073741823, 1073741823, 4294967295, 8589934591, 17179869183, 34359738367, 68719476735, 137438953471, 274877906943] mix (by kernel_rfl) rfl ?_
  refine Pf 0 rfl (PS_move rfl) (Pf 1 rfl (PS_move rfl) ?_)
  refine Pf 2 rfl (PS_eql rfl rfl) ?_
  refine Pf 3 rfl (PS_move rfl) ?_
  refine Pgf 4 20 rfl rfl rfl (fun q => PS_move rfl) ?_
  refine Pgf 5 20 rfl rfl rfl (fun q => PSf fa34_2 rfl) ?_
  refine Plan_float 6 rfl rfl (by kernel_rfl) (OK_gf (t := 20) rfl rfl (fun q => by have q1 := q; (try simp at q1); exact EX_s (PS_indexAddr ia32 (cF rfl q) (cF rfl q) (by omega) (by omega)))) ?_
  refine Pgf 7 20 rfl rfl rfl (fun q => PSf fa31_3 (cF rfl q)) ?_
  refine Plan_float 8 rfl rfl (by kernel_rfl) (OK_gf (t := 20) rfl rfl (fun q => by have q1 := q; (try simp at q1); exact EX_s (PS_load (cF rfl q) tys3 (.head _) ((Land.l2.comp (Lens.ar (n := 6) Being.fl (by omega))).comp Being.l3) rfl rfl))) ?_
  refine Pgf 9 20 rfl rfl rfl (fun q => PS_move rfl) ?_
  refine Pgf 10 20 rfl rfl rfl (fun q => PSf fa34_2 rfl) ?_
  refine Plan_float 11 rfl rfl (by kernel_rfl) (OK_gf (t := 20) rfl rfl (fun q => by have q1 := q; (try simp at q1); exact EX_s (PS_indexAddr ia32 (cF rfl q) (cF rfl q) (by omega) (by omega)))) ?_
  refine Pgf 12 20 rfl rfl rfl (fun q => PSf fa31_3 (cF rfl q)) ?_
  refine Plan_float 13 rfl rfl (by kernel_rfl) (OK_gf (t := 20) rfl rfl (fun q => by have q1 := q; (try simp at q1); exact EX_s (PS_load (cF rfl q) tys3 (.head _) ((Land.l2.comp (Lens.ar (n := 6) Being.fl (by omega))).comp Being.l3) rfl rfl))) ?_
  refine Pgf 14 20 rfl rfl rfl (fun q => PS_eql (cF rfl q) (cF rfl q)) ?_
  refine Pgf 15 20 rfl rfl rfl (fun q => PS_move (cF rfl q)) ?_
  refine Plan_float 16 rfl rfl (by kernel_rfl) (OK_gtc (t := 32) rfl rfl (fun qc q => EX_s (PS_loadA rfl tya34 (.head _) (Lens.id Land.fl.len Land.fl.one) rfl))) ?_
  refine Plan_float 17 rfl rfl (by kernel_rfl) (OK_gtc (t := 32) rfl rfl (fun qc q => EX_s (PS_move rfl))) ?_
  refine Plan_float 18 rfl rfl (by kernel_rfl) (OK_gtc (t := 32) rfl rfl (fun qc q => EX_s (PSf fa34_2 rfl))) ?_
  refine Plan_float 19 rfl rfl (by kernel_rfl) (OK_gtc (t := 32) rfl rfl (fun qc q => by have q1 := q; have qc1 := qc; (try simp at q1 qc1); exact EX_s (PS_indexAddr ia32 (cvE rfl (by rw [qc, q]; rfl)) (cvE rfl (by rw [qc, q]; rfl)) (by omega) (by omega)))) ?_
  refine Plan_float 20 rfl rfl (by kernel_rfl) (OK_gtc (t := 32) rfl rfl (fun qc q => EX_s (PSf fa31_3 (cvE rfl (by rw [qc, q]; rfl))))) ?_
  refine Plan_float 21 rfl rfl (by kernel_rfl) (OK_gtc (t := 32) rfl rfl (fun qc q => by have q1 := q; have qc1 := qc; (try simp at q1 qc1); exact EX_s (PS_load (cvE rfl (by rw [qc, q]; rfl)) tys3 (.head _) ((Land.l2.comp (Lens.ar (n := 6) Being.fl (by omega))).comp Being.l3) rfl rfl))) ?_
  refine Plan_float 22 rfl rfl (by kernel_rfl) (OK_gtc (t := 32) rfl rfl (fun qc q => by have q1 := q; have qc1 := qc; (try simp at q1 qc1); exact EX_c (PC_of cf50 (.cons (cvE rfl (by rw [qc, q]; rfl)) (.cons (cvE rfl (by rw [qc, q]; rfl)) .nil)) (fun w hS => ref_IsBright_spec _ _ w)))) ?_
  refine Pgf 23 20 rfl rfl rfl (fun q => PS_and (cF rfl q) rfl (fun h => by rw [q, h]; rfl)) ?_
  refine Pgf 24 20 rfl rfl rfl (fun q => PS_move (cF rfl q)) ?_
  refine Plan_float 25 rfl rfl (by kernel_rfl) (OK_gtc (t := 41) rfl rfl (fun qc q => EX_s (PS_loadA rfl tya34 (.head _) (Lens.id Land.fl.len Land.fl.one) rfl))) ?_
  refine Plan_float 26 rfl rfl (by kernel_rfl) (OK_gtc (t := 41) rfl rfl (fun qc q => EX_s (PS_move rfl))) ?_
  refine Plan_float 27 rfl rfl (by kernel_rfl) (OK_gtc (t := 41) rfl rfl (fun qc q => by have q1 := q; have qc1 := qc; (try simp at q1 qc1); exact EX_c (PC_of cf78 (.cons (cvE rfl (by rw [qc, q]; rfl)) (.cons (cvE rfl (by rw [qc, q]; rfl)) .nil)) (fun w hS => ref_IsHidden_spec _ _ w)))) ?_
  refine Plan_float 28 rfl rfl (by kernel_rfl) (OK_gtc (t := 41) rfl rfl (fun qc q => EX_s (PS_not (cvE rfl (by rw [qc, q]; rfl))))) ?_
  refine Plan_float 29 rfl rfl (by kernel_rfl) (OK_gtc (t := 41) rfl rfl (fun qc q => EX_s (PS_move (cvE rfl (by rw [qc, q]; rfl))))) ?_
  refine Plan_float 30 rfl rfl (by kernel_rfl) (OK_gfc (t := 46) rfl rfl (fun qc q => EX_s (PS_move rfl))) ?_
  refine Plan_float 31 rfl rfl (by kernel_rfl) (OK_gfc (t := 46) rfl rfl (fun qc q => EX_s (PSf fa34_2 rfl))) ?_
  refine Plan_float 32 rfl rfl (by kernel_rfl) (OK_gfc (t := 46) rfl rfl (fun qc q => by have q1 := q; have qc1 := qc; (try simp at q1 qc1); exact EX_s (PS_indexAddr ia32 (cvE rfl (by rw [qc, q]; rfl)) (cvE rfl (by rw [qc, q]; rfl)) (by omega) (by omega)))) ?_
  refine Plan_float 33 rfl rfl (by kernel_rfl) (OK_gfc (t := 46) rfl rfl (fun qc q => EX_s (PSf fa31_2 (cvE rfl (by rw [qc, q]; rfl))))) ?_
  refine Plan_float 34 rfl rfl (by kernel_rfl) (OK_gfc (t := 46) rfl rfl (fun qc q => by have q1 := q; have qc1 := qc; (try simp at q1 qc1); exact EX_s (PS_load (cvE rfl (by rw [qc, q]; rfl)) tys4 (.head _) ((Land.l2.comp (Lens.ar (n := 6) Being.fl (by omega))).comp Being.l2) rfl rfl))) ?_
  refine Plan_float 35 rfl rfl (by kernel_rfl) (OK_gtc (t := 41) rfl rfl (fun qc q => EX_s (PS_or (cvE rfl (by rw [qc, q]; rfl)) rfl (fun h => by rw [qc, q, h]; rfl)))) ?_
  refine Pgf 36 20 rfl rfl rfl (fun q => PS_and (cF rfl q) rfl (fun h => by rw [q, h]; rfl)) ?_
  refine Pf 37 rfl (PS_or rfl rfl (fun h => by rw [h]; rfl)) ?_
  refine Pf 38 rfl (PS_assign rfl) ?_
  refine Plan_end (by kernel_rfl) ?_
  refine GQ_sub (.t1 6) ?_
  refine GQ_then ?_
  refine G_ret ?_
  refine GQ_ret rfl (.tmp rfl .nil) ?_
  intro w1 hS; refine ⟨congrArg Value.bool ?_, hS.toKeep⟩; rw [Land.sees_eq c1]
theorem ref_Perceived_spec (X : Land) (b : Int) (e : Ing.Event) (w : World) : Ret Tryz.prog 76 #[.agg X.enc.toArray, .int .i64 b, .agg e.enc.toArray] w fun v w' => v = .int .i64 (X.perceives b e) ∧ Keep w w' := by
 refine Ret_body [] [] Tryz.func76 rfl rfl rfl (St.start w []) ?_
 refine Gs ?_
 refine GL_box rfl rfl rfl (fun b1 => ?_)
 refine GL_box rfl rfl rfl (fun b2 => ?_)
 refine Ga rfl ?_
 refine Gn (.t3 1 3 5) ?_
 refine Gss ?_
 refine Gt (PS_loadA rfl tya34 (.tail _ (.head _)) (Lens.id Land.fl.len Land.fl.one) rfl) ?_
 refine Gm rfl ?_
 refine GL_pure rfl cf25 (.cons rfl (.cons rfl .nil)) (fun w hS => ref_about_spec _ _ w) ?_
 refine Gt (PS_not rfl) ?_
 refine Gn (.t4 1 3 5 12) ?_
 refine Gc (fun c1 => ?_) (fun c1 => ?_)
 ·
  have c1p := c1; try simp only [kk] at c1p
  refine Gs ?_
  refine Ga rfl ?_
  refine Gn (.t1 6) ?_
  refine G_ret ?_
  refine GQ_then_ret ?_
  refine GQ_ret rfl (.tmp rfl .nil) ?_
  intro w1 hS; refine ⟨?_, hS.toKeep⟩; rw [← Land.perceivesR_eq, show X.perceivesR b e = _ from (if_t c1)]; rfl
 ·
  have c1p := c1; try simp only [kk] at c1p
  have hr : 0 ≤ b ∧ b < 6 := by simp at c1; have h1 := Land.being_rng c1; omega
  refine G_skip ?_
  refine GQ_sub (.t3 1 3 5) ?_
  refine GQ_then ?_
  refine Gs ?_
  refine Gm rfl (Gt (PSf fa60_2 rfl) ?_)
  refine Gt (PS_load rfl tys3 (.head _) Ing.Event.l2 rfl rfl) ?_
  refine Gt (PS_eql rfl rfl) ?_
  refine Ga rfl ?_
  refine Gn (.t4 1 3 5 7) ?_
  refine G_seq ?_
  refine G_seq ?_
  refine G_planN (N := 17) [0, 1, 3, 7, 15, 31, 63, 127, 127, 511, 1023, 2047, 127, 4223, 16383, 32767, 65535] mix (by kernel_rfl) rfl ?_
  refine Pf 0 rfl (PS_move rfl) ?_
  refine Pf 1 rfl (PS_not rfl) ?_
  refine Pf 2 rfl (PS_move rfl) ?_
  refine Pgt 3 19 rfl rfl rfl (fun q => PSf fa60_0 rfl) ?_
  refine Pgt 4 19 rfl rfl rfl (fun q => PS_load (cvE rfl q) tys3 (.head _) Ing.Event.l0 rfl rfl) ?_
  refine Pgt 5 19 rfl rfl rfl (fun q => PS_eql (cvE rfl q) rfl) ?_
  refine Pgt 6 19 rfl rfl rfl (fun q => PS_move (cvE rfl q)) ?_
  refine Plan_float 7 rfl rfl (by kernel_rfl) (OK_gfc (t := 23) rfl rfl (fun qc q => EX_s (PS_move rfl))) ?_
  refine Plan_float 8 rfl rfl (by kernel_rfl) (OK_gfc (t := 23) rfl rfl (fun qc q => EX_s (PSf fa34_2 rfl))) ?_
  refine Plan_float 9 rfl rfl (by kernel_rfl) (OK_gfc (t := 23) rfl rfl (fun qc q => by have q1 := q; have qc1 := qc; (try simp at q1 qc1); exact EX_s (PS_indexAddr ia32 (cvE rfl (by rw [qc, q]; rfl)) (cvE rfl (by rw [qc, q]; rfl)) (by omega) (by omega)))) ?_
  refine Plan_float 10 rfl rfl (by kernel_rfl) (OK_gfc (t := 23) rfl rfl (fun qc q => EX_s (PSf fa31_3 (cvE rfl (by rw [qc, q]; rfl))))) ?_
  refine Plan_float 11 rfl rfl (by kernel_rfl) (OK_gfc (t := 23) rfl rfl (fun qc q => by have q1 := q; have qc1 := qc; (try simp at q1 qc1); exact EX_s (PS_load (cvE rfl (by rw [qc, q]; rfl)) tys3 (.tail _ (.head _)) ((Land.l2.comp (Lens.ar (n := 6) Being.fl (by omega))).comp Being.l3) rfl rfl))) ?_
  refine Plan_float 12 rfl rfl (by kernel_rfl) (OK_gfc (t := 23) rfl rfl (fun qc q => EX_s (PSf fa60_1 rfl))) ?_
  refine Plan_float 13 rfl rfl (by kernel_rfl) (OK_gfc (t := 23) rfl rfl (fun qc q => EX_s (PS_load (cvE rfl (by rw [qc, q]; rfl)) tys3 (.head _) Ing.Event.l1 rfl rfl))) ?_
  refine Plan_float 14 rfl rfl (by kernel_rfl) (OK_gfc (t := 23) rfl rfl (fun qc q => EX_s (PS_neq (cvE rfl (by rw [qc, q]; rfl)) (cvE rfl (by rw [qc, q]; rfl))))) ?_
  refine Pgt 15 19 rfl rfl rfl (fun q => PS_or (cvE rfl q) rfl (fun h => by rw [q, h]; rfl)) ?_
  refine Pf 16 rfl (PS_and rfl rfl (fun h => h)) ?_
  refine Plan_end (by kernel_rfl) ?_
  refine GQ_sub (.t5 1 3 5 7 33) ?_
  refine GQ_then ?_
  refine Gc (fun c2 => ?_) (fun c2 => ?_)
  ·
   have c2p := c2; try simp only [kk] at c2p
   refine Gs ?_
   refine Ga rfl ?_
   refine Gn (.t1 6) ?_
   refine G_ret ?_
   refine GQ_then_ret ?_
   refine GQ_ret rfl (.tmp rfl .nil) ?_
   intro w1 hS; refine ⟨?_, hS.toKeep⟩; rw [← Land.perceivesR_eq, show X.perceivesR b e = _ from ((if_f c1).trans (if_t c2))]; rfl
  ·
   have c2p := c2; try simp only [kk] at c2p
   refine G_skip ?_
   refine GQ_sub (.t4 1 3 5 7) ?_
   refine GQ_then ?_
   refine Gs ?_
   refine Ga rfl ?_
   refine GL_nil ?_
   refine GQ_then ?_
   refine Gss ?_
   refine Gm rfl ?_
   refine Gt (PS_not rfl) ?_
   refine Gm rfl ?_
   refine GL_gt (t := 36) rfl rfl rfl (fun q => PS_loadA rfl tya34 (.tail _ (.head _)) (Lens.id Land.fl.len Land.fl.one) rfl) ?_
   refine GL_gt (t := 36) rfl rfl rfl (fun q => PS_move rfl) ?_
   refine GL_gt (t := 36) rfl rfl rfl (fun q => PSf fa60_2 rfl) ?_
   refine GL_gt (t := 36) rfl rfl rfl (fun q => PS_load (cvE rfl q) tys3 (.head _) Ing.Event.l2 rfl rfl) ?_
   refine GL_pgt (t := 36) rfl rfl rfl (fun q => PC_of cf53 (.cons (cvE rfl q) (.cons (cvE rfl q) (.cons (cvE rfl q) .nil))) (fun w hS => ref_IsSeen_spec _ _ _ w)) ?_
   refine GL_gt (t := 36) rfl rfl rfl (fun q => PS_not (cvE rfl q)) ?_
   refine Gt (PS_and rfl rfl (fun h => h)) ?_
   refine Gn (.t5 1 3 5 8 43) ?_
   refine Gc (fun c3 => ?_) (fun c3 => ?_)
   ·
    have c3p := c3; try simp only [kk] at c3p
    refine Gss ?_
    refine Gt (PSf fa60_0 rfl) ?_
    refine Gt (PS_load rfl tys3 (.head _) Ing.Event.l0 rfl rfl) ?_
    refine Gt (PS_neq rfl rfl) ?_
    refine Gm rfl ?_
    refine GL_gt (t := 47) rfl rfl rfl (fun q => PSf fa60_0 rfl) ?_
    refine GL_gt (t := 47) rfl rfl rfl (fun q => PS_load (cvE rfl q) tys3 (.head _) Ing.Event.l0 rfl rfl) ?_
    refine GL_gt (t := 47) rfl rfl rfl (fun q => PS_neq (cvE rfl q) rfl) ?_
    refine Gt (PS_and rfl rfl (fun h => h)) ?_
    refine Gm rfl ?_
    refine GL_gt (t := 52) rfl rfl rfl (fun q => PSf fa60_0 rfl) ?_
    refine GL_gt (t := 52) rfl rfl rfl (fun q => PS_load (cvE rfl q) tys3 (.head _) Ing.Event.l0 rfl rfl) ?_
    refine GL_gt (t := 52) rfl rfl rfl (fun q => PS_neq (cvE rfl q) rfl) ?_
    refine Gt (PS_and rfl rfl (fun h => h)) ?_
    refine Gn (.t4 1 3 5 56) ?_
    refine Gc (fun c4 => ?_) (fun c4 => ?_)
    ·
     have c4p := c4; try simp only [kk] at c4p
     refine Gs ?_
     refine Ga rfl ?_
     refine Gn (.t1 6) ?_
     refine G_ret ?_
     refine GQ_then_ret ?_
     refine GQ_then_ret ?_
     refine GQ_ret rfl (.tmp rfl .nil) ?_
     intro w1 hS; refine ⟨?_, hS.toKeep⟩; rw [← Land.perceivesR_eq, show X.perceivesR b e = _ from ((if_f c1).trans ((if_f c2).trans ((if_t c3).trans (if_t c4))))]; rfl
    ·
     have c4p := c4; try simp only [kk] at c4p
     refine G_skip ?_
     refine GQ_sub (.t3 1 3 5) ?_
     refine GQ_then ?_
     refine G_region ?_
     refine Ga rfl ?_
     refine GL_nil ?_
     refine GQ_then ?_
     refine Gss ?_
     refine Gt (PSf fa60_3 rfl) ?_
     refine Gt (PS_load rfl tys3 (.head _) Ing.Event.l3 rfl rfl) ?_
     refine Gt (PS_geq rfl rfl) ?_
     refine Gm rfl ?_
     refine GL_gt (t := 60) rfl rfl rfl (fun q => PSf fa60_3 rfl) ?_
     refine GL_gt (t := 60) rfl rfl rfl (fun q => PS_load (cvE rfl q) tys3 (.head _) Ing.Event.l3 rfl rfl) ?_
     refine GL_gt (t := 60) rfl rfl rfl (fun q => PS_lss (cvE rfl q) rfl) ?_
     refine Gt (PS_and rfl rfl (fun h => h)) ?_
     refine Gm rfl ?_
     refine GL_gt (t := 65) rfl rfl rfl (fun q => PS_loadA rfl tya34 (.tail _ (.head _)) (Lens.id Land.fl.len Land.fl.one) rfl) ?_
     refine GL_gt (t := 65) rfl rfl rfl (fun q => PS_move rfl) ?_
     refine GL_gt (t := 65) rfl rfl rfl (fun q => PSf fa60_3 rfl) ?_
     refine GL_gt (t := 65) rfl rfl rfl (fun q => PS_load (cvE rfl q) tys3 (.head _) Ing.Event.l3 rfl rfl) ?_
     refine GL_pgt (t := 65) rfl rfl rfl (fun q => PC_of cf53 (.cons (cvE rfl q) (.cons (cvE rfl q) (.cons (cvE rfl q) .nil))) (fun w hS => ref_IsSeen_spec _ _ _ w)) ?_
     refine GL_gt (t := 65) rfl rfl rfl (fun q => PS_not (cvE rfl q)) ?_
     refine Gt (PS_and rfl rfl (fun h => h)) ?_
     refine Gn (.t2 8 72) ?_
     refine Gc (fun c5 => ?_) (fun c5 => ?_)
     ·
      have c5p := c5; try simp only [kk] at c5p
      refine G_region ?_
      refine Gm rfl ?_
      refine Gt (PS_add rfl rfl (IntWalk.i64_in _ (by omega))) ?_
      refine Ga rfl ?_
      refine Gn (.t1 8) ?_
      refine Gs ?_
      refine Gm rfl (Ga rfl ?_)
      refine Gn (.t1 6) ?_
      refine G_ret ?_
      refine GQ_ret rfl (.tmp rfl .nil) ?_
      intro w1 hS; refine ⟨?_, hS.toKeep⟩; rw [← Land.perceivesR_eq, show X.perceivesR b e = _ from ((if_f c1).trans ((if_f c2).trans ((if_t c3).trans ((if_f c4).trans (if_t c5)))))]; rfl
     ·
      have c5p := c5; try simp only [kk] at c5p
      refine G_skip ?_
      refine GQ_sub (.t1 8) ?_
      refine GQ_then ?_
      refine Gs ?_
      refine Gm rfl (Ga rfl ?_)
      refine Gn (.t1 6) ?_
      refine G_ret ?_
      refine GQ_ret rfl (.tmp rfl .nil) ?_
      intro w1 hS; refine ⟨?_, hS.toKeep⟩; rw [← Land.perceivesR_eq, show X.perceivesR b e = _ from ((if_f c1).trans ((if_f c2).trans ((if_t c3).trans ((if_f c4).trans (if_f c5)))))]; rfl
   ·
    have c3p := c3; try simp only [kk] at c3p
    refine G_skip ?_
    refine GQ_sub (.t4 1 3 5 8) ?_
    refine GQ_then ?_
    refine Gss ?_
    refine Gt (PSf fa60_3 rfl) ?_
    refine Gt (PS_load rfl tys3 (.head _) Ing.Event.l3 rfl rfl) ?_
    refine Gt (PS_geq rfl rfl) ?_
    refine Gm rfl ?_
    refine GL_gt (t := 60) rfl rfl rfl (fun q => PSf fa60_3 rfl) ?_
    refine GL_gt (t := 60) rfl rfl rfl (fun q => PS_load (cvE rfl q) tys3 (.head _) Ing.Event.l3 rfl rfl) ?_
    refine GL_gt (t := 60) rfl rfl rfl (fun q => PS_lss (cvE rfl q) rfl) ?_
    refine Gt (PS_and rfl rfl (fun h => h)) ?_
    refine Gm rfl ?_
    refine GL_gt (t := 65) rfl rfl rfl (fun q => PS_loadA rfl tya34 (.tail _ (.head _)) (Lens.id Land.fl.len Land.fl.one) rfl) ?_
    refine GL_gt (t := 65) rfl rfl rfl (fun q => PS_move rfl) ?_
    refine GL_gt (t := 65) rfl rfl rfl (fun q => PSf fa60_3 rfl) ?_
    refine GL_gt (t := 65) rfl rfl rfl (fun q => PS_load (cvE rfl q) tys3 (.head _) Ing.Event.l3 rfl rfl) ?_
    refine GL_pgt (t := 65) rfl rfl rfl (fun q => PC_of cf53 (.cons (cvE rfl q) (.cons (cvE rfl q) (.cons (cvE rfl q) .nil))) (fun w hS => ref_IsSeen_spec _ _ _ w)) ?_
    refine GL_gt (t := 65) rfl rfl rfl (fun q => PS_not (cvE rfl q)) ?_
    refine Gt (PS_and rfl rfl (fun h => h)) ?_
    refine Gn (.t2 8 72) ?_
    refine Gc (fun c6 => ?_) (fun c6 => ?_)
    ·
     have c6p := c6; try simp only [kk] at c6p
     refine G_region ?_
     refine Gm rfl ?_
     refine Gt (PS_add rfl rfl (IntWalk.i64_in _ (by omega))) ?_
     refine Ga rfl ?_
     refine Gn (.t1 8) ?_
     refine Gs ?_
     refine Gm rfl (Ga rfl ?_)
     refine Gn (.t1 6) ?_
     refine G_ret ?_
     refine GQ_ret rfl (.tmp rfl .nil) ?_
     intro w1 hS; refine ⟨?_, hS.toKeep⟩; rw [← Land.perceivesR_eq, show X.perceivesR b e = _ from ((if_f c1).trans ((if_f c2).trans ((if_f c3).trans (if_t c6))))]; rfl
    ·
     have c6p := c6; try simp only [kk] at c6p
     refine G_skip ?_
     refine GQ_sub (.t1 8) ?_
     refine GQ_then ?_
     refine Gs ?_
     refine Gm rfl (Ga rfl ?_)
     refine Gn (.t1 6) ?_
     refine G_ret ?_
     refine GQ_ret rfl (.tmp rfl .nil) ?_
     intro w1 hS; refine ⟨?_, hS.toKeep⟩; rw [← Land.perceivesR_eq, show X.perceivesR b e = _ from ((if_f c1).trans ((if_f c2).trans ((if_f c3).trans (if_f c6))))]; rfl
theorem ref_Everybody_spec (X : Land) (e : Ing.Event) (w : World) : Ret Tryz.prog 49 #[.agg X.enc.toArray, .agg e.enc.toArray] w fun v w' => v = .agg (X.allN e 6).enc.toArray ∧ Keep w w' := by
 refine Ret_body [] [] Tryz.func49 rfl rfl rfl (St.start w []) ?_
 refine Gs ?_
 refine GL_box rfl rfl rfl (fun b1 => ?_)
 refine GL_box rfl rfl rfl (fun b2 => ?_)
 refine GL_alloc rfl zv60 rfl (fun b3 => ?_)
 refine Gn (.t3 2 3 4) ?_
 refine Gss ?_
 refine Gm rfl ?_
 refine GL_nil ?_
 refine GQ_then ?_
 refine G_block ?_
 refine G_subF (.t4 6 2 3 4) ?_
 refine G_pull (.tail .head) ?_
 refine G_loop1_ (fun (k : Int) => 0 ≤ k ∧ k ≤ 6) (fun (k : Int) => (6 - k).toNat) (fun (k : Int) => [(6, .int .i64 k)]) (fun (k : Int) => [Res.box b2 60 (Ing.Event.enc (X.allN e k.toNat))]) (0) ?_ rfl rfl (fun k hI1 => ?_)
 · exact ⟨Int.le_refl _, by omega⟩
 obtain ⟨hI11, hI12⟩ := hI1
 refine Gs ?_
 refine Gt (PS_lss rfl rfl) ?_
 refine GL_nil ?_
 refine GQ_then ?_
 refine G_seq ?_
 refine Gc (fun c1 => ?_) (fun c1 => ?_)
 ·
  have c1p := c1; try simp only [kk] at c1p
  refine G_skip ?_
  refine GQ_sub (.t4 2 3 4 6) ?_
  refine GQ_then ?_
  refine G_seq ?_
  refine G_block ?_
  refine Gs ?_
  refine Gm rfl (Ga rfl ?_)
  refine Gn (.t5 2 3 4 5 6) ?_
  refine G_region ?_
  refine Gm rfl ?_
  refine Gt (PS_loadA rfl tya34 (.tail _ (.tail _ (.head _))) (Lens.id Land.fl.len Land.fl.one) rfl) ?_
  refine Gm rfl ?_
  refine Gt (PS_loadA rfl tya60 (.head _) (Lens.id Ing.Event.fl.len Ing.Event.fl.one) rfl) ?_
  refine GL_pure rfl cf76 (.cons rfl (.cons rfl (.cons rfl .nil))) (fun w hS => ref_Perceived_spec _ _ _ w) ?_
  refine Gt (PSf fa60_10 rfl) ?_
  refine Gt (PS_indexAddr ia22 rfl rfl (by omega) (by omega)) ?_
  refine GL_unit (PU_store (Ing.Event.l10.comp (Lens.ar (n := 6) flI (by omega))) rfl rfl rfl sz3 rfl .head) ?_
  refine GL_nil (GQ_sub (.t4 2 3 4 6) ?_)
  refine GQ_block ?_
  refine GQ_then ?_
  refine G_region ?_
  refine Gt (PS_add rfl rfl (IntWalk.i64_in _ (by omega))) ?_
  refine Gm rfl ?_
  refine GL_nil (GQ_sub (.t4 2 3 4 6) ?_)
  refine GQ_next1_ (k + 1) ?_ ?_ (.t4 6 2 3 4) (by rw [Land.allN_step (by omega)]; exact (.refl _))
  · exact ⟨by omega, by omega⟩
  · omega
 ·
  have c1p := c1; try simp only [kk] at c1p
  obtain rfl : k = 6 := by omega
  refine G_exit ?_
  refine GQ_then_exit ?_
  refine GQ_then_exit ?_
  refine GQ_block_exit ?_
  refine GQ_sub (.t2 3 4) ?_
  refine GQ_then ?_
  refine Gs ?_
  refine Gt (PS_loadA rfl tya60 (.head _) (Lens.id Ing.Event.fl.len Ing.Event.fl.one) rfl) ?_
  refine GL_unit (PU_store (Lens.id Ing.Event.fl.len Ing.Event.fl.one) rfl rfl rfl sz60 rfl (.tail .head)) ?_
  refine Gn (.t1 4) ?_
  refine G_ret ?_
  refine GQ_ret rfl (.cell rfl (.tail _ (.head _)) (.inl ⟨(by rw [Ing.Event.fl.len]; exact tya60), rfl⟩) .nil) ?_
  intro w1 hS; refine ⟨?_, hS.toKeep⟩; rfl
end Go.Proofs.YthaobbemigbcgaaGreatDoor
