/- What the functions that the law RulesDoes reaches compute: walks, part 4. No condition. -/
import Derived.Test.YthaobbemigbcgaaGreatDoorCards
import Derived.Test.YthaobbemigbcgaaGreatDoorTie
import Derived.Deep.DeepHandedRow
import Derived.Test.YthaobbemigbcgaaGreatDoorRows
import Derived.Test.YthaobbemigbcgaaGreatDoorRulesDoesEc3
import Derived.Test.YthaobbemigbcgaaGreatDoorRulesDoesRa1
import Derived.Test.YthaobbemigbcgaaGreatDoorRulesDoesRb1
import Derived.Test.YthaobbemigbcgaaGreatDoorRulesDoesWalks
import Derived.Test.YthaobbemigbcgaaGreatDoorRulesDoesWalks2
import Derived.Test.YthaobbemigbcgaaGreatDoorRulesDoesWalks3
set_option linter.unusedSimpArgs false
set_option linter.unusedVariables false
set_option maxRecDepth 100000
set_option maxHeartbeats 1000000
namespace Go.Proofs.YthaobbemigbcgaaGreatDoor
open Go Go.Ing Go.RowKit Go.ChangeShapes Go.WideShapes Go.ChangeAt
theorem ref_turn_add_spec (b : Nat) (T : Turn) (g : Hd) (k o d n : Int) (x u : Str) (hg : g.len = T.out.length) (hb : 0 ≤ T.b ∧ T.b < 6) (ho : o < 6) (hn : T.out.length ≤ 100000) : Ctr Tryz.prog 20 #[.pointer (some ⟨b, 0, none⟩), .int .i64 k, .int .i64 o, .int .i64 d, .int .i64 n, vstr x, vstr u] [Res.box b 57 (TurnV.enc ⟨T.w, T.b, g⟩), Res.own g 60 16 (T.out.flatMap Ing.Event.enc)] (fun v B => ∃ g' : Hd, v = .tuple #[] ∧ g'.len = (T.happens { Turn.evk k with other := o, dir := d, n := n, thing := x, text := u }).out.length ∧ B = [Res.box b 57 (TurnV.enc ⟨(T.happens { Turn.evk k with other := o, dir := d, n := n, thing := x, text := u }).w, (T.happens { Turn.evk k with other := o, dir := d, n := n, thing := x, text := u }).b, g'⟩), Res.own g' 60 16 ((T.happens { Turn.evk k with other := o, dir := d, n := n, thing := x, text := u }).out.flatMap Ing.Event.enc)]) := by
 intro w hS0
 refine Ret_body _ _ Tryz.func20 rfl rfl rfl (hS0) ?_
 refine G_seq ?_
 refine G_planN (N := 35) [0, 0, 0, 4, 12, 28, 2, 66, 194, 510, 1022, 2046, 0, 4096, 12288, 28672, 0, 0, 0, 0, 0, 1048576, 3145728, 7340032, 524288, 17301504, 50855936, 133693440, 267911168, 536346624, 0, 0, 4294967295, 0, 17179869183] mix (by kernel_rfl) rfl ?_
 refine Pf 0 rfl (PS_move rfl) (Pf 1 rfl (PS_move rfl) (Pf 2 rfl (PS_move rfl) (Pf 3 rfl (PSn rfl) (Pf 4 rfl (PSf fa57_1 rfl) ?_))))
 refine Pf 5 rfl (PS_load rfl tys3 (.head _) TurnV.l1 rfl rfl) ?_
 refine Pf 6 rfl (PSn rfl) (Pf 7 rfl (PSf fa57_0 rfl) (Pf 8 rfl (PSf fa34_2 rfl) ?_))
 refine Pf 9 rfl (PS_indexAddr ia32 rfl rfl (by (try dsimp only at *); omega) (by (try dsimp only at *); omega)) ?_
 refine Pf 10 rfl (PSf fa31_3 rfl) ?_
 refine Pf 11 rfl (PS_load rfl tys3 (.head _) (((TurnV.l0.comp Land.l2).comp (Lens.arr (n := 6) Being.fl (by (try dsimp only at *); omega) (by (try dsimp only at *); omega))).comp Being.l3) rfl rfl) ?_
 refine Pf 12 rfl (PS_move rfl) (Pf 13 rfl (PSn rfl) (Pf 14 rfl (PSf fa57_1 rfl) ?_))
 refine Pf 15 rfl (PS_load rfl tys3 (.head _) TurnV.l1 rfl rfl) ?_
 refine Pf 16 rfl (PS_move rfl) (Pf 17 rfl (PS_move rfl) (Pf 18 rfl (PS_move rfl) (Pf 19 rfl (PS_move rfl) (Pf 20 rfl (PS_move rfl) (Pf 21 rfl (PSn rfl) ?_)))))
 refine Pf 22 rfl (PSf fa57_1 rfl) ?_
 refine Pf 23 rfl (PS_load rfl tys3 (.head _) TurnV.l1 rfl rfl) ?_
 refine Pf 24 rfl (PSn rfl) (Pf 25 rfl (PSf fa57_0 rfl) (Pf 26 rfl (PSf fa34_2 rfl) ?_))
 refine Pf 27 rfl (PS_indexAddr ia32 rfl rfl (by (try dsimp only at *); omega) (by (try dsimp only at *); omega)) ?_
 refine Pf 28 rfl (PSf fa31_0 rfl) ?_
 refine Pf 29 rfl (PS_load rfl tys9 (.head _) (((TurnV.l0.comp Land.l2).comp (Lens.arr (n := 6) Being.fl (by (try dsimp only at *); omega) (by (try dsimp only at *); omega))).comp Being.l0) rfl rfl) ?_
 refine Pf 30 rfl (PS_move rfl) (Pf 31 rfl (PS_move rfl) ?_)
 refine Pf 32 rfl (PS_build pl60 zv60 rfl (.cons Ing.Event.l0 rfl rfl rfl (.cons Ing.Event.l1 rfl rfl rfl (.cons Ing.Event.l2 rfl rfl rfl (.cons Ing.Event.l3 rfl rfl rfl (.cons Ing.Event.l4 rfl rfl rfl (.cons Ing.Event.l5 rfl rfl rfl (.cons Ing.Event.l6 rfl rfl rfl (.cons Ing.Event.l8 rfl rfl rfl (.cons Ing.Event.l9 rfl rfl rfl .nil)))))))))) ?_
 refine Plan_chain 33 rfl (by kernel_rfl) ?_
 refine GL_alloc rfl zv60 rfl (fun b1 => ?_)
 refine GL_hand rfl ⟨?_, ?_⟩
 · exact (Po rfl (PS_build pl60 zv60 rfl (.cons Ing.Event.l0 rfl rfl rfl (.cons Ing.Event.l1 rfl rfl rfl (.cons Ing.Event.l2 rfl rfl rfl (.cons Ing.Event.l3 rfl rfl rfl (.cons Ing.Event.l4 rfl rfl rfl (.cons Ing.Event.l5 rfl rfl rfl (.cons Ing.Event.l6 rfl rfl rfl (.cons Ing.Event.l8 rfl rfl rfl (.cons Ing.Event.l9 rfl rfl rfl .nil)))))))))) rfl rfl (Po rfl (PS_move rfl) rfl rfl (Po rfl (PS_move rfl) rfl rfl (Po rfl (PS_load rfl tys9 (.tail _ (.head _)) (((TurnV.l0.comp Land.l2).comp (Lens.arr (n := 6) Being.fl (by (try dsimp only at *); omega) (by (try dsimp only at *); omega))).comp Being.l0) rfl rfl) rfl rfl (Po rfl (PSf fa31_0 rfl) rfl rfl (Po rfl (PS_indexAddr ia32 rfl rfl (by (try dsimp only at *); omega) (by (try dsimp only at *); omega)) rfl rfl (Po rfl (PSf fa34_2 rfl) rfl rfl (Po rfl (PSf fa57_0 rfl) rfl rfl (Po rfl (PSn rfl) rfl rfl (Po rfl (PS_load rfl tys3 (.tail _ (.head _)) TurnV.l1 rfl rfl) rfl rfl (Po rfl (PSf fa57_1 rfl) rfl rfl (Po rfl (PSn rfl) rfl rfl (Po rfl (PS_move rfl) rfl rfl (Po rfl (PS_move rfl) rfl rfl (Po rfl (PS_move rfl) rfl rfl (Po rfl (PS_move rfl) rfl rfl (Po rfl (PS_move rfl) rfl rfl (Po rfl (PS_load rfl tys3 (.tail _ (.head _)) TurnV.l1 rfl rfl) rfl rfl (Po rfl (PSf fa57_1 rfl) rfl rfl (Po rfl (PSn rfl) rfl rfl (Po rfl (PS_move rfl) rfl rfl (Po rfl (PS_load rfl tys3 (.tail _ (.head _)) (((TurnV.l0.comp Land.l2).comp (Lens.arr (n := 6) Being.fl (by (try dsimp only at *); omega) (by (try dsimp only at *); omega))).comp Being.l3) rfl rfl) rfl rfl (Po rfl (PSf fa31_3 rfl) rfl rfl (Po rfl (PS_indexAddr ia32 rfl rfl (by (try dsimp only at *); omega) (by (try dsimp only at *); omega)) rfl rfl (Po rfl (PSf fa34_2 rfl) rfl rfl (Po rfl (PSf fa57_0 rfl) rfl rfl (Po rfl (PSn rfl) rfl rfl (Po rfl (PS_load rfl tys3 (.tail _ (.head _)) TurnV.l1 rfl rfl) rfl rfl (Po rfl (PSf fa57_1 rfl) rfl rfl (Po rfl (PSn rfl) rfl rfl (Po rfl (PS_move rfl) rfl rfl (Po rfl (PS_move rfl) rfl rfl (Po rfl (PS_move rfl) rfl rfl Pend_nil)))))))))))))))))))))))))))))))))
 refine Plan_chain 34 rfl (by kernel_rfl) ?_
 refine GL_unit (PU_store (Lens.id Ing.Event.fl.len Ing.Event.fl.one) rfl rfl rfl sz60 rfl .head) ?_
 refine GL_hand0 rfl ⟨?_, ?_⟩
 · exact (Pk (Pk (Pk (Pk (Pk (Pk (Pk (Pk (Pk (Pk (Pk (Pk (Pk (Pk (Pk (Pk (Pk (Pk (Pk (Pk (Pk (Pk (Pk (Pk (Pk (Pk (Pk (Pk (Pk (Pk (Pk (Pk (Pk Pend_nil)))))))))))))))))))))))))))))))))
 refine Plan_end (by kernel_rfl) ?_
 refine GQ_sub (.t3 0 2 14) ?_
 refine GQ_then ?_
 refine G_seq ?_
 refine G_seq ?_
 refine G_swap (c' := Ing.Event.enc ⟨k, (T.w.beings.at T.b).room, T.b, o, d, n, (T.w.beings.at T.b).name, [], x, u, default⟩) (fun _ => .head) rfl ?_
 refine G_region ?_
 refine Gm rfl ?_
 refine Gt (PS_geq rfl rfl) ?_
 refine Gn (.t4 0 2 14 49) ?_
 refine Gc (fun c1 => ?_) (fun c1 => ?_)
 ·
  have c1p := c1; try simp only [kk] at c1p
  refine G_region ?_
  refine Gm rfl (Gm rfl (Gt (PSn rfl) (Gt (PSf fa57_0 rfl) (Gt (PSf fa34_2 rfl) ?_))))
  refine Gt (PS_indexAddr ia32 rfl rfl (by (try dsimp only at *); omega) (by (try dsimp only at *); omega)) ?_
  refine Gt (PSf fa31_0 rfl) ?_
  refine Gt (PS_load rfl tys9 (.tail _ (.head _)) (((TurnV.l0.comp Land.l2).comp (Lens.arr (n := 6) Being.fl (by (try dsimp only at *); omega) (by (try dsimp only at *); omega))).comp Being.l0) rfl rfl) ?_
  refine Gt (PSf fa60_7 rfl) ?_
  refine GL_unit (PU_store Ing.Event.l7 rfl rfl rfl sz9 rfl .head) ?_
  refine Gn (.t2 0 14) ?_
  refine G_planN (N := 16) [0, 0, 2, 6, 14, 0, 32, 96, 224, 0, 992, 2016, 4094, 8191, 16383, 32767] mix (by kernel_rfl) rfl ?_
  refine Pf 0 rfl (PS_move rfl) (Pf 1 rfl (PS_move rfl) (Pf 2 rfl (PSn rfl) (Pf 3 rfl (PSf fa57_2 rfl) ?_)))
  refine Pf 4 rfl (PS_load rfl tys35 (.tail _ (.head _)) TurnV.l2 rfl rfl) ?_
  refine Pf 5 rfl (PS_move rfl) (Pf 6 rfl (PSn rfl) (Pf 7 rfl (PSf fa57_0 rfl) ?_))
  refine Pf 8 rfl (PS_loadA rfl tya34 (.tail _ (.head _)) TurnV.l0 rfl) ?_
  refine Pf 9 rfl (PS_loadA rfl tya60 (.head _) (Lens.id Ing.Event.fl.len Ing.Event.fl.one) rfl) ?_
  refine Plan_float 10 rfl rfl (by kernel_rfl) (OK_s (EX_c (PC_of cf49 (.cons rfl (.cons rfl .nil)) (fun w hS => ref_Everybody_spec _ _ w)))) ?_
  refine Plan_chain 11 rfl (by kernel_rfl) ?_
  refine GL_bs1F Ing.Event.enc Ing.Event.fl rfl Tryz.underlying35 sz60 zv60 rfl (by decide) (by decide) rfl rfl (fun b2 => ?_)
  refine GL_hand rfl ⟨?_, ?_⟩
  · exact (Pk (Pk (Pk (Pk (Pk (Pk (Po rfl (PS_load rfl tys35 (.tail _ (.tail _ (.head _))) TurnV.l2 rfl rfl) rfl rfl (Po rfl (PSf fa57_2 rfl) rfl rfl (Po rfl (PSn rfl) rfl rfl (Po rfl (PS_move rfl) rfl rfl (Po rfl (PS_move rfl) rfl rfl Pend_nil)))))))))))
  refine Plan_chain 12 rfl (by kernel_rfl) ?_
  refine GL_appendF Ing.Event.fl rfl Tryz.underlying35 sz60 zv60 rfl by60 (by decide) (by decide) rfl rfl (fun w hS => Src.sliceT Tryz.underlying35 ((Kn.own (.head _)) w hS)) (by (try dsimp only); omega) (fun _ => (.tail (.tail (.tail .head)))) (fun h1 h1l h1z => ?_)
  refine GL_hand rfl ⟨?_, ?_⟩
  · exact (Pk (Pk (Pk (Pk (Pk (Pk (Pk (Pk (Pk (Pk (Po rfl (PS_move rfl) rfl rfl Pend_nil)))))))))))
  refine Pf 13 rfl (PSn rfl) (Pf 14 rfl (PSf fa57_2 rfl) ?_)
  refine Plan_chain 15 rfl (by kernel_rfl) ?_
  refine GL_unit (PU_store TurnV.l2 rfl rfl rfl sz35 rfl (.tail (.tail .head))) ?_
  refine GL_hand0 rfl ⟨?_, ?_⟩
  · exact (Pk (Pk (Pk (Pk (Pk (Pk (Pk (Pk (Pk (Pk (Pk (Pk (Pk Pend_nil)))))))))))))
  refine Plan_end (by kernel_rfl) ?_
  refine GQ_end rfl .nil ?_
  intro w1 hS
  have hS := (hS.perm (Pulls.perm (.cons (.tail (.tail .head)) (.cons (.tail (.tail .head)) .nil)))).headL
  have hq := T.add_t (k := k) (d := d) (n := n) (x := x) (u := u) c1
  refine ⟨_, ⟨?gqTrue, rfl, ?hlTrue, ?hBTrue⟩, hS⟩
  case hBTrue => rw [hq]; (try rfl)
  case hlTrue => rw [hq]; simp only [List.length_append, List.length_cons, List.length_nil]; (try dsimp only at *); omega
 ·
  have c1p := c1; try simp only [kk] at c1p
  refine G_skip ?_
  refine GQ_sub (.t2 0 14) ?_
  refine GQ_then ?_
  refine G_planN (N := 16) [0, 0, 2, 6, 14, 0, 32, 96, 224, 0, 992, 2016, 4094, 8191, 16383, 32767] mix (by kernel_rfl) rfl ?_
  refine Pf 0 rfl (PS_move rfl) (Pf 1 rfl (PS_move rfl) (Pf 2 rfl (PSn rfl) (Pf 3 rfl (PSf fa57_2 rfl) ?_)))
  refine Pf 4 rfl (PS_load rfl tys35 (.tail _ (.head _)) TurnV.l2 rfl rfl) ?_
  refine Pf 5 rfl (PS_move rfl) (Pf 6 rfl (PSn rfl) (Pf 7 rfl (PSf fa57_0 rfl) ?_))
  refine Pf 8 rfl (PS_loadA rfl tya34 (.tail _ (.head _)) TurnV.l0 rfl) ?_
  refine Pf 9 rfl (PS_loadA rfl tya60 (.head _) (Lens.id Ing.Event.fl.len Ing.Event.fl.one) rfl) ?_
  refine Plan_float 10 rfl rfl (by kernel_rfl) (OK_s (EX_c (PC_of cf49 (.cons rfl (.cons rfl .nil)) (fun w hS => ref_Everybody_spec _ _ w)))) ?_
  refine Plan_chain 11 rfl (by kernel_rfl) ?_
  refine GL_bs1F Ing.Event.enc Ing.Event.fl rfl Tryz.underlying35 sz60 zv60 rfl (by decide) (by decide) rfl rfl (fun b3 => ?_)
  refine GL_hand rfl ⟨?_, ?_⟩
  · exact (Pk (Pk (Pk (Pk (Pk (Pk (Po rfl (PS_load rfl tys35 (.tail _ (.tail _ (.head _))) TurnV.l2 rfl rfl) rfl rfl (Po rfl (PSf fa57_2 rfl) rfl rfl (Po rfl (PSn rfl) rfl rfl (Po rfl (PS_move rfl) rfl rfl (Po rfl (PS_move rfl) rfl rfl Pend_nil)))))))))))
  refine Plan_chain 12 rfl (by kernel_rfl) ?_
  refine GL_appendF Ing.Event.fl rfl Tryz.underlying35 sz60 zv60 rfl by60 (by decide) (by decide) rfl rfl (fun w hS => Src.sliceT Tryz.underlying35 ((Kn.own (.head _)) w hS)) (by (try dsimp only); omega) (fun _ => (.tail (.tail (.tail .head)))) (fun h2 h2l h2z => ?_)
  refine GL_hand rfl ⟨?_, ?_⟩
  · exact (Pk (Pk (Pk (Pk (Pk (Pk (Pk (Pk (Pk (Pk (Po rfl (PS_move rfl) rfl rfl Pend_nil)))))))))))
  refine Pf 13 rfl (PSn rfl) (Pf 14 rfl (PSf fa57_2 rfl) ?_)
  refine Plan_chain 15 rfl (by kernel_rfl) ?_
  refine GL_unit (PU_store TurnV.l2 rfl rfl rfl sz35 rfl (.tail (.tail .head))) ?_
  refine GL_hand0 rfl ⟨?_, ?_⟩
  · exact (Pk (Pk (Pk (Pk (Pk (Pk (Pk (Pk (Pk (Pk (Pk (Pk (Pk Pend_nil)))))))))))))
  refine Plan_end (by kernel_rfl) ?_
  refine GQ_end rfl .nil ?_
  intro w1 hS
  have hS := (hS.perm (Pulls.perm (.cons (.tail (.tail .head)) (.cons (.tail (.tail .head)) .nil)))).headL
  have hq := T.add_f (k := k) (d := d) (n := n) (x := x) (u := u) c1
  refine ⟨_, ⟨?gqFalse, rfl, ?hlFalse, ?hBFalse⟩, hS⟩
  case hBFalse => rw [hq]; (try rfl)
  case hlFalse => rw [hq]; simp only [List.length_append, List.length_cons, List.length_nil]; (try dsimp only at *); omega
theorem ref_turn_tell_spec (b : Nat) (T : Turn) (g : Hd) (u : Str) (hg : g.len = T.out.length) (hb : 0 ≤ T.b ∧ T.b < 6) (hn : T.out.length ≤ 100000) : Ctr Tryz.prog 39 #[.pointer (some ⟨b, 0, none⟩), vstr u] [Res.box b 57 (TurnV.enc ⟨T.w, T.b, g⟩), Res.own g 60 16 (T.out.flatMap Ing.Event.enc)] (fun v B => ∃ g' : Hd, v = .tuple #[] ∧ g'.len = (T.tell u).out.length ∧ B = [Res.box b 57 (TurnV.enc ⟨(T.tell u).w, (T.tell u).b, g'⟩), Res.own g' 60 16 ((T.tell u).out.flatMap Ing.Event.enc)]) := by
 intro w hS0
 refine Ret_body _ _ Tryz.func39 rfl rfl rfl (hS0) ?_
 refine G_region ?_
 refine Gm rfl (Gm rfl ?_)
 refine GL_callL rfl cf20 (.cons rfl (.cons rfl (.cons rfl (.cons rfl (.cons rfl (.cons rfl (.cons rfl .nil))))))) (.cons .head (.cons .head .nil)) (ref_turn_add_spec _ _ _ 16 (-1) 0 0 [] u hg hb (show (-1 : Int) < 6 by decide) hn) (fun v1 B hv => ?_)
 obtain ⟨y2, rfl, y3, rfl⟩ := hv
 refine GL_nil ?_
 refine GQ_end rfl .nil ?_
 intro w1 hS
 have hS := (hS.perm (Pulls.perm (.cons .head (.cons .head .nil)))).headL
 exact ⟨_, ⟨_, rfl, by assumption, rfl⟩, hS⟩
theorem ref_HasAt_spec (X : Land) (whr at_ : Int) : Ctr Tryz.prog 68 #[.agg X.enc.toArray, .int .i64 whr, .int .i64 at_] [] (fun v B => ∃ h' : Hd, v = h'.val ∧ h'.len = (X.has whr at_).length ∧ B = [Res.own h' 3 1 ((X.has whr at_).flatMap encI)]) := by
 intro w hS0
 refine Ret_body _ _ Tryz.func68 rfl rfl rfl (hS0) ?_
 refine Gs ?_
 refine GL_box rfl rfl rfl (fun b1 => ?_)
 refine Ga rfl ?_
 refine Gn (.t3 1 2 3) ?_
 refine Gs ?_
 refine Ga rfl ?_
 refine GL_nil ?_
 refine GQ_then ?_
 refine Gss ?_
 refine Gm rfl ?_
 refine GL_nil ?_
 refine GQ_then ?_
 refine G_block ?_
 refine G_subF (.t5 7 9 1 2 3) ?_
 refine G_nilF encI 3 1 ?_
 refine G_loop3_ (fun (k : Int) (xs : List Int) (g : Hd) => 0 ≤ k ∧ k ≤ 9 ∧ xs = X.hasL whr at_ k.toNat ∧ g.len = xs.length) (fun (k : Int) (xs : List Int) (g : Hd) => (9 - k).toNat) (fun (k : Int) (xs : List Int) (g : Hd) => [(7, g.val), (9, .int .i64 k)]) (fun (k : Int) (xs : List Int) (g : Hd) => [Res.own g 3 1 (xs.flatMap encI)]) (0) ([]) (_) ?_ rfl rfl (fun k xs g hI1 => ?_)
 · exact ⟨by omega, by omega, rfl, rfl⟩
 obtain ⟨hI11, hI12, hI13, hI14⟩ := hI1
 refine Gs ?_
 refine Gt (PS_lss rfl rfl) ?_
 refine GL_nil ?_
 refine GQ_then ?_
 refine G_seq ?_
 refine Gc (fun c1 => ?_) (fun c1 => ?_)
 ·
  have c1p := c1; try simp only [kk] at c1p
  have hxl := Land.hasL_len X whr at_ k.toNat
  rw [← hI13] at hxl
  refine G_skip ?_
  refine GQ_sub (.t5 1 2 3 7 9) ?_
  refine GQ_then ?_
  refine G_seq ?_
  refine G_block ?_
  refine Gs ?_
  refine Gm rfl (Ga rfl ?_)
  refine Gn (.t6 1 2 3 7 8 9) ?_
  refine Gs ?_
  refine Gm rfl (Gt (PSf fa34_1 rfl) ?_)
  refine Gt (PS_indexAddr ia29 rfl rfl (by omega) (by omega)) ?_
  refine Gt (PSf fa28_3 rfl) ?_
  refine Gt (PS_load rfl tys3 (.tail _ (.head _)) ((Land.l1.comp (Lens.ar (n := 9) Thing.fl (by omega))).comp Thing.l3) rfl rfl) ?_
  refine Gm rfl ?_
  refine Gt (PS_eql rfl rfl) ?_
  refine Gm rfl ?_
  refine GL_gt (t := 19) rfl rfl rfl (fun q => PS_move rfl) ?_
  refine GL_gt (t := 19) rfl rfl rfl (fun q => PSf fa34_1 rfl) ?_
  refine GL_gt (t := 19) rfl rfl rfl (fun q => by have q1 := q; (try simp at q1); exact PS_indexAddr ia29 (cvE rfl q) (cvE rfl q) (by omega) (by omega)) ?_
  refine GL_gt (t := 19) rfl rfl rfl (fun q => PSf fa28_2 (cvE rfl q)) ?_
  refine GL_gt (t := 19) rfl rfl rfl (fun q => by have q1 := q; (try simp at q1); exact PS_load (cvE rfl q) tys3 (.tail _ (.head _)) ((Land.l1.comp (Lens.ar (n := 9) Thing.fl (by omega))).comp Thing.l2) rfl rfl) ?_
  refine GL_gt (t := 19) rfl rfl rfl (fun q => PS_move rfl) ?_
  refine GL_gt (t := 19) rfl rfl rfl (fun q => PS_eql (cvE rfl q) (cvE rfl q)) ?_
  refine Gt (PS_and rfl rfl (fun h => h)) ?_
  refine Gn (.t7 1 2 3 7 8 9 27) ?_
  refine Gc (fun c2 => ?_) (fun c2 => ?_)
  ·
   have c2p := c2; try simp only [kk] at c2p
   refine G_region ?_
   refine Gm rfl (Gm rfl ?_)
   refine GL_bs1F encI flI rfl Tryz.underlying66 sz3 zv3 rfl (by decide) (by decide) rfl rfl (fun b2 => ?_)
   refine GL_appendF flI rfl Tryz.underlying66 sz3 zv3 rfl by3 (by decide) (by decide) rfl rfl (fun w hS => Src.sliceT Tryz.underlying66 ((Kn.own (.head _)) w hS)) (by (try dsimp only); omega) (fun _ => (.tail .head)) (fun h1 h1l h1z => ?_)
   refine Ga rfl ?_
   refine GL_nil (GQ_sub (.t5 1 2 3 7 9) ?_)
   refine GQ_block ?_
   refine GQ_then ?_
   refine G_region ?_
   refine Gt (PS_add rfl rfl (IntWalk.i64_in _ (by omega))) ?_
   refine Gm rfl ?_
   refine GL_nil (GQ_sub (.t5 1 2 3 7 9) ?_)
   refine GQ_next3_ (k + 1) _ _ ?_ ?_ (.t5 7 9 1 2 3) (.cons _ (.refl _))
   · exact ⟨by omega, by omega, by rw [Land.hasL_t hI11 ((Bool.and_comm _ _).trans c2), ← hI13], (by (try dsimp only at *) <;> (try simp only [List.length_append, List.length_cons, List.length_nil]) <;> omega)⟩
   · omega
  ·
   have c2p := c2; try simp only [kk] at c2p
   refine G_skip ?_
   refine GQ_sub (.t5 1 2 3 7 9) ?_
   refine GQ_block ?_
   refine GQ_then ?_
   refine G_region ?_
   refine Gt (PS_add rfl rfl (IntWalk.i64_in _ (by omega))) ?_
   refine Gm rfl ?_
   refine GL_nil (GQ_sub (.t5 1 2 3 7 9) ?_)
   refine GQ_next3_ (k + 1) _ _ ?_ ?_ (.t5 7 9 1 2 3) (.refl _)
   · exact ⟨by omega, by omega, by rw [Land.hasL_f hI11 ((Bool.and_comm _ _).trans c2), ← hI13], (by (try dsimp only at *) <;> (try simp only [List.length_append, List.length_cons, List.length_nil]) <;> omega)⟩
   · omega
 ·
  have c1p := c1; try simp only [kk] at c1p
  obtain rfl : k = 9 := by omega
  refine G_exit ?_
  refine GQ_then_exit ?_
  refine GQ_then_exit ?_
  refine GQ_block_exit ?_
  refine GQ_sub (.t1 7) ?_
  refine GQ_then ?_
  refine Gs ?_
  refine Gm rfl (Ga rfl ?_)
  refine Gn (.t1 6) ?_
  refine G_ret ?_
  refine GQ_ret rfl (.tmp rfl .nil) ?_
  intro w1 hS
  have hS := (hS.perm (Pulls.perm (.cons .head .nil))).headL
  exact ⟨_, ⟨_, rfl, by rw [Land.has_eq, ← hI13]; assumption, by rw [Land.has_eq, ← hI13]⟩, hS⟩
theorem ref_turn_inSight_spec (b : Nat) (T : Turn) (g : Hd) (hF : T.Fit) : Ctr Tryz.prog 52 #[.pointer (some ⟨b, 0, none⟩)] [Res.box b 57 (TurnV.enc ⟨T.w, T.b, g⟩)] (fun v B => ∃ f : Hd, v = f.val ∧ f.len = (T.seen).length ∧ B = [Res.box b 57 (TurnV.enc ⟨T.w, T.b, g⟩), Res.own f 3 1 ((T.seen).flatMap encI)]) := by
 intro w hS0
 have hb := hF.b
 have hr := hF.room
 refine Ret_body _ _ Tryz.func52 rfl rfl rfl (hS0) ?_
 refine Gs ?_
 refine Ga rfl ?_
 refine Gn (.t1 0) ?_
 refine G_seq ?_
 refine G_seq ?_
 refine G_planN (N := 8) [0, 1, 3, 7, 0, 16, 63, 127] mix (by kernel_rfl) rfl ?_
 refine Pf 0 rfl (PS_move rfl) (Pf 1 rfl (PSn rfl) (Pf 2 rfl (PSf fa57_0 rfl) ?_))
 refine Pf 3 rfl (PS_loadA rfl tya34 (.head _) TurnV.l0 rfl) ?_
 refine Pf 4 rfl (PS_move rfl) ?_
 refine Plan_chain 5 rfl (by kernel_rfl) ?_
 refine GL_callL rfl cf51 (.cons rfl .nil) (.cons .head .nil) (ref_turn_here_spec _ T _ hF) (fun v1 B hv => ?_)
 obtain ⟨rfl, rfl⟩ := hv
 refine GL_hand rfl ⟨?_, ?_⟩
 · exact (Pk (Po rfl (PS_loadA rfl tya34 (.head _) TurnV.l0 rfl) rfl rfl (Po rfl (PSf fa57_0 rfl) rfl rfl (Po rfl (PSn rfl) rfl rfl (Po rfl (PS_move rfl) rfl rfl Pend_nil)))))
 refine Plan_float 6 rfl rfl (by kernel_rfl) (OK_s (EX_c (PC_of cf50 (.cons rfl (.cons rfl .nil)) (fun w hS => ref_IsBright_spec _ _ w)))) ?_
 refine Pf 7 rfl (PS_not rfl) ?_
 refine Plan_end (by kernel_rfl) ?_
 refine GQ_sub (.t2 0 10) ?_
 refine GQ_then ?_
 refine Gc (fun c1 => ?_) (fun c1 => ?_)
 ·
  have c1p := c1; try simp only [kk] at c1p
  refine Gs ?_
  refine Ga rfl ?_
  refine Gn (.t1 2) ?_
  refine G_ret ?_
  refine GQ_then_ret ?_
  refine GQ_ret rfl (.tmp rfl .nil) ?_
  intro w1 hS
  have hS := hS.own_nil 3 1
  have hS := (hS.perm (Pulls.perm (.cons (.tail .head) (.cons .head .nil)))).headL
  have hq : T.seen = _ := if_t c1
  exact ⟨_, ⟨⟨none, 0, 0⟩, rfl, by rw [hq]; rfl, by rw [hq]; rfl⟩, hS⟩
 ·
  have c1p := c1; try simp only [kk] at c1p
  refine G_skip ?_
  refine GQ_sub (.t1 0) ?_
  refine GQ_then ?_
  refine G_seq ?_
  refine G_planN (N := 8) [0, 1, 3, 7, 0, 16, 63, 127] mix (by kernel_rfl) rfl ?_
  refine Pf 0 rfl (PS_move rfl) (Pf 1 rfl (PSn rfl) (Pf 2 rfl (PSf fa57_0 rfl) ?_))
  refine Pf 3 rfl (PS_loadA rfl tya34 (.head _) TurnV.l0 rfl) ?_
  refine Pf 4 rfl (PS_move rfl) ?_
  refine Plan_chain 5 rfl (by kernel_rfl) ?_
  refine GL_callL rfl cf51 (.cons rfl .nil) (.cons .head .nil) (ref_turn_here_spec _ T _ hF) (fun v3 B hv => ?_)
  obtain ⟨rfl, rfl⟩ := hv
  refine GL_hand rfl ⟨?_, ?_⟩
  · exact (Pk (Po rfl (PS_loadA rfl tya34 (.head _) TurnV.l0 rfl) rfl rfl (Po rfl (PSf fa57_0 rfl) rfl rfl (Po rfl (PSn rfl) rfl rfl (Po rfl (PS_move rfl) rfl rfl Pend_nil)))))
  refine Plan_chain 6 rfl (by kernel_rfl) ?_
  refine GL_callL rfl cf68 (.cons rfl (.cons rfl (.cons rfl .nil))) .nil (ref_HasAt_spec _ _ _) (fun v4 B hv => ?_)
  obtain ⟨y5, rfl, y6, rfl⟩ := hv
  refine GL_hand rfl ⟨?_, ?_⟩
  · exact (Pk (Pk (Pk (Pk (Pk Pend_nil)))))
  refine Pf 7 rfl (PS_assign rfl) ?_
  refine Plan_end (by kernel_rfl) ?_
  refine GQ_sub (.t1 2) ?_
  refine GQ_then ?_
  refine G_ret ?_
  refine GQ_ret rfl (.tmp rfl .nil) ?_
  intro w1 hS
  have hS := (hS.perm (Pulls.perm (.cons (.tail .head) (.cons .head .nil)))).headL
  have hq : T.seen = _ := (if_f c1)
  exact ⟨_, ⟨_, rfl, by rw [hq]; first | rfl | assumption, by rw [hq]; rfl⟩, hS⟩
theorem ref_turn_named_spec (b : Nat) (T : Turn) (g : Hd) (f : Hd) (l : List Int) (hF : T.Fit) (hf : f.len = l.length) (hl : l.length ≤ 9) (hi : ∀ i ∈ l, 0 ≤ i ∧ i < 9) : Ctr Tryz.prog 40 #[.pointer (some ⟨b, 0, none⟩), f.val] [Res.box b 57 (TurnV.enc ⟨T.w, T.b, g⟩), Res.own f 3 1 (l.flatMap encI)] (fun v B => v = vstr (Turn.namedR T.w l) ∧ B = [Res.box b 57 (TurnV.enc ⟨T.w, T.b, g⟩), Res.own f 3 1 (l.flatMap encI)]) := by
 intro w hS0
 have hb := hF.b
 have hr := hF.room
 have hw := hF.br
 refine Ret_body _ _ Tryz.func40 rfl rfl rfl (hS0) ?_
 refine Gs ?_
 refine Ga rfl ?_
 refine Gn (.t2 0 1) ?_
 refine Gs ?_
 refine Ga rfl ?_
 refine GL_nil ?_
 refine GQ_then ?_
 refine Gss ?_
 refine Gm rfl ?_
 refine Gt (PS_len_slice rfl Tryz.underlying66 rfl) ?_
 refine Gm rfl ?_
 refine Gn (.t5 0 5 8 9 10) ?_
 refine G_block ?_
 refine G_subF (.t5 5 10 0 8 9) ?_
 refine G_loop2_ (fun (k : Int) (x : Str) => 0 ≤ k ∧ k ≤ (l.length : Int) ∧ Turn.listS T.w [] l = Turn.listS T.w x (l.drop k.toNat) ∧ x.length ≤ 1000 + k.toNat * 140737488351300) (fun (k : Int) (x : Str) => ((l.length : Int) - k).toNat) (fun (k : Int) (x : Str) => [(5, vstr x), (10, .int .i64 k)]) (fun (k : Int) (x : Str) => []) (0) ([]) ?_ rfl rfl (fun k x hI1 => ?_)
 · exact ⟨by omega, by omega, by simp, by simp⟩
 obtain ⟨hI11, hI12, hI13, hI14⟩ := hI1
 refine Gs ?_
 refine Gt (PS_lss rfl rfl) ?_
 refine GL_nil ?_
 refine GQ_then ?_
 refine G_seq ?_
 refine Gc (fun c1 => ?_) (fun c1 => ?_)
 ·
  have c1p := c1; try simp only [kk] at c1p
  have hx := hi _ (Line.getD_memI (xs := l) (i := k.toNat) (by omega))
  have hnl := hw.th (l.getD k.toNat 0)
  refine G_skip ?_
  refine GQ_sub (.t5 0 5 8 9 10) ?_
  refine GQ_then ?_
  refine G_seq ?_
  refine G_block ?_
  refine Gs ?_
  refine Gt (PS_idxS is66 (by decide) (Kn.own (.tail _ (.head _))) rfl rfl (by omega) (by omega)) ?_
  refine Gt (PS_ldInt rfl tys3 (Kn.own (.tail _ (.head _))) (by omega)) ?_
  refine Ga rfl ?_
  refine Gn (.t6 0 5 7 8 9 10) ?_
  refine Gs ?_
  refine Gm rfl (Gm rfl (Gm rfl (Gt (PSn rfl) (Gt (PSf fa57_0 rfl) (Gt (PSf fa34_1 rfl) ?_)))))
  refine Gt (PS_indexAddr ia29 rfl rfl (by first | omega | (dsimp only; omega) | ((try simp only [List.length_append, List.length_cons, List.length_nil]); omega) | ((try dsimp only at *); (try simp only [List.length_append, List.length_cons, List.length_nil]); omega)) (by first | omega | (dsimp only; omega) | ((try simp only [List.length_append, List.length_cons, List.length_nil]); omega) | ((try dsimp only at *); (try simp only [List.length_append, List.length_cons, List.length_nil]); omega))) ?_
  refine Gt (PSf fa28_0 rfl) ?_
  refine Gt (PS_load rfl tys9 (.head _) (((TurnV.l0.comp Land.l1).comp (Lens.arr (n := 9) Thing.fl (by first | omega | (dsimp only; omega) | ((try simp only [List.length_append, List.length_cons, List.length_nil]); omega) | ((try dsimp only at *); (try simp only [List.length_append, List.length_cons, List.length_nil]); omega)) (by first | omega | (dsimp only; omega) | ((try simp only [List.length_append, List.length_cons, List.length_nil]); omega) | ((try dsimp only at *); (try simp only [List.length_append, List.length_cons, List.length_nil]); omega)))).comp Thing.l0) rfl rfl) ?_
  refine Gt (PS_add_str rfl rfl (by first | omega | (dsimp only; omega) | ((try simp only [List.length_append, List.length_cons, List.length_nil]); omega) | ((try dsimp only at *); (try simp only [List.length_append, List.length_cons, List.length_nil]); omega))) ?_
  refine Gt (PS_add_str rfl rfl (by first | omega | (dsimp only; omega) | ((try simp only [List.length_append, List.length_cons, List.length_nil]); omega) | ((try dsimp only at *); (try simp only [List.length_append, List.length_cons, List.length_nil]); omega))) ?_
  refine Ga rfl ?_
  refine Gn (.t6 0 5 7 8 9 10) ?_
  refine Gs ?_
  refine Gm rfl (Gm rfl (Gt (PSn rfl) (Gt (PSf fa57_0 rfl) (Gt (PSf fa34_1 rfl) ?_))))
  refine Gt (PS_indexAddr ia29 rfl rfl (by first | omega | (dsimp only; omega) | ((try simp only [List.length_append, List.length_cons, List.length_nil]); omega) | ((try dsimp only at *); (try simp only [List.length_append, List.length_cons, List.length_nil]); omega)) (by first | omega | (dsimp only; omega) | ((try simp only [List.length_append, List.length_cons, List.length_nil]); omega) | ((try dsimp only at *); (try simp only [List.length_append, List.length_cons, List.length_nil]); omega))) ?_
  refine Gt (PSf fa28_4 rfl) ?_
  refine Gt (PS_load rfl tys4 (.head _) (((TurnV.l0.comp Land.l1).comp (Lens.arr (n := 9) Thing.fl (by first | omega | (dsimp only; omega) | ((try simp only [List.length_append, List.length_cons, List.length_nil]); omega) | ((try dsimp only at *); (try simp only [List.length_append, List.length_cons, List.length_nil]); omega)) (by first | omega | (dsimp only; omega) | ((try simp only [List.length_append, List.length_cons, List.length_nil]); omega) | ((try dsimp only at *); (try simp only [List.length_append, List.length_cons, List.length_nil]); omega)))).comp Thing.l4) rfl rfl) ?_
  refine Gn (.t6 0 5 8 9 10 32) ?_
  refine Gc (fun c2 => ?_) (fun c2 => ?_)
  ·
   have c2p := c2; try simp only [kk] at c2p
   refine G_region ?_
   refine Gm rfl ?_
   refine Gt (PS_add_str rfl rfl (by first | omega | (dsimp only; omega) | ((try simp only [List.length_append, List.length_cons, List.length_nil]); omega) | ((try dsimp only at *); (try simp only [List.length_append, List.length_cons, List.length_nil]); omega))) ?_
   refine Ga rfl ?_
   refine GL_nil (GQ_sub (.t5 0 5 8 9 10) ?_)
   refine GQ_block ?_
   refine GQ_then ?_
   refine G_region ?_
   refine Gt (PS_add rfl rfl (IntWalk.i64_in _ (by first | omega | (dsimp only; omega) | ((try simp only [List.length_append, List.length_cons, List.length_nil]); omega) | ((try dsimp only at *); (try simp only [List.length_append, List.length_cons, List.length_nil]); omega)))) ?_
   refine Gm rfl ?_
   refine GL_nil (GQ_sub (.t5 0 5 8 9 10) ?_)
   refine GQ_next2_ (k + 1) _ ?_ ?_ (.t5 5 10 0 8 9) (.refl _)
   · exact ⟨by omega, by omega, by rw [hI13, Turn.listS_t hI11 (by omega) c2], by simp only [List.length_append, List.length_cons, List.length_nil]; omega⟩
   · omega
  ·
   have c2p := c2; try simp only [kk] at c2p
   refine G_skip ?_
   refine GQ_sub (.t5 0 5 8 9 10) ?_
   refine GQ_block ?_
   refine GQ_then ?_
   refine G_region ?_
   refine Gt (PS_add rfl rfl (IntWalk.i64_in _ (by first | omega | (dsimp only; omega) | ((try simp only [List.length_append, List.length_cons, List.length_nil]); omega) | ((try dsimp only at *); (try simp only [List.length_append, List.length_cons, List.length_nil]); omega)))) ?_
   refine Gm rfl ?_
   refine GL_nil (GQ_sub (.t5 0 5 8 9 10) ?_)
   refine GQ_next2_ (k + 1) _ ?_ ?_ (.t5 5 10 0 8 9) (.refl _)
   · exact ⟨by omega, by omega, by rw [hI13, Turn.listS_f hI11 (by omega) c2], by simp only [List.length_append, List.length_cons, List.length_nil]; omega⟩
   · omega
 ·
  have c1p := c1; try simp only [kk] at c1p
  obtain rfl : k = (l.length : Int) := by omega
  rw [show (l.length : Int).toNat = l.length by omega, List.drop_length] at hI13
  have hxl : Turn.listS T.w [] l = x := hI13
  refine G_exit ?_
  refine GQ_then_exit ?_
  refine GQ_then_exit ?_
  refine GQ_block_exit ?_
  refine GQ_sub (.t1 5) ?_
  refine GQ_then ?_
  refine Gss ?_
  refine Gm rfl ?_
  refine Gt (PS_eql_str rfl rfl) ?_
  refine Gn (.t2 5 37) ?_
  refine Gc (fun c3 => ?_) (fun c3 => ?_)
  ·
   have c3p := c3; try simp only [kk] at c3p
   refine Gs ?_
   refine Ga rfl ?_
   refine Gn (.t1 4) ?_
   refine G_ret ?_
   refine GQ_then_ret ?_
   refine GQ_ret rfl (.tmp rfl .nil) ?_
   intro w1 hS
   have hS := (hS.perm (Pulls.perm (.cons .head (.cons .head .nil)))).headL
   have hq : Turn.namedR T.w l = _ := if_t (show decide (Turn.listS T.w [] l = []) = true by rw [hxl]; exact c3)
   exact ⟨_, ⟨by rw [hq]; (try rw [hxl]); (try rfl), rfl⟩, hS⟩
  ·
   have c3p := c3; try simp only [kk] at c3p
   refine G_skip ?_
   refine GQ_sub (.t1 5) ?_
   refine GQ_then ?_
   refine Gs ?_
   refine Gm rfl ?_
   refine Gt (PS_add_str rfl rfl (by first | omega | (dsimp only; omega) | ((try simp only [List.length_append, List.length_cons, List.length_nil]); omega) | ((try dsimp only at *); (try simp only [List.length_append, List.length_cons, List.length_nil]); omega))) ?_
   refine Ga rfl ?_
   refine Gn (.t1 4) ?_
   refine G_ret ?_
   refine GQ_ret rfl (.tmp rfl .nil) ?_
   intro w1 hS
   have hS := (hS.perm (Pulls.perm (.cons .head (.cons .head .nil)))).headL
   have hq : Turn.namedR T.w l = _ := if_f (show decide (Turn.listS T.w [] l = []) = false by rw [hxl]; exact c3)
   exact ⟨_, ⟨by rw [hq]; (try rw [hxl]); (try rfl), rfl⟩, hS⟩
theorem ref_turn_look_spec (b : Nat) (T : Turn) (g : Hd) (hg : g.len = T.out.length) (hF : T.Fit) (hn : T.out.length ≤ 90000) : CtrR Tryz.prog 21 #[.pointer (some ⟨b, 0, none⟩)] [Res.box b 57 (TurnV.enc ⟨T.w, T.b, g⟩), Res.own g 60 16 (T.out.flatMap Ing.Event.enc)] (fun w => (GV 0 Land.verbsV w ∧ 0 ∉ feet [Res.box b 57 (TurnV.enc ⟨T.w, T.b, g⟩), Res.own g 60 16 (T.out.flatMap Ing.Event.enc)])) (fun v B => ∃ g' : Hd, v = .tuple #[] ∧ g'.len = (T.look).out.length ∧ B = [Res.box b 57 (TurnV.enc ⟨(T.look).w, (T.look).b, g'⟩), Res.own g' 60 16 ((T.look).out.flatMap Ing.Event.enc)]) := by
 intro w hS0 hH
 obtain ⟨gl0, gm0⟩ := hH
 have hb := hF.b
 have hr := hF.room
 have hw := hF.br
 refine Ret_body _ _ Tryz.func21 rfl rfl rfl (hS0) ?_
 refine G_seq ?_
 refine G_seq ?_
 refine G_planN (N := 8) [0, 1, 3, 7, 0, 16, 63, 127] mix (by kernel_rfl) rfl ?_
 refine Pf 0 rfl (PS_move rfl) (Pf 1 rfl (PSn rfl) (Pf 2 rfl (PSf fa57_0 rfl) ?_))
 refine Pf 3 rfl (PS_loadA rfl tya34 (.head _) TurnV.l0 rfl) ?_
 refine Pf 4 rfl (PS_move rfl) ?_
 refine Plan_chain 5 rfl (by kernel_rfl) ?_
 refine GL_callL rfl cf51 (.cons rfl .nil) (.cons .head .nil) (ref_turn_here_spec _ T _ hF) (fun v1 B hv => ?_)
 obtain ⟨rfl, rfl⟩ := hv
 refine GL_hand rfl ⟨?_, ?_⟩
 · exact (Pk (Po rfl (PS_loadA rfl tya34 (.head _) TurnV.l0 rfl) rfl rfl (Po rfl (PSf fa57_0 rfl) rfl rfl (Po rfl (PSn rfl) rfl rfl (Po rfl (PS_move rfl) rfl rfl Pend_nil)))))
 refine Plan_float 6 rfl rfl (by kernel_rfl) (OK_s (EX_c (PC_of cf50 (.cons rfl (.cons rfl .nil)) (fun w hS => ref_IsBright_spec _ _ w)))) ?_
 refine Pf 7 rfl (PS_not rfl) ?_
 refine Plan_end (by kernel_rfl) ?_
 refine GQ_sub (.t2 0 14) ?_
 refine GQ_then ?_
 refine Gc (fun c1 => ?_) (fun c1 => ?_)
 ·
  have c1p := c1; try simp only [kk] at c1p
  refine Gs ?_
  refine Gm rfl ?_
  refine GL_callL rfl cf39 (.cons rfl (.cons rfl .nil)) (.cons .head (.cons .head .nil)) (ref_turn_tell_spec _ T _ _ hg hb (by omega)) (fun v2 B hv => ?_)
  obtain ⟨y3, rfl, y4, rfl⟩ := hv
  refine Gn (.nil _) ?_
  refine G_ret ?_
  refine GQ_then_ret ?_
  refine GQ_ret rfl .nil ?_
  intro w1 hS
  have hS := (hS.perm (Pulls.perm (.cons .head (.cons .head .nil)))).headL
  refine ⟨_, ⟨?gq1, rfl, ?hl1, ?hB1⟩, hS⟩
  case hB1 => rw [show T.look = _ from if_t c1]; rfl
  case hl1 => rw [show T.look = _ from if_t c1]; assumption
 ·
  have c1p := c1; try simp only [kk] at c1p
  have hsee := Turn.seen_bright (T := T) c1
  have hnr := hw.ro (T.w.beings.at T.b).room
  refine G_skip ?_
  refine GQ_sub (.t1 0) ?_
  refine GQ_then ?_
  refine G_seq ?_
  refine G_planN (N := 10) [0, 0, 2, 1, 9, 25, 63, 127, 0, 511] mix (by kernel_rfl) rfl ?_
  refine Pf 0 rfl (PS_move rfl) (Pf 1 rfl (PS_move rfl) (Pf 3 rfl (PSn rfl) (Pf 4 rfl (PSf fa57_0 rfl) (Pf 5 rfl (PSf fa34_0 rfl) ?_))))
  refine Plan_two 2 8 rfl rfl (by kernel_rfl) ?_ ?_
  ·
   refine GL_callL rfl cf51 (.cons rfl .nil) (.cons .head .nil) (ref_turn_here_spec _ T _ hF) (fun v5 B hv => ?_)
   obtain ⟨rfl, rfl⟩ := hv
   refine GL_hand rfl ⟨?_, ?_⟩
   · exact (Po rfl (PSf fa34_0 rfl) rfl rfl (Po rfl (PSf fa57_0 rfl) rfl rfl (Po rfl (PSn rfl) rfl rfl (Pk (Po rfl (PS_move rfl) rfl rfl Pend_nil)))))
   refine Pf 6 rfl (PS_indexAddr ia26 rfl rfl (by first | omega | exact hb.1 | exact hb.2 | exact hr.1 | exact hr.2 | (dsimp only; omega) | (simp only [List.length_append, List.length_cons, List.length_nil]; omega) | ((try dsimp only at *); (try simp only [List.length_append, List.length_cons, List.length_nil]); omega)) (by first | omega | exact hb.1 | exact hb.2 | exact hr.1 | exact hr.2 | (dsimp only; omega) | (simp only [List.length_append, List.length_cons, List.length_nil]; omega) | ((try dsimp only at *); (try simp only [List.length_append, List.length_cons, List.length_nil]); omega))) ?_
   refine Pf 7 rfl (PS_loadA rfl tya25 (.head _) ((TurnV.l0.comp Land.l0).comp (Lens.ar (n := 6) Room.fl (by first | omega | exact hb | exact hr | (dsimp only; omega) | (simp only [List.length_append, List.length_cons, List.length_nil]; omega) | ((try dsimp only at *); (try simp only [List.length_append, List.length_cons, List.length_nil]); omega)))) rfl) ?_
   refine Plan_chain 8 rfl (by kernel_rfl) ?_
   refine GL_alloc rfl zv25 rfl (fun b1 => ?_)
   refine GL_hand rfl ⟨?_, ?_⟩
   · exact (Po rfl (PS_loadA rfl tya25 (.tail _ (.head _)) ((TurnV.l0.comp Land.l0).comp (Lens.ar (n := 6) Room.fl (by first | omega | exact hb | exact hr | (dsimp only; omega) | (simp only [List.length_append, List.length_cons, List.length_nil]; omega) | ((try dsimp only at *); (try simp only [List.length_append, List.length_cons, List.length_nil]); omega)))) rfl) rfl rfl (Po rfl (PS_indexAddr ia26 rfl rfl (by first | omega | exact hb.1 | exact hb.2 | exact hr.1 | exact hr.2 | (dsimp only; omega) | (simp only [List.length_append, List.length_cons, List.length_nil]; omega) | ((try dsimp only at *); (try simp only [List.length_append, List.length_cons, List.length_nil]); omega)) (by first | omega | exact hb.1 | exact hb.2 | exact hr.1 | exact hr.2 | (dsimp only; omega) | (simp only [List.length_append, List.length_cons, List.length_nil]; omega) | ((try dsimp only at *); (try simp only [List.length_append, List.length_cons, List.length_nil]); omega))) rfl rfl (Po rfl (PSf fa34_0 rfl) rfl rfl (Po rfl (PSf fa57_0 rfl) rfl rfl (Po rfl (PSn rfl) rfl rfl (Po rfl (PS_move rfl) rfl rfl (Po rfl (PS_move rfl) rfl rfl Pend_nil)))))))
   refine Plan_chain 9 rfl (by kernel_rfl) ?_
   refine GL_unit (PU_store (Lens.id Room.fl.len Room.fl.one) rfl rfl rfl sz25 rfl .head) ?_
   refine GL_hand0 rfl ⟨?_, ?_⟩
   · exact (Pk (Pk (Pk (Pk (Pk (Pk (Pk Pend_nil)))))))
   refine Plan_end (by kernel_rfl) ?_
   refine GQ_sub (.t2 0 2) ?_
   refine GQ_then ?_
   refine Gs ?_
   refine Ga rfl ?_
   refine GL_nil ?_
   refine GQ_then ?_
   refine Gss ?_
   refine Gm rfl ?_
   refine GL_nil ?_
   refine GQ_then ?_
   refine G_block ?_
   refine G_subF (.t4 3 25 0 2) ?_
   refine G_loop2_ (fun (k : Int) (x : Str) => 0 ≤ k ∧ k ≤ 6 ∧ x = Turn.waysK (T.w.rooms.at T.me.room) k.toNat) (fun (k : Int) (x : Str) => (6 - k).toNat) (fun (k : Int) (x : Str) => [(3, vstr x), (25, .int .i64 k)]) (fun (k : Int) (x : Str) => []) (0) (_) ?_ rfl rfl (fun k x hI1 => ?_)
   · exact ⟨by omega, by omega, rfl⟩
   obtain ⟨hI11, hI12, hI13⟩ := hI1
   refine Gs ?_
   refine Gt (PS_lss rfl rfl) ?_
   refine GL_nil ?_
   refine GQ_then ?_
   refine G_seq ?_
   refine Gc (fun c2 => ?_) (fun c2 => ?_)
   ·
    have c2p := c2; try simp only [kk] at c2p
    have hxd := (hF.exit hI11 (show k < 6 by omega))
    have hst := Turn.waysK_step (r := T.w.rooms.at T.me.room) hI11
    have hwl := Turn.waysK_len (T.w.rooms.at T.me.room) k.toNat
    rw [← hI13] at hwl
    have hcl := Land.called_len k
    have hck := Land.calledT (d := k) (by rw [Bool.and_eq_true]; exact ⟨decide_eq_true hI11, decide_eq_true (by omega)⟩)
    rw [hck] at hcl hst
    refine G_skip ?_
    refine GQ_sub (.t4 0 2 3 25) ?_
    refine GQ_then ?_
    refine G_seq ?_
    refine G_block ?_
    refine Gs ?_
    refine Gm rfl (Ga rfl ?_)
    refine Gn (.t5 0 2 3 4 25) ?_
    refine Gs ?_
    refine Gm rfl (Gt (PSf fa25_2 rfl) ?_)
    refine Gt (PS_indexAddr ia22 rfl rfl (by first | omega | exact hb.1 | exact hb.2 | exact hr.1 | exact hr.2 | (dsimp only; omega) | (simp only [List.length_append, List.length_cons, List.length_nil]; omega) | ((try dsimp only at *); (try simp only [List.length_append, List.length_cons, List.length_nil]); omega)) (by first | omega | exact hb.1 | exact hb.2 | exact hr.1 | exact hr.2 | (dsimp only; omega) | (simp only [List.length_append, List.length_cons, List.length_nil]; omega) | ((try dsimp only at *); (try simp only [List.length_append, List.length_cons, List.length_nil]); omega))) ?_
    refine Gt (PS_load rfl tys3 (.head _) (Room.l2.comp (Lens.ar (n := 6) flI (by first | omega | exact hb | exact hr | (dsimp only; omega) | (simp only [List.length_append, List.length_cons, List.length_nil]; omega) | ((try dsimp only at *); (try simp only [List.length_append, List.length_cons, List.length_nil]); omega)))) rfl rfl) ?_
    refine Gt (PS_gtr rfl rfl) ?_
    refine Gn (.t6 0 2 3 4 25 32) ?_
    refine Gc (fun c3 => ?_) (fun c3 => ?_)
    ·
     have c3p := c3; try simp only [kk] at c3p
     have cp3 : decide ((T.w.rooms.at T.me.room).exits.at k = 0) = false := decide_eq_false (by have := c3p; show ¬ (T.w.rooms.at (T.w.beings.at T.b).room).exits.at k = 0; omega)
     rw [if_f cp3] at hst
     refine Gs ?_
     refine Gm rfl (Gm rfl ?_)
     refine Gt (PS_indexAddr ia80 rfl rfl (by first | omega | exact hb.1 | exact hb.2 | exact hr.1 | exact hr.2 | (dsimp only; omega) | (simp only [List.length_append, List.length_cons, List.length_nil]; omega) | ((try dsimp only at *); (try simp only [List.length_append, List.length_cons, List.length_nil]); omega)) (by first | omega | exact hb.1 | exact hb.2 | exact hr.1 | exact hr.2 | (dsimp only; omega) | (simp only [List.length_append, List.length_cons, List.length_nil]; omega) | ((try dsimp only at *); (try simp only [List.length_append, List.length_cons, List.length_nil]); omega))) ?_
     refine Gt (PS_ldGVM gl0 gm0 rfl tys9 (Land.verbs_at hI11 (by omega))) ?_
     refine Gt (PS_add_str rfl rfl (by first | omega | exact hb.1 | exact hb.2 | exact hr.1 | exact hr.2 | (dsimp only; omega) | (simp only [List.length_append, List.length_cons, List.length_nil]; omega) | ((try dsimp only at *); (try simp only [List.length_append, List.length_cons, List.length_nil]); omega))) ?_
     refine Gt (PS_add_str rfl rfl (by first | omega | exact hb.1 | exact hb.2 | exact hr.1 | exact hr.2 | (dsimp only; omega) | (simp only [List.length_append, List.length_cons, List.length_nil]; omega) | ((try dsimp only at *); (try simp only [List.length_append, List.length_cons, List.length_nil]); omega))) ?_
     refine Ga rfl ?_
     refine Gn (.t5 0 2 3 4 25) ?_
     refine Gs ?_
     refine Gm rfl (Gt (PSf fa25_3 rfl) ?_)
     refine Gt (PS_indexAddr ia23 rfl rfl (by first | omega | exact hb.1 | exact hb.2 | exact hr.1 | exact hr.2 | (dsimp only; omega) | (simp only [List.length_append, List.length_cons, List.length_nil]; omega) | ((try dsimp only at *); (try simp only [List.length_append, List.length_cons, List.length_nil]); omega)) (by first | omega | exact hb.1 | exact hb.2 | exact hr.1 | exact hr.2 | (dsimp only; omega) | (simp only [List.length_append, List.length_cons, List.length_nil]; omega) | ((try dsimp only at *); (try simp only [List.length_append, List.length_cons, List.length_nil]); omega))) ?_
     refine Gt (PS_load rfl tys4 (.head _) (Room.l3.comp (Lens.ar (n := 6) flB (by first | omega | exact hb | exact hr | (dsimp only; omega) | (simp only [List.length_append, List.length_cons, List.length_nil]; omega) | ((try dsimp only at *); (try simp only [List.length_append, List.length_cons, List.length_nil]); omega)))) rfl rfl) ?_
     refine Gn (.t5 0 2 3 25 42) ?_
     refine Gc (fun c4 => ?_) (fun c4 => ?_)
     ·
      have c4p := c4; try simp only [kk] at c4p
      have cp4 : (T.w.rooms.at T.me.room).shut.at k = true := c4
      rw [if_t cp4] at hst
      refine G_region ?_
      refine Gm rfl ?_
      refine Gt (PS_add_str rfl rfl (by first | omega | exact hb.1 | exact hb.2 | exact hr.1 | exact hr.2 | (dsimp only; omega) | (simp only [List.length_append, List.length_cons, List.length_nil]; omega) | ((try dsimp only at *); (try simp only [List.length_append, List.length_cons, List.length_nil]); omega))) ?_
      refine Ga rfl ?_
      refine GL_nil (GQ_sub (.t4 0 2 3 25) ?_)
      refine GQ_block ?_
      refine GQ_then ?_
      refine G_region ?_
      refine Gt (PS_add rfl rfl (IntWalk.i64_in _ (by first | omega | exact hb.1 | exact hb.2 | exact hr.1 | exact hr.2 | (dsimp only; omega) | (simp only [List.length_append, List.length_cons, List.length_nil]; omega) | ((try dsimp only at *); (try simp only [List.length_append, List.length_cons, List.length_nil]); omega)))) ?_
      refine Gm rfl ?_
      refine GL_nil (GQ_sub (.t4 0 2 3 25) ?_)
      refine GQ_next2_ (k + 1) _ ?_ ?_ (.t4 3 25 0 2) (.refl _)
      · exact ⟨by omega, by omega, by rw [hst, ← hI13]⟩
      · omega
     ·
      have c4p := c4; try simp only [kk] at c4p
      have cp4 : (T.w.rooms.at T.me.room).shut.at k = false := c4
      rw [if_f cp4] at hst
      refine G_skip ?_
      refine GQ_sub (.t4 0 2 3 25) ?_
      refine GQ_block ?_
      refine GQ_then ?_
      refine G_region ?_
      refine Gt (PS_add rfl rfl (IntWalk.i64_in _ (by first | omega | exact hb.1 | exact hb.2 | exact hr.1 | exact hr.2 | (dsimp only; omega) | (simp only [List.length_append, List.length_cons, List.length_nil]; omega) | ((try dsimp only at *); (try simp only [List.length_append, List.length_cons, List.length_nil]); omega)))) ?_
      refine Gm rfl ?_
      refine GL_nil (GQ_sub (.t4 0 2 3 25) ?_)
      refine GQ_next2_ (k + 1) _ ?_ ?_ (.t4 3 25 0 2) (.refl _)
      · exact ⟨by omega, by omega, by rw [hst, ← hI13]⟩
      · omega
    ·
     have c3p := c3; try simp only [kk] at c3p
     have cp3 : decide ((T.w.rooms.at T.me.room).exits.at k = 0) = true := decide_eq_true (by have := c3p; show  (T.w.rooms.at (T.w.beings.at T.b).room).exits.at k = 0; omega)
     rw [if_t cp3] at hst
     refine G_skip ?_
     refine GQ_sub (.t4 0 2 3 25) ?_
     refine GQ_block ?_
     refine GQ_then ?_
     refine G_region ?_
     refine Gt (PS_add rfl rfl (IntWalk.i64_in _ (by first | omega | exact hb.1 | exact hb.2 | exact hr.1 | exact hr.2 | (dsimp only; omega) | (simp only [List.length_append, List.length_cons, List.length_nil]; omega) | ((try dsimp only at *); (try simp only [List.length_append, List.length_cons, List.length_nil]); omega)))) ?_
     refine Gm rfl ?_
     refine GL_nil (GQ_sub (.t4 0 2 3 25) ?_)
     refine GQ_next2_ (k + 1) _ ?_ ?_ (.t4 3 25 0 2) (.refl _)
     · exact ⟨by omega, by omega, by rw [hst, ← hI13]⟩
     · omega
   ·
    have c2p := c2; try simp only [kk] at c2p
    obtain rfl : k = 6 := by omega
    subst hI13
    have hwl := Turn.waysK_len (T.w.rooms.at T.me.room) 6
    refine G_exit ?_
    refine GQ_then_exit ?_
    refine GQ_then_exit ?_
    refine GQ_block_exit ?_
    refine GQ_sub (.t3 0 2 3) ?_
    refine GQ_then ?_
    refine Gs ?_
    refine Gm rfl (Gt (PSf fa25_0 rfl) ?_)
    refine Gt (PS_load rfl tys9 (.head _) Room.l0 rfl rfl) ?_
    refine Gt (PS_add_str rfl rfl (by first | omega | exact hb.1 | exact hb.2 | exact hr.1 | exact hr.2 | (dsimp only; omega) | (simp only [List.length_append, List.length_cons, List.length_nil]; omega) | ((try dsimp only at *); (try simp only [List.length_append, List.length_cons, List.length_nil]); omega))) ?_
    refine Gt (PS_add_str rfl rfl (by first | omega | exact hb.1 | exact hb.2 | exact hr.1 | exact hr.2 | (dsimp only; omega) | (simp only [List.length_append, List.length_cons, List.length_nil]; omega) | ((try dsimp only at *); (try simp only [List.length_append, List.length_cons, List.length_nil]); omega))) ?_
    refine GL_callL rfl cf39 (.cons rfl (.cons rfl .nil)) (.cons (.tail .head) (.cons (.tail .head) .nil)) (ref_turn_tell_spec _ T _ _ hg hb (by omega)) (fun v6 B hv => ?_)
    obtain ⟨y7, rfl, y8, rfl⟩ := hv
    refine Gn (.t2 0 3) ?_
    refine Gs ?_
    refine Gm rfl (Gm rfl ?_)
    refine GL_callL rfl cf39 (.cons rfl (.cons rfl .nil)) (.cons .head (.cons .head .nil)) (ref_turn_tell_spec _ (T.tell ([84, 104, 101, 32] ++ (T.w.rooms.at T.me.room).name ++ [46])) _ (Turn.waysK (T.w.rooms.at T.me.room) 6) (by assumption) hb (by simp only [Turn.tell_len]; omega)) (fun v9 B hv => ?_)
    obtain ⟨y10, rfl, y11, rfl⟩ := hv
    refine Gn (.t1 0) ?_
    refine Gss ?_
    refine Gm rfl ?_
    refine GL_callL rfl cf52 (.cons rfl .nil) (.cons .head .nil) (ref_turn_inSight_spec _ T.lookA _ (hF.of_w rfl rfl)) (fun v12 B hv => ?_)
    obtain ⟨y13, rfl, y14, rfl⟩ := hv
    refine Ga rfl ?_
    refine Gn (.t2 0 5) ?_
    refine Gs ?_
    refine Gm rfl ?_
    refine Gt (PS_len_slice rfl Tryz.underlying66 rfl) ?_
    refine Gt (PS_gtr rfl rfl) ?_
    refine Gn (.t3 0 5 59) ?_
    refine Gc (fun c5 => ?_) (fun c5 => ?_)
    ·
     have c5p := c5; try simp only [kk] at c5p
     have hnm : (Turn.namedR T.lookA.w T.seen).length ≤ 1266637395161115 := Turn.namedR_len hw T.seen_len
     refine G_region ?_
     refine Gm rfl (Gm rfl (Gm rfl ?_))
     refine GL_callL rfl cf40 (.cons rfl (.cons rfl .nil)) (.cons .head (.cons .head .nil)) (ref_turn_named_spec _ T.lookA _ _ T.seen (hF.of_w rfl rfl) (by assumption) T.seen_len (fun i hi => Turn.seen_rng hi)) (fun v16 B hv => ?_)
     obtain ⟨rfl, rfl⟩ := hv
     refine Gt (PS_add_str rfl rfl (by first | omega | exact hb.1 | exact hb.2 | exact hr.1 | exact hr.2 | (dsimp only; omega) | (simp only [List.length_append, List.length_cons, List.length_nil]; omega) | ((try dsimp only at *); (try simp only [List.length_append, List.length_cons, List.length_nil]); omega))) ?_
     refine GL_callL rfl cf39 (.cons rfl (.cons rfl .nil)) (.cons .head (.cons (.tail .head) .nil)) (ref_turn_tell_spec _ T.lookA _ ([72, 101, 114, 101, 32, 105, 115] ++ Turn.namedR T.w T.seen) (by assumption) hb (by rw [(Turn.lookA_w T).2.2]; omega)) (fun v17 B hv => ?_)
     obtain ⟨y18, rfl, y19, rfl⟩ := hv
     refine Gn (.t1 0) ?_
     refine Gs ?_
     refine Gm rfl ?_
     refine GL_nil ?_
     refine GQ_then ?_
     refine G_block ?_
     refine G_subF (.t2 66 0) ?_
     refine G_pull (.tail .head) ?_
     refine G_pull (.tail .head) ?_
     refine G_loop3_ (fun (k : Int) (X : Turn) (h : Hd) => 0 ≤ k ∧ k ≤ 6 ∧ X = T.lookB.hereK k.toNat ∧ h.len = X.out.length) (fun (k : Int) (X : Turn) (h : Hd) => (6 - k).toNat) (fun (k : Int) (X : Turn) (h : Hd) => [(66, .int .i64 k)]) (fun (k : Int) (X : Turn) (h : Hd) => [Res.box b 57 (TurnV.enc ⟨X.w, X.b, h⟩), Res.own h 60 16 (X.out.flatMap Ing.Event.enc)]) (0) (_) (_) ?_ rfl rfl (fun k X h hI2 => ?_)
     · have hyl : y13.len = T.seen.length := y14
       have hlb : T.lookB = T.lookA.list [72, 101, 114, 101, 32, 105, 115] (T.w.has 0 T.me.room) := if_pos (show decide (0 < ((T.w.has 0 T.me.room).length : Int)) = true by rw [← hsee, ← hyl]; exact c5)
       rw [← hsee, ← Turn.named_list] at hlb
       exact ⟨by omega, by omega, hlb.symm, by assumption⟩
     obtain ⟨hI21, hI22, hI23, hI24⟩ := hI2
     refine Gs ?_
     refine Gt (PS_lss rfl rfl) ?_
     refine GL_nil ?_
     refine GQ_then ?_
     refine G_seq ?_
     refine Gc (fun c6 => ?_) (fun c6 => ?_)
     ·
      have c6p := c6; try simp only [kk] at c6p
      have hnb := hw.be k
      have hXl := Turn.hereK_w T.lookB k.toNat
      have hBl := Turn.lookB_w T
      rw [← hI23] at hXl
      have hXw : X.w = T.w := hXl.1.trans hBl.1
      have hXb : X.b = T.b := hXl.2.1.trans hBl.2.1
      rw [← hXw] at hnb
      refine G_skip ?_
      refine GQ_sub (.t2 0 66) ?_
      refine GQ_then ?_
      refine G_seq ?_
      refine G_block ?_
      refine Gs ?_
      refine Gm rfl (Ga rfl ?_)
      refine Gn (.t3 0 6 66) ?_
      refine G_seq ?_
      refine G_planN (N := 18) [0, 0, 2, 6, 14, 31, 63, 127, 255, 511, 1023, 127, 2175, 6271, 14463, 127, 65535, 131071] mix (by kernel_rfl) rfl ?_
      refine Pf 0 rfl (PS_move rfl) (Pf 1 rfl (PS_move rfl) (Pf 2 rfl (PSn rfl) (Pf 3 rfl (PSf fa57_1 rfl) ?_)))
      refine Pf 4 rfl (PS_load rfl tys3 (.head _) TurnV.l1 rfl rfl) ?_
      refine Pf 5 rfl (PS_neq rfl rfl) ?_
      refine Pf 6 rfl (PS_move rfl) ?_
      refine Pgt 7 75 rfl rfl rfl (fun q => PS_move rfl) ?_
      refine Pgt 8 75 rfl rfl rfl (fun q => PSn (cvE rfl q)) ?_
      refine Pgt 9 75 rfl rfl rfl (fun q => PSf fa57_0 (cvE rfl q)) ?_
      refine Pgt 10 75 rfl rfl rfl (fun q => PS_loadA (cvE rfl q) tya34 (.head _) TurnV.l0 rfl) ?_
      refine Pgt 11 75 rfl rfl rfl (fun q => PS_move rfl) ?_
      refine Pgt 12 75 rfl rfl rfl (fun q => PSn (cvE rfl q)) ?_
      refine Pgt 13 75 rfl rfl rfl (fun q => PSf fa57_1 (cvE rfl q)) ?_
      refine Pgt 14 75 rfl rfl rfl (fun q => PS_load (cvE rfl q) tys3 (.head _) TurnV.l1 rfl rfl) ?_
      refine Pgt 15 75 rfl rfl rfl (fun q => PS_move rfl) ?_
      refine Plan_float 16 rfl rfl (by kernel_rfl) (OK_gt (t := 75) rfl rfl (fun q => EX_c (PC_of cf53 (.cons (cvE rfl q) (.cons (cvE rfl q) (.cons (cvE rfl q) .nil))) (fun w hS => ref_IsSeen_spec _ _ _ w)))) ?_
      refine Pf 17 rfl (PS_and rfl rfl (fun h => h)) ?_
      refine Plan_end (by kernel_rfl) ?_
      refine GQ_sub (.t4 0 6 66 86) ?_
      refine GQ_then ?_
      refine Gc (fun c7 => ?_) (fun c7 => ?_)
      ·
       have c7p := c7; try simp only [kk] at c7p
       have cp7 : (!decide (k = T.lookB.b) && T.lookB.w.sees T.lookB.b k) = true := by rw [hBl.1, hBl.2.1, ← hXw, ← hXb]; exact c7
       refine G_region ?_
       refine Gm rfl (Gm rfl (Gm rfl (Gt (PSn rfl) (Gt (PSf fa57_0 rfl) (Gt (PSf fa34_2 rfl) ?_)))))
       refine Gt (PS_indexAddr ia32 rfl rfl (by first | omega | exact hb.1 | exact hb.2 | exact hr.1 | exact hr.2 | (dsimp only; omega) | (simp only [List.length_append, List.length_cons, List.length_nil]; omega) | ((try dsimp only at *); (try simp only [List.length_append, List.length_cons, List.length_nil]); omega)) (by first | omega | exact hb.1 | exact hb.2 | exact hr.1 | exact hr.2 | (dsimp only; omega) | (simp only [List.length_append, List.length_cons, List.length_nil]; omega) | ((try dsimp only at *); (try simp only [List.length_append, List.length_cons, List.length_nil]); omega))) ?_
       refine Gt (PSf fa31_0 rfl) ?_
       refine Gt (PS_load rfl tys9 (.head _) (((TurnV.l0.comp Land.l2).comp (Lens.ar (n := 6) Being.fl (by first | omega | exact hb | exact hr | (dsimp only; omega) | (simp only [List.length_append, List.length_cons, List.length_nil]; omega) | ((try dsimp only at *); (try simp only [List.length_append, List.length_cons, List.length_nil]); omega)))).comp Being.l0) rfl rfl) ?_
       refine Gt (PS_add_str rfl rfl (by first | omega | exact hb.1 | exact hb.2 | exact hr.1 | exact hr.2 | (dsimp only; omega) | (simp only [List.length_append, List.length_cons, List.length_nil]; omega) | ((try dsimp only at *); (try simp only [List.length_append, List.length_cons, List.length_nil]); omega))) ?_
       refine GL_callL rfl cf39 (.cons rfl (.cons rfl .nil)) (.cons .head (.cons .head .nil)) (ref_turn_tell_spec _ X _ _ (by assumption) (by rw [hXb]; exact hb) (by have := hXl.2.2; have := hBl.2.2; omega)) (fun v20 B hv => ?_)
       obtain ⟨y21, rfl, y22, rfl⟩ := hv
       refine GL_nil (GQ_sub (.t2 0 66) ?_)
       refine GQ_block ?_
       refine GQ_then ?_
       refine G_region ?_
       refine Gt (PS_add rfl rfl (IntWalk.i64_in _ (by first | omega | exact hb.1 | exact hb.2 | exact hr.1 | exact hr.2 | (dsimp only; omega) | (simp only [List.length_append, List.length_cons, List.length_nil]; omega) | ((try dsimp only at *); (try simp only [List.length_append, List.length_cons, List.length_nil]); omega)))) ?_
       refine Gm rfl ?_
       refine GL_nil (GQ_sub (.t2 0 66) ?_)
       refine GQ_next3_ (k + 1) _ _ ?_ ?_ (.t2 66 0) (.refl _)
       · exact ⟨by omega, by omega, by rw [Turn.hereK_step hI21, if_t cp7, ← hI23, hBl.1, ← hXw], by assumption⟩
       · omega
      ·
       have c7p := c7; try simp only [kk] at c7p
       have cp7 : (!decide (k = T.lookB.b) && T.lookB.w.sees T.lookB.b k) = false := by rw [hBl.1, hBl.2.1, ← hXw, ← hXb]; exact c7
       refine G_skip ?_
       refine GQ_sub (.t2 0 66) ?_
       refine GQ_block ?_
       refine GQ_then ?_
       refine G_region ?_
       refine Gt (PS_add rfl rfl (IntWalk.i64_in _ (by first | omega | exact hb.1 | exact hb.2 | exact hr.1 | exact hr.2 | (dsimp only; omega) | (simp only [List.length_append, List.length_cons, List.length_nil]; omega) | ((try dsimp only at *); (try simp only [List.length_append, List.length_cons, List.length_nil]); omega)))) ?_
       refine Gm rfl ?_
       refine GL_nil (GQ_sub (.t2 0 66) ?_)
       refine GQ_next3_ (k + 1) _ _ ?_ ?_ (.t2 66 0) (.refl _)
       · exact ⟨by omega, by omega, by rw [Turn.hereK_step hI21, if_f cp7, ← hI23], by assumption⟩
       · omega
     ·
      have c6p := c6; try simp only [kk] at c6p
      obtain rfl : k = 6 := by omega
      refine G_exit ?_
      refine GQ_then_exit ?_
      refine GQ_then_exit ?_
      refine GQ_block_exit ?_
      refine GQ_end rfl .nil ?_
      intro w1 hS
      have hS := (hS.perm (Pulls.perm (.cons .head (.cons .head .nil)))).headL
      have hq : T.look = X := (show T.look = _ from if_f c1).trans hI23.symm
      refine ⟨_, ⟨?gqc6, rfl, ?hlc6, ?hBc6⟩, hS⟩
      case hBc6 => rw [hq]
      case hlc6 => rw [hq]; assumption
    ·
     have c5p := c5; try simp only [kk] at c5p
     refine G_skip ?_
     refine GQ_sub (.t1 0) ?_
     refine GQ_then ?_
     refine Gs ?_
     refine Gm rfl ?_
     refine GL_nil ?_
     refine GQ_then ?_
     refine G_block ?_
     refine G_subF (.t2 66 0) ?_
     refine G_pull (.tail (.tail .head)) ?_
     refine G_pull (.tail .head) ?_
     refine G_loop3_ (fun (k : Int) (X : Turn) (h : Hd) => 0 ≤ k ∧ k ≤ 6 ∧ X = T.lookB.hereK k.toNat ∧ h.len = X.out.length) (fun (k : Int) (X : Turn) (h : Hd) => (6 - k).toNat) (fun (k : Int) (X : Turn) (h : Hd) => [(66, .int .i64 k)]) (fun (k : Int) (X : Turn) (h : Hd) => [Res.box b 57 (TurnV.enc ⟨X.w, X.b, h⟩), Res.own h 60 16 (X.out.flatMap Ing.Event.enc)]) (0) (_) (_) ?_ rfl rfl (fun k X h hI2 => ?_)
     · have hyl : y13.len = T.seen.length := y14
       have hlb : T.lookB = T.lookA := if_neg (show ¬ decide (0 < ((T.w.has 0 T.me.room).length : Int)) = true by rw [← hsee, ← hyl]; rw [c5]; decide)
       exact ⟨by omega, by omega, hlb.symm, by assumption⟩
     obtain ⟨hI21, hI22, hI23, hI24⟩ := hI2
     refine Gs ?_
     refine Gt (PS_lss rfl rfl) ?_
     refine GL_nil ?_
     refine GQ_then ?_
     refine G_seq ?_
     refine Gc (fun c8 => ?_) (fun c8 => ?_)
     ·
      have c8p := c8; try simp only [kk] at c8p
      have hnb := hw.be k
      have hXl := Turn.hereK_w T.lookB k.toNat
      have hBl := Turn.lookB_w T
      rw [← hI23] at hXl
      have hXw : X.w = T.w := hXl.1.trans hBl.1
      have hXb : X.b = T.b := hXl.2.1.trans hBl.2.1
      rw [← hXw] at hnb
      refine G_skip ?_
      refine GQ_sub (.t2 0 66) ?_
      refine GQ_then ?_
      refine G_seq ?_
      refine G_block ?_
      refine Gs ?_
      refine Gm rfl (Ga rfl ?_)
      refine Gn (.t3 0 6 66) ?_
      refine G_seq ?_
      refine G_planN (N := 18) [0, 0, 2, 6, 14, 31, 63, 127, 255, 511, 1023, 127, 2175, 6271, 14463, 127, 65535, 131071] mix (by kernel_rfl) rfl ?_
      refine Pf 0 rfl (PS_move rfl) (Pf 1 rfl (PS_move rfl) (Pf 2 rfl (PSn rfl) (Pf 3 rfl (PSf fa57_1 rfl) ?_)))
      refine Pf 4 rfl (PS_load rfl tys3 (.head _) TurnV.l1 rfl rfl) ?_
      refine Pf 5 rfl (PS_neq rfl rfl) ?_
      refine Pf 6 rfl (PS_move rfl) ?_
      refine Pgt 7 75 rfl rfl rfl (fun q => PS_move rfl) ?_
      refine Pgt 8 75 rfl rfl rfl (fun q => PSn (cvE rfl q)) ?_
      refine Pgt 9 75 rfl rfl rfl (fun q => PSf fa57_0 (cvE rfl q)) ?_
      refine Pgt 10 75 rfl rfl rfl (fun q => PS_loadA (cvE rfl q) tya34 (.head _) TurnV.l0 rfl) ?_
      refine Pgt 11 75 rfl rfl rfl (fun q => PS_move rfl) ?_
      refine Pgt 12 75 rfl rfl rfl (fun q => PSn (cvE rfl q)) ?_
      refine Pgt 13 75 rfl rfl rfl (fun q => PSf fa57_1 (cvE rfl q)) ?_
      refine Pgt 14 75 rfl rfl rfl (fun q => PS_load (cvE rfl q) tys3 (.head _) TurnV.l1 rfl rfl) ?_
      refine Pgt 15 75 rfl rfl rfl (fun q => PS_move rfl) ?_
      refine Plan_float 16 rfl rfl (by kernel_rfl) (OK_gt (t := 75) rfl rfl (fun q => EX_c (PC_of cf53 (.cons (cvE rfl q) (.cons (cvE rfl q) (.cons (cvE rfl q) .nil))) (fun w hS => ref_IsSeen_spec _ _ _ w)))) ?_
      refine Pf 17 rfl (PS_and rfl rfl (fun h => h)) ?_
      refine Plan_end (by kernel_rfl) ?_
      refine GQ_sub (.t4 0 6 66 86) ?_
      refine GQ_then ?_
      refine Gc (fun c9 => ?_) (fun c9 => ?_)
      ·
       have c9p := c9; try simp only [kk] at c9p
       have cp7 : (!decide (k = T.lookB.b) && T.lookB.w.sees T.lookB.b k) = true := by rw [hBl.1, hBl.2.1, ← hXw, ← hXb]; exact c9
       refine G_region ?_
       refine Gm rfl (Gm rfl (Gm rfl (Gt (PSn rfl) (Gt (PSf fa57_0 rfl) (Gt (PSf fa34_2 rfl) ?_)))))
       refine Gt (PS_indexAddr ia32 rfl rfl (by first | omega | exact hb.1 | exact hb.2 | exact hr.1 | exact hr.2 | (dsimp only; omega) | (simp only [List.length_append, List.length_cons, List.length_nil]; omega) | ((try dsimp only at *); (try simp only [List.length_append, List.length_cons, List.length_nil]); omega)) (by first | omega | exact hb.1 | exact hb.2 | exact hr.1 | exact hr.2 | (dsimp only; omega) | (simp only [List.length_append, List.length_cons, List.length_nil]; omega) | ((try dsimp only at *); (try simp only [List.length_append, List.length_cons, List.length_nil]); omega))) ?_
       refine Gt (PSf fa31_0 rfl) ?_
       refine Gt (PS_load rfl tys9 (.head _) (((TurnV.l0.comp Land.l2).comp (Lens.ar (n := 6) Being.fl (by first | omega | exact hb | exact hr | (dsimp only; omega) | (simp only [List.length_append, List.length_cons, List.length_nil]; omega) | ((try dsimp only at *); (try simp only [List.length_append, List.length_cons, List.length_nil]); omega)))).comp Being.l0) rfl rfl) ?_
       refine Gt (PS_add_str rfl rfl (by first | omega | exact hb.1 | exact hb.2 | exact hr.1 | exact hr.2 | (dsimp only; omega) | (simp only [List.length_append, List.length_cons, List.length_nil]; omega) | ((try dsimp only at *); (try simp only [List.length_append, List.length_cons, List.length_nil]); omega))) ?_
       refine GL_callL rfl cf39 (.cons rfl (.cons rfl .nil)) (.cons .head (.cons .head .nil)) (ref_turn_tell_spec _ X _ _ (by assumption) (by rw [hXb]; exact hb) (by have := hXl.2.2; have := hBl.2.2; omega)) (fun v23 B hv => ?_)
       obtain ⟨y24, rfl, y25, rfl⟩ := hv
       refine GL_nil (GQ_sub (.t2 0 66) ?_)
       refine GQ_block ?_
       refine GQ_then ?_
       refine G_region ?_
       refine Gt (PS_add rfl rfl (IntWalk.i64_in _ (by first | omega | exact hb.1 | exact hb.2 | exact hr.1 | exact hr.2 | (dsimp only; omega) | (simp only [List.length_append, List.length_cons, List.length_nil]; omega) | ((try dsimp only at *); (try simp only [List.length_append, List.length_cons, List.length_nil]); omega)))) ?_
       refine Gm rfl ?_
       refine GL_nil (GQ_sub (.t2 0 66) ?_)
       refine GQ_next3_ (k + 1) _ _ ?_ ?_ (.t2 66 0) (.refl _)
       · exact ⟨by omega, by omega, by rw [Turn.hereK_step hI21, if_t cp7, ← hI23, hBl.1, ← hXw], by assumption⟩
       · omega
      ·
       have c9p := c9; try simp only [kk] at c9p
       have cp7 : (!decide (k = T.lookB.b) && T.lookB.w.sees T.lookB.b k) = false := by rw [hBl.1, hBl.2.1, ← hXw, ← hXb]; exact c9
       refine G_skip ?_
       refine GQ_sub (.t2 0 66) ?_
       refine GQ_block ?_
       refine GQ_then ?_
       refine G_region ?_
       refine Gt (PS_add rfl rfl (IntWalk.i64_in _ (by first | omega | exact hb.1 | exact hb.2 | exact hr.1 | exact hr.2 | (dsimp only; omega) | (simp only [List.length_append, List.length_cons, List.length_nil]; omega) | ((try dsimp only at *); (try simp only [List.length_append, List.length_cons, List.length_nil]); omega)))) ?_
       refine Gm rfl ?_
       refine GL_nil (GQ_sub (.t2 0 66) ?_)
       refine GQ_next3_ (k + 1) _ _ ?_ ?_ (.t2 66 0) (.refl _)
       · exact ⟨by omega, by omega, by rw [Turn.hereK_step hI21, if_f cp7, ← hI23], by assumption⟩
       · omega
     ·
      have c8p := c8; try simp only [kk] at c8p
      obtain rfl : k = 6 := by omega
      refine G_exit ?_
      refine GQ_then_exit ?_
      refine GQ_then_exit ?_
      refine GQ_block_exit ?_
      refine GQ_end rfl .nil ?_
      intro w1 hS
      have hS := (hS.perm (Pulls.perm (.cons .head (.cons .head .nil)))).headL
      have hq : T.look = X := (show T.look = _ from if_f c1).trans hI23.symm
      refine ⟨_, ⟨?gqc8, rfl, ?hlc8, ?hBc8⟩, hS⟩
      case hBc8 => rw [hq]
      case hlc8 => rw [hq]; assumption
  ·
   refine GL_alloc rfl zv25 rfl (fun b2 => ?_)
   refine GL_hand rfl ⟨?_, ?_⟩
   · exact (Po rfl (PSf fa34_0 rfl) rfl rfl (Po rfl (PSf fa57_0 rfl) rfl rfl (Po rfl (PSn rfl) rfl rfl (Po rfl (PS_move rfl) rfl rfl (Po rfl (PS_move rfl) rfl rfl Pend_nil)))))
   refine Plan_chain 2 rfl (by kernel_rfl) ?_
   refine GL_callL rfl cf51 (.cons rfl .nil) (.cons (.tail .head) .nil) (ref_turn_here_spec _ T _ hF) (fun v26 B hv => ?_)
   obtain ⟨rfl, rfl⟩ := hv
   refine GL_hand rfl ⟨?_, ?_⟩
   · exact (Po rfl (PSf fa34_0 rfl) rfl rfl (Po rfl (PSf fa57_0 rfl) rfl rfl (Po rfl (PSn rfl) rfl rfl (Pk (Po rfl (PS_move rfl) rfl rfl Pend_nil)))))
   refine Pf 6 rfl (PS_indexAddr ia26 rfl rfl (by first | omega | exact hb.1 | exact hb.2 | exact hr.1 | exact hr.2 | (dsimp only; omega) | (simp only [List.length_append, List.length_cons, List.length_nil]; omega) | ((try dsimp only at *); (try simp only [List.length_append, List.length_cons, List.length_nil]); omega)) (by first | omega | exact hb.1 | exact hb.2 | exact hr.1 | exact hr.2 | (dsimp only; omega) | (simp only [List.length_append, List.length_cons, List.length_nil]; omega) | ((try dsimp only at *); (try simp only [List.length_append, List.length_cons, List.length_nil]); omega))) ?_
   refine Pf 7 rfl (PS_loadA rfl tya25 (.head _) ((TurnV.l0.comp Land.l0).comp (Lens.ar (n := 6) Room.fl (by first | omega | exact hb | exact hr | (dsimp only; omega) | (simp only [List.length_append, List.length_cons, List.length_nil]; omega) | ((try dsimp only at *); (try simp only [List.length_append, List.length_cons, List.length_nil]); omega)))) rfl) ?_
   refine Plan_chain 9 rfl (by kernel_rfl) ?_
   refine GL_unit (PU_store (Lens.id Room.fl.len Room.fl.one) rfl rfl rfl sz25 rfl (.tail .head)) ?_
   refine GL_hand0 rfl ⟨?_, ?_⟩
   · exact (Pk (Pk (Pk (Pk (Pk (Pk (Pk Pend_nil)))))))
   refine Plan_end (by kernel_rfl) ?_
   refine GQ_sub (.t2 0 2) ?_
   refine GQ_then ?_
   refine Gs ?_
   refine Ga rfl ?_
   refine GL_nil ?_
   refine GQ_then ?_
   refine Gss ?_
   refine Gm rfl ?_
   refine GL_nil ?_
   refine GQ_then ?_
   refine G_block ?_
   refine G_subF (.t4 3 25 0 2) ?_
   refine G_loop2_ (fun (k : Int) (x : Str) => 0 ≤ k ∧ k ≤ 6 ∧ x = Turn.waysK (T.w.rooms.at T.me.room) k.toNat) (fun (k : Int) (x : Str) => (6 - k).toNat) (fun (k : Int) (x : Str) => [(3, vstr x), (25, .int .i64 k)]) (fun (k : Int) (x : Str) => []) (0) (_) ?_ rfl rfl (fun k x hI1 => ?_)
   · exact ⟨by omega, by omega, rfl⟩
   obtain ⟨hI11, hI12, hI13⟩ := hI1
   refine Gs ?_
   refine Gt (PS_lss rfl rfl) ?_
   refine GL_nil ?_
   refine GQ_then ?_
   refine G_seq ?_
   refine Gc (fun c10 => ?_) (fun c10 => ?_)
   ·
    have c10p := c10; try simp only [kk] at c10p
    have hxd := (hF.exit hI11 (show k < 6 by omega))
    have hst := Turn.waysK_step (r := T.w.rooms.at T.me.room) hI11
    have hwl := Turn.waysK_len (T.w.rooms.at T.me.room) k.toNat
    rw [← hI13] at hwl
    have hcl := Land.called_len k
    have hck := Land.calledT (d := k) (by rw [Bool.and_eq_true]; exact ⟨decide_eq_true hI11, decide_eq_true (by omega)⟩)
    rw [hck] at hcl hst
    refine G_skip ?_
    refine GQ_sub (.t4 0 2 3 25) ?_
    refine GQ_then ?_
    refine G_seq ?_
    refine G_block ?_
    refine Gs ?_
    refine Gm rfl (Ga rfl ?_)
    refine Gn (.t5 0 2 3 4 25) ?_
    refine Gs ?_
    refine Gm rfl (Gt (PSf fa25_2 rfl) ?_)
    refine Gt (PS_indexAddr ia22 rfl rfl (by first | omega | exact hb.1 | exact hb.2 | exact hr.1 | exact hr.2 | (dsimp only; omega) | (simp only [List.length_append, List.length_cons, List.length_nil]; omega) | ((try dsimp only at *); (try simp only [List.length_append, List.length_cons, List.length_nil]); omega)) (by first | omega | exact hb.1 | exact hb.2 | exact hr.1 | exact hr.2 | (dsimp only; omega) | (simp only [List.length_append, List.length_cons, List.length_nil]; omega) | ((try dsimp only at *); (try simp only [List.length_append, List.length_cons, List.length_nil]); omega))) ?_
    refine Gt (PS_load rfl tys3 (.tail _ (.head _)) (Room.l2.comp (Lens.ar (n := 6) flI (by first | omega | exact hb | exact hr | (dsimp only; omega) | (simp only [List.length_append, List.length_cons, List.length_nil]; omega) | ((try dsimp only at *); (try simp only [List.length_append, List.length_cons, List.length_nil]); omega)))) rfl rfl) ?_
    refine Gt (PS_gtr rfl rfl) ?_
    refine Gn (.t6 0 2 3 4 25 32) ?_
    refine Gc (fun c11 => ?_) (fun c11 => ?_)
    ·
     have c11p := c11; try simp only [kk] at c11p
     have cp3 : decide ((T.w.rooms.at T.me.room).exits.at k = 0) = false := decide_eq_false (by have := c11p; show ¬ (T.w.rooms.at (T.w.beings.at T.b).room).exits.at k = 0; omega)
     rw [if_f cp3] at hst
     refine Gs ?_
     refine Gm rfl (Gm rfl ?_)
     refine Gt (PS_indexAddr ia80 rfl rfl (by first | omega | exact hb.1 | exact hb.2 | exact hr.1 | exact hr.2 | (dsimp only; omega) | (simp only [List.length_append, List.length_cons, List.length_nil]; omega) | ((try dsimp only at *); (try simp only [List.length_append, List.length_cons, List.length_nil]); omega)) (by first | omega | exact hb.1 | exact hb.2 | exact hr.1 | exact hr.2 | (dsimp only; omega) | (simp only [List.length_append, List.length_cons, List.length_nil]; omega) | ((try dsimp only at *); (try simp only [List.length_append, List.length_cons, List.length_nil]); omega))) ?_
     refine Gt (PS_ldGVM gl0 gm0 rfl tys9 (Land.verbs_at hI11 (by omega))) ?_
     refine Gt (PS_add_str rfl rfl (by first | omega | exact hb.1 | exact hb.2 | exact hr.1 | exact hr.2 | (dsimp only; omega) | (simp only [List.length_append, List.length_cons, List.length_nil]; omega) | ((try dsimp only at *); (try simp only [List.length_append, List.length_cons, List.length_nil]); omega))) ?_
     refine Gt (PS_add_str rfl rfl (by first | omega | exact hb.1 | exact hb.2 | exact hr.1 | exact hr.2 | (dsimp only; omega) | (simp only [List.length_append, List.length_cons, List.length_nil]; omega) | ((try dsimp only at *); (try simp only [List.length_append, List.length_cons, List.length_nil]); omega))) ?_
     refine Ga rfl ?_
     refine Gn (.t5 0 2 3 4 25) ?_
     refine Gs ?_
     refine Gm rfl (Gt (PSf fa25_3 rfl) ?_)
     refine Gt (PS_indexAddr ia23 rfl rfl (by first | omega | exact hb.1 | exact hb.2 | exact hr.1 | exact hr.2 | (dsimp only; omega) | (simp only [List.length_append, List.length_cons, List.length_nil]; omega) | ((try dsimp only at *); (try simp only [List.length_append, List.length_cons, List.length_nil]); omega)) (by first | omega | exact hb.1 | exact hb.2 | exact hr.1 | exact hr.2 | (dsimp only; omega) | (simp only [List.length_append, List.length_cons, List.length_nil]; omega) | ((try dsimp only at *); (try simp only [List.length_append, List.length_cons, List.length_nil]); omega))) ?_
     refine Gt (PS_load rfl tys4 (.tail _ (.head _)) (Room.l3.comp (Lens.ar (n := 6) flB (by first | omega | exact hb | exact hr | (dsimp only; omega) | (simp only [List.length_append, List.length_cons, List.length_nil]; omega) | ((try dsimp only at *); (try simp only [List.length_append, List.length_cons, List.length_nil]); omega)))) rfl rfl) ?_
     refine Gn (.t5 0 2 3 25 42) ?_
     refine Gc (fun c12 => ?_) (fun c12 => ?_)
     ·
      have c12p := c12; try simp only [kk] at c12p
      have cp4 : (T.w.rooms.at T.me.room).shut.at k = true := c12
      rw [if_t cp4] at hst
      refine G_region ?_
      refine Gm rfl ?_
      refine Gt (PS_add_str rfl rfl (by first | omega | exact hb.1 | exact hb.2 | exact hr.1 | exact hr.2 | (dsimp only; omega) | (simp only [List.length_append, List.length_cons, List.length_nil]; omega) | ((try dsimp only at *); (try simp only [List.length_append, List.length_cons, List.length_nil]); omega))) ?_
      refine Ga rfl ?_
      refine GL_nil (GQ_sub (.t4 0 2 3 25) ?_)
      refine GQ_block ?_
      refine GQ_then ?_
      refine G_region ?_
      refine Gt (PS_add rfl rfl (IntWalk.i64_in _ (by first | omega | exact hb.1 | exact hb.2 | exact hr.1 | exact hr.2 | (dsimp only; omega) | (simp only [List.length_append, List.length_cons, List.length_nil]; omega) | ((try dsimp only at *); (try simp only [List.length_append, List.length_cons, List.length_nil]); omega)))) ?_
      refine Gm rfl ?_
      refine GL_nil (GQ_sub (.t4 0 2 3 25) ?_)
      refine GQ_next2_ (k + 1) _ ?_ ?_ (.t4 3 25 0 2) (.refl _)
      · exact ⟨by omega, by omega, by rw [hst, ← hI13]⟩
      · omega
     ·
      have c12p := c12; try simp only [kk] at c12p
      have cp4 : (T.w.rooms.at T.me.room).shut.at k = false := c12
      rw [if_f cp4] at hst
      refine G_skip ?_
      refine GQ_sub (.t4 0 2 3 25) ?_
      refine GQ_block ?_
      refine GQ_then ?_
      refine G_region ?_
      refine Gt (PS_add rfl rfl (IntWalk.i64_in _ (by first | omega | exact hb.1 | exact hb.2 | exact hr.1 | exact hr.2 | (dsimp only; omega) | (simp only [List.length_append, List.length_cons, List.length_nil]; omega) | ((try dsimp only at *); (try simp only [List.length_append, List.length_cons, List.length_nil]); omega)))) ?_
      refine Gm rfl ?_
      refine GL_nil (GQ_sub (.t4 0 2 3 25) ?_)
      refine GQ_next2_ (k + 1) _ ?_ ?_ (.t4 3 25 0 2) (.refl _)
      · exact ⟨by omega, by omega, by rw [hst, ← hI13]⟩
      · omega
    ·
     have c11p := c11; try simp only [kk] at c11p
     have cp3 : decide ((T.w.rooms.at T.me.room).exits.at k = 0) = true := decide_eq_true (by have := c11p; show  (T.w.rooms.at (T.w.beings.at T.b).room).exits.at k = 0; omega)
     rw [if_t cp3] at hst
     refine G_skip ?_
     refine GQ_sub (.t4 0 2 3 25) ?_
     refine GQ_block ?_
     refine GQ_then ?_
     refine G_region ?_
     refine Gt (PS_add rfl rfl (IntWalk.i64_in _ (by first | omega | exact hb.1 | exact hb.2 | exact hr.1 | exact hr.2 | (dsimp only; omega) | (simp only [List.length_append, List.length_cons, List.length_nil]; omega) | ((try dsimp only at *); (try simp only [List.length_append, List.length_cons, List.length_nil]); omega)))) ?_
     refine Gm rfl ?_
     refine GL_nil (GQ_sub (.t4 0 2 3 25) ?_)
     refine GQ_next2_ (k + 1) _ ?_ ?_ (.t4 3 25 0 2) (.refl _)
     · exact ⟨by omega, by omega, by rw [hst, ← hI13]⟩
     · omega
   ·
    have c10p := c10; try simp only [kk] at c10p
    obtain rfl : k = 6 := by omega
    subst hI13
    have hwl := Turn.waysK_len (T.w.rooms.at T.me.room) 6
    refine G_exit ?_
    refine GQ_then_exit ?_
    refine GQ_then_exit ?_
    refine GQ_block_exit ?_
    refine GQ_sub (.t3 0 2 3) ?_
    refine GQ_then ?_
    refine Gs ?_
    refine Gm rfl (Gt (PSf fa25_0 rfl) ?_)
    refine Gt (PS_load rfl tys9 (.tail _ (.head _)) Room.l0 rfl rfl) ?_
    refine Gt (PS_add_str rfl rfl (by first | omega | exact hb.1 | exact hb.2 | exact hr.1 | exact hr.2 | (dsimp only; omega) | (simp only [List.length_append, List.length_cons, List.length_nil]; omega) | ((try dsimp only at *); (try simp only [List.length_append, List.length_cons, List.length_nil]); omega))) ?_
    refine Gt (PS_add_str rfl rfl (by first | omega | exact hb.1 | exact hb.2 | exact hr.1 | exact hr.2 | (dsimp only; omega) | (simp only [List.length_append, List.length_cons, List.length_nil]; omega) | ((try dsimp only at *); (try simp only [List.length_append, List.length_cons, List.length_nil]); omega))) ?_
    refine GL_callL rfl cf39 (.cons rfl (.cons rfl .nil)) (.cons .head (.cons (.tail .head) .nil)) (ref_turn_tell_spec _ T _ _ hg hb (by omega)) (fun v27 B hv => ?_)
    obtain ⟨y28, rfl, y29, rfl⟩ := hv
    refine Gn (.t2 0 3) ?_
    refine Gs ?_
    refine Gm rfl (Gm rfl ?_)
    refine GL_callL rfl cf39 (.cons rfl (.cons rfl .nil)) (.cons .head (.cons .head .nil)) (ref_turn_tell_spec _ (T.tell ([84, 104, 101, 32] ++ (T.w.rooms.at T.me.room).name ++ [46])) _ (Turn.waysK (T.w.rooms.at T.me.room) 6) (by assumption) hb (by simp only [Turn.tell_len]; omega)) (fun v30 B hv => ?_)
    obtain ⟨y31, rfl, y32, rfl⟩ := hv
    refine Gn (.t1 0) ?_
    refine Gss ?_
    refine Gm rfl ?_
    refine GL_callL rfl cf52 (.cons rfl .nil) (.cons .head .nil) (ref_turn_inSight_spec _ T.lookA _ (hF.of_w rfl rfl)) (fun v33 B hv => ?_)
    obtain ⟨y34, rfl, y35, rfl⟩ := hv
    refine Ga rfl ?_
    refine Gn (.t2 0 5) ?_
    refine Gs ?_
    refine Gm rfl ?_
    refine Gt (PS_len_slice rfl Tryz.underlying66 rfl) ?_
    refine Gt (PS_gtr rfl rfl) ?_
    refine Gn (.t3 0 5 59) ?_
    refine Gc (fun c13 => ?_) (fun c13 => ?_)
    ·
     have c13p := c13; try simp only [kk] at c13p
     have hnm : (Turn.namedR T.lookA.w T.seen).length ≤ 1266637395161115 := Turn.namedR_len hw T.seen_len
     refine G_region ?_
     refine Gm rfl (Gm rfl (Gm rfl ?_))
     refine GL_callL rfl cf40 (.cons rfl (.cons rfl .nil)) (.cons .head (.cons .head .nil)) (ref_turn_named_spec _ T.lookA _ _ T.seen (hF.of_w rfl rfl) (by assumption) T.seen_len (fun i hi => Turn.seen_rng hi)) (fun v37 B hv => ?_)
     obtain ⟨rfl, rfl⟩ := hv
     refine Gt (PS_add_str rfl rfl (by first | omega | exact hb.1 | exact hb.2 | exact hr.1 | exact hr.2 | (dsimp only; omega) | (simp only [List.length_append, List.length_cons, List.length_nil]; omega) | ((try dsimp only at *); (try simp only [List.length_append, List.length_cons, List.length_nil]); omega))) ?_
     refine GL_callL rfl cf39 (.cons rfl (.cons rfl .nil)) (.cons .head (.cons (.tail .head) .nil)) (ref_turn_tell_spec _ T.lookA _ ([72, 101, 114, 101, 32, 105, 115] ++ Turn.namedR T.w T.seen) (by assumption) hb (by rw [(Turn.lookA_w T).2.2]; omega)) (fun v38 B hv => ?_)
     obtain ⟨y39, rfl, y40, rfl⟩ := hv
     refine Gn (.t1 0) ?_
     refine Gs ?_
     refine Gm rfl ?_
     refine GL_nil ?_
     refine GQ_then ?_
     refine G_block ?_
     refine G_subF (.t2 66 0) ?_
     refine G_pull (.tail .head) ?_
     refine G_pull (.tail .head) ?_
     refine G_loop3_ (fun (k : Int) (X : Turn) (h : Hd) => 0 ≤ k ∧ k ≤ 6 ∧ X = T.lookB.hereK k.toNat ∧ h.len = X.out.length) (fun (k : Int) (X : Turn) (h : Hd) => (6 - k).toNat) (fun (k : Int) (X : Turn) (h : Hd) => [(66, .int .i64 k)]) (fun (k : Int) (X : Turn) (h : Hd) => [Res.box b 57 (TurnV.enc ⟨X.w, X.b, h⟩), Res.own h 60 16 (X.out.flatMap Ing.Event.enc)]) (0) (_) (_) ?_ rfl rfl (fun k X h hI2 => ?_)
     · have hyl : y34.len = T.seen.length := y35
       have hlb : T.lookB = T.lookA.list [72, 101, 114, 101, 32, 105, 115] (T.w.has 0 T.me.room) := if_pos (show decide (0 < ((T.w.has 0 T.me.room).length : Int)) = true by rw [← hsee, ← hyl]; exact c13)
       rw [← hsee, ← Turn.named_list] at hlb
       exact ⟨by omega, by omega, hlb.symm, by assumption⟩
     obtain ⟨hI21, hI22, hI23, hI24⟩ := hI2
     refine Gs ?_
     refine Gt (PS_lss rfl rfl) ?_
     refine GL_nil ?_
     refine GQ_then ?_
     refine G_seq ?_
     refine Gc (fun c14 => ?_) (fun c14 => ?_)
     ·
      have c14p := c14; try simp only [kk] at c14p
      have hnb := hw.be k
      have hXl := Turn.hereK_w T.lookB k.toNat
      have hBl := Turn.lookB_w T
      rw [← hI23] at hXl
      have hXw : X.w = T.w := hXl.1.trans hBl.1
      have hXb : X.b = T.b := hXl.2.1.trans hBl.2.1
      rw [← hXw] at hnb
      refine G_skip ?_
      refine GQ_sub (.t2 0 66) ?_
      refine GQ_then ?_
      refine G_seq ?_
      refine G_block ?_
      refine Gs ?_
      refine Gm rfl (Ga rfl ?_)
      refine Gn (.t3 0 6 66) ?_
      refine G_seq ?_
      refine G_planN (N := 18) [0, 0, 2, 6, 14, 31, 63, 127, 255, 511, 1023, 127, 2175, 6271, 14463, 127, 65535, 131071] mix (by kernel_rfl) rfl ?_
      refine Pf 0 rfl (PS_move rfl) (Pf 1 rfl (PS_move rfl) (Pf 2 rfl (PSn rfl) (Pf 3 rfl (PSf fa57_1 rfl) ?_)))
      refine Pf 4 rfl (PS_load rfl tys3 (.head _) TurnV.l1 rfl rfl) ?_
      refine Pf 5 rfl (PS_neq rfl rfl) ?_
      refine Pf 6 rfl (PS_move rfl) ?_
      refine Pgt 7 75 rfl rfl rfl (fun q => PS_move rfl) ?_
      refine Pgt 8 75 rfl rfl rfl (fun q => PSn (cvE rfl q)) ?_
      refine Pgt 9 75 rfl rfl rfl (fun q => PSf fa57_0 (cvE rfl q)) ?_
      refine Pgt 10 75 rfl rfl rfl (fun q => PS_loadA (cvE rfl q) tya34 (.head _) TurnV.l0 rfl) ?_
      refine Pgt 11 75 rfl rfl rfl (fun q => PS_move rfl) ?_
      refine Pgt 12 75 rfl rfl rfl (fun q => PSn (cvE rfl q)) ?_
      refine Pgt 13 75 rfl rfl rfl (fun q => PSf fa57_1 (cvE rfl q)) ?_
      refine Pgt 14 75 rfl rfl rfl (fun q => PS_load (cvE rfl q) tys3 (.head _) TurnV.l1 rfl rfl) ?_
      refine Pgt 15 75 rfl rfl rfl (fun q => PS_move rfl) ?_
      refine Plan_float 16 rfl rfl (by kernel_rfl) (OK_gt (t := 75) rfl rfl (fun q => EX_c (PC_of cf53 (.cons (cvE rfl q) (.cons (cvE rfl q) (.cons (cvE rfl q) .nil))) (fun w hS => ref_IsSeen_spec _ _ _ w)))) ?_
      refine Pf 17 rfl (PS_and rfl rfl (fun h => h)) ?_
      refine Plan_end (by kernel_rfl) ?_
      refine GQ_sub (.t4 0 6 66 86) ?_
      refine GQ_then ?_
      refine Gc (fun c15 => ?_) (fun c15 => ?_)
      ·
       have c15p := c15; try simp only [kk] at c15p
       have cp7 : (!decide (k = T.lookB.b) && T.lookB.w.sees T.lookB.b k) = true := by rw [hBl.1, hBl.2.1, ← hXw, ← hXb]; exact c15
       refine G_region ?_
       refine Gm rfl (Gm rfl (Gm rfl (Gt (PSn rfl) (Gt (PSf fa57_0 rfl) (Gt (PSf fa34_2 rfl) ?_)))))
       refine Gt (PS_indexAddr ia32 rfl rfl (by first | omega | exact hb.1 | exact hb.2 | exact hr.1 | exact hr.2 | (dsimp only; omega) | (simp only [List.length_append, List.length_cons, List.length_nil]; omega) | ((try dsimp only at *); (try simp only [List.length_append, List.length_cons, List.length_nil]); omega)) (by first | omega | exact hb.1 | exact hb.2 | exact hr.1 | exact hr.2 | (dsimp only; omega) | (simp only [List.length_append, List.length_cons, List.length_nil]; omega) | ((try dsimp only at *); (try simp only [List.length_append, List.length_cons, List.length_nil]); omega))) ?_
       refine Gt (PSf fa31_0 rfl) ?_
       refine Gt (PS_load rfl tys9 (.head _) (((TurnV.l0.comp Land.l2).comp (Lens.ar (n := 6) Being.fl (by first | omega | exact hb | exact hr | (dsimp only; omega) | (simp only [List.length_append, List.length_cons, List.length_nil]; omega) | ((try dsimp only at *); (try simp only [List.length_append, List.length_cons, List.length_nil]); omega)))).comp Being.l0) rfl rfl) ?_
       refine Gt (PS_add_str rfl rfl (by first | omega | exact hb.1 | exact hb.2 | exact hr.1 | exact hr.2 | (dsimp only; omega) | (simp only [List.length_append, List.length_cons, List.length_nil]; omega) | ((try dsimp only at *); (try simp only [List.length_append, List.length_cons, List.length_nil]); omega))) ?_
       refine GL_callL rfl cf39 (.cons rfl (.cons rfl .nil)) (.cons .head (.cons .head .nil)) (ref_turn_tell_spec _ X _ _ (by assumption) (by rw [hXb]; exact hb) (by have := hXl.2.2; have := hBl.2.2; omega)) (fun v41 B hv => ?_)
       obtain ⟨y42, rfl, y43, rfl⟩ := hv
       refine GL_nil (GQ_sub (.t2 0 66) ?_)
       refine GQ_block ?_
       refine GQ_then ?_
       refine G_region ?_
       refine Gt (PS_add rfl rfl (IntWalk.i64_in _ (by first | omega | exact hb.1 | exact hb.2 | exact hr.1 | exact hr.2 | (dsimp only; omega) | (simp only [List.length_append, List.length_cons, List.length_nil]; omega) | ((try dsimp only at *); (try simp only [List.length_append, List.length_cons, List.length_nil]); omega)))) ?_
       refine Gm rfl ?_
       refine GL_nil (GQ_sub (.t2 0 66) ?_)
       refine GQ_next3_ (k + 1) _ _ ?_ ?_ (.t2 66 0) (.refl _)
       · exact ⟨by omega, by omega, by rw [Turn.hereK_step hI21, if_t cp7, ← hI23, hBl.1, ← hXw], by assumption⟩
       · omega
      ·
       have c15p := c15; try simp only [kk] at c15p
       have cp7 : (!decide (k = T.lookB.b) && T.lookB.w.sees T.lookB.b k) = false := by rw [hBl.1, hBl.2.1, ← hXw, ← hXb]; exact c15
       refine G_skip ?_
       refine GQ_sub (.t2 0 66) ?_
       refine GQ_block ?_
       refine GQ_then ?_
       refine G_region ?_
       refine Gt (PS_add rfl rfl (IntWalk.i64_in _ (by first | omega | exact hb.1 | exact hb.2 | exact hr.1 | exact hr.2 | (dsimp only; omega) | (simp only [List.length_append, List.length_cons, List.length_nil]; omega) | ((try dsimp only at *); (try simp only [List.length_append, List.length_cons, List.length_nil]); omega)))) ?_
       refine Gm rfl ?_
       refine GL_nil (GQ_sub (.t2 0 66) ?_)
       refine GQ_next3_ (k + 1) _ _ ?_ ?_ (.t2 66 0) (.refl _)
       · exact ⟨by omega, by omega, by rw [Turn.hereK_step hI21, if_f cp7, ← hI23], by assumption⟩
       · omega
     ·
      have c14p := c14; try simp only [kk] at c14p
      obtain rfl : k = 6 := by omega
      refine G_exit ?_
      refine GQ_then_exit ?_
      refine GQ_then_exit ?_
      refine GQ_block_exit ?_
      refine GQ_end rfl .nil ?_
      intro w1 hS
      have hS := (hS.perm (Pulls.perm (.cons .head (.cons .head .nil)))).headL
      have hq : T.look = X := (show T.look = _ from if_f c1).trans hI23.symm
      refine ⟨_, ⟨?gqc14, rfl, ?hlc14, ?hBc14⟩, hS⟩
      case hBc14 => rw [hq]
      case hlc14 => rw [hq]; assumption
    ·
     have c13p := c13; try simp only [kk] at c13p
     refine G_skip ?_
     refine GQ_sub (.t1 0) ?_
     refine GQ_then ?_
     refine Gs ?_
     refine Gm rfl ?_
     refine GL_nil ?_
     refine GQ_then ?_
     refine G_block ?_
     refine G_subF (.t2 66 0) ?_
     refine G_pull (.tail (.tail .head)) ?_
     refine G_pull (.tail .head) ?_
     refine G_loop3_ (fun (k : Int) (X : Turn) (h : Hd) => 0 ≤ k ∧ k ≤ 6 ∧ X = T.lookB.hereK k.toNat ∧ h.len = X.out.length) (fun (k : Int) (X : Turn) (h : Hd) => (6 - k).toNat) (fun (k : Int) (X : Turn) (h : Hd) => [(66, .int .i64 k)]) (fun (k : Int) (X : Turn) (h : Hd) => [Res.box b 57 (TurnV.enc ⟨X.w, X.b, h⟩), Res.own h 60 16 (X.out.flatMap Ing.Event.enc)]) (0) (_) (_) ?_ rfl rfl (fun k X h hI2 => ?_)
     · have hyl : y34.len = T.seen.length := y35
       have hlb : T.lookB = T.lookA := if_neg (show ¬ decide (0 < ((T.w.has 0 T.me.room).length : Int)) = true by rw [← hsee, ← hyl]; rw [c13]; decide)
       exact ⟨by omega, by omega, hlb.symm, by assumption⟩
     obtain ⟨hI21, hI22, hI23, hI24⟩ := hI2
     refine Gs ?_
     refine Gt (PS_lss rfl rfl) ?_
     refine GL_nil ?_
     refine GQ_then ?_
     refine G_seq ?_
     refine Gc (fun c16 => ?_) (fun c16 => ?_)
     ·
      have c16p := c16; try simp only [kk] at c16p
      have hnb := hw.be k
      have hXl := Turn.hereK_w T.lookB k.toNat
      have hBl := Turn.lookB_w T
      rw [← hI23] at hXl
      have hXw : X.w = T.w := hXl.1.trans hBl.1
      have hXb : X.b = T.b := hXl.2.1.trans hBl.2.1
      rw [← hXw] at hnb
      refine G_skip ?_
      refine GQ_sub (.t2 0 66) ?_
      refine GQ_then ?_
      refine G_seq ?_
      refine G_block ?_
      refine Gs ?_
      refine Gm rfl (Ga rfl ?_)
      refine Gn (.t3 0 6 66) ?_
      refine G_seq ?_
      refine G_planN (N := 18) [0, 0, 2, 6, 14, 31, 63, 127, 255, 511, 1023, 127, 2175, 6271, 14463, 127, 65535, 131071] mix (by kernel_rfl) rfl ?_
      refine Pf 0 rfl (PS_move rfl) (Pf 1 rfl (PS_move rfl) (Pf 2 rfl (PSn rfl) (Pf 3 rfl (PSf fa57_1 rfl) ?_)))
      refine Pf 4 rfl (PS_load rfl tys3 (.head _) TurnV.l1 rfl rfl) ?_
      refine Pf 5 rfl (PS_neq rfl rfl) ?_
      refine Pf 6 rfl (PS_move rfl) ?_
      refine Pgt 7 75 rfl rfl rfl (fun q => PS_move rfl) ?_
      refine Pgt 8 75 rfl rfl rfl (fun q => PSn (cvE rfl q)) ?_
      refine Pgt 9 75 rfl rfl rfl (fun q => PSf fa57_0 (cvE rfl q)) ?_
      refine Pgt 10 75 rfl rfl rfl (fun q => PS_loadA (cvE rfl q) tya34 (.head _) TurnV.l0 rfl) ?_
      refine Pgt 11 75 rfl rfl rfl (fun q => PS_move rfl) ?_
      refine Pgt 12 75 rfl rfl rfl (fun q => PSn (cvE rfl q)) ?_
      refine Pgt 13 75 rfl rfl rfl (fun q => PSf fa57_1 (cvE rfl q)) ?_
      refine Pgt 14 75 rfl rfl rfl (fun q => PS_load (cvE rfl q) tys3 (.head _) TurnV.l1 rfl rfl) ?_
      refine Pgt 15 75 rfl rfl rfl (fun q => PS_move rfl) ?_
      refine Plan_float 16 rfl rfl (by kernel_rfl) (OK_gt (t := 75) rfl rfl (fun q => EX_c (PC_of cf53 (.cons (cvE rfl q) (.cons (cvE rfl q) (.cons (cvE rfl q) .nil))) (fun w hS => ref_IsSeen_spec _ _ _ w)))) ?_
      refine Pf 17 rfl (PS_and rfl rfl (fun h => h)) ?_
      refine Plan_end (by kernel_rfl) ?_
      refine GQ_sub (.t4 0 6 66 86) ?_
      refine GQ_then ?_
      refine Gc (fun c17 => ?_) (fun c17 => ?_)
      ·
       have c17p := c17; try simp only [kk] at c17p
       have cp7 : (!decide (k = T.lookB.b) && T.lookB.w.sees T.lookB.b k) = true := by rw [hBl.1, hBl.2.1, ← hXw, ← hXb]; exact c17
       refine G_region ?_
       refine Gm rfl (Gm rfl (Gm rfl (Gt (PSn rfl) (Gt (PSf fa57_0 rfl) (Gt (PSf fa34_2 rfl) ?_)))))
       refine Gt (PS_indexAddr ia32 rfl rfl (by first | omega | exact hb.1 | exact hb.2 | exact hr.1 | exact hr.2 | (dsimp only; omega) | (simp only [List.length_append, List.length_cons, List.length_nil]; omega) | ((try dsimp only at *); (try simp only [List.length_append, List.length_cons, List.length_nil]); omega)) (by first | omega | exact hb.1 | exact hb.2 | exact hr.1 | exact hr.2 | (dsimp only; omega) | (simp only [List.length_append, List.length_cons, List.length_nil]; omega) | ((try dsimp only at *); (try simp only [List.length_append, List.length_cons, List.length_nil]); omega))) ?_
       refine Gt (PSf fa31_0 rfl) ?_
       refine Gt (PS_load rfl tys9 (.head _) (((TurnV.l0.comp Land.l2).comp (Lens.ar (n := 6) Being.fl (by first | omega | exact hb | exact hr | (dsimp only; omega) | (simp only [List.length_append, List.length_cons, List.length_nil]; omega) | ((try dsimp only at *); (try simp only [List.length_append, List.length_cons, List.length_nil]); omega)))).comp Being.l0) rfl rfl) ?_
       refine Gt (PS_add_str rfl rfl (by first | omega | exact hb.1 | exact hb.2 | exact hr.1 | exact hr.2 | (dsimp only; omega) | (simp only [List.length_append, List.length_cons, List.length_nil]; omega) | ((try dsimp only at *); (try simp only [List.length_append, List.length_cons, List.length_nil]); omega))) ?_
       refine GL_callL rfl cf39 (.cons rfl (.cons rfl .nil)) (.cons .head (.cons .head .nil)) (ref_turn_tell_spec _ X _ _ (by assumption) (by rw [hXb]; exact hb) (by have := hXl.2.2; have := hBl.2.2; omega)) (fun v44 B hv => ?_)
       obtain ⟨y45, rfl, y46, rfl⟩ := hv
       refine GL_nil (GQ_sub (.t2 0 66) ?_)
       refine GQ_block ?_
       refine GQ_then ?_
       refine G_region ?_
       refine Gt (PS_add rfl rfl (IntWalk.i64_in _ (by first | omega | exact hb.1 | exact hb.2 | exact hr.1 | exact hr.2 | (dsimp only; omega) | (simp only [List.length_append, List.length_cons, List.length_nil]; omega) | ((try dsimp only at *); (try simp only [List.length_append, List.length_cons, List.length_nil]); omega)))) ?_
       refine Gm rfl ?_
       refine GL_nil (GQ_sub (.t2 0 66) ?_)
       refine GQ_next3_ (k + 1) _ _ ?_ ?_ (.t2 66 0) (.refl _)
       · exact ⟨by omega, by omega, by rw [Turn.hereK_step hI21, if_t cp7, ← hI23, hBl.1, ← hXw], by assumption⟩
       · omega
      ·
       have c17p := c17; try simp only [kk] at c17p
       have cp7 : (!decide (k = T.lookB.b) && T.lookB.w.sees T.lookB.b k) = false := by rw [hBl.1, hBl.2.1, ← hXw, ← hXb]; exact c17
       refine G_skip ?_
       refine GQ_sub (.t2 0 66) ?_
       refine GQ_block ?_
       refine GQ_then ?_
       refine G_region ?_
       refine Gt (PS_add rfl rfl (IntWalk.i64_in _ (by first | omega | exact hb.1 | exact hb.2 | exact hr.1 | exact hr.2 | (dsimp only; omega) | (simp only [List.length_append, List.length_cons, List.length_nil]; omega) | ((try dsimp only at *); (try simp only [List.length_append, List.length_cons, List.length_nil]); omega)))) ?_
       refine Gm rfl ?_
       refine GL_nil (GQ_sub (.t2 0 66) ?_)
       refine GQ_next3_ (k + 1) _ _ ?_ ?_ (.t2 66 0) (.refl _)
       · exact ⟨by omega, by omega, by rw [Turn.hereK_step hI21, if_f cp7, ← hI23], by assumption⟩
       · omega
     ·
      have c16p := c16; try simp only [kk] at c16p
      obtain rfl : k = 6 := by omega
      refine G_exit ?_
      refine GQ_then_exit ?_
      refine GQ_then_exit ?_
      refine GQ_block_exit ?_
      refine GQ_end rfl .nil ?_
      intro w1 hS
      have hS := (hS.perm (Pulls.perm (.cons .head (.cons .head .nil)))).headL
      have hq : T.look = X := (show T.look = _ from if_f c1).trans hI23.symm
      refine ⟨_, ⟨?gqc16, rfl, ?hlc16, ?hBc16⟩, hS⟩
      case hBc16 => rw [hq]
      case hlc16 => rw [hq]; assumption
theorem ref_turn_walk_spec (b : Nat) (T : Turn) (g : Hd) (d : Int) (hg : g.len = T.out.length) (hF : T.Fit) (hd : 0 ≤ d ∧ d < 6) (hn : T.out.length ≤ 80000) : CtrR Tryz.prog 35 #[.pointer (some ⟨b, 0, none⟩), .int .i64 d] [Res.box b 57 (TurnV.enc ⟨T.w, T.b, g⟩), Res.own g 60 16 (T.out.flatMap Ing.Event.enc)] (fun w => (GV 0 Land.verbsV w ∧ 0 ∉ feet [Res.box b 57 (TurnV.enc ⟨T.w, T.b, g⟩), Res.own g 60 16 (T.out.flatMap Ing.Event.enc)])) (fun v B => ∃ g' : Hd, v = .tuple #[] ∧ g'.len = (T.walk d).out.length ∧ B = [Res.box b 57 (TurnV.enc ⟨(T.walk d).w, (T.walk d).b, g'⟩), Res.own g' 60 16 ((T.walk d).out.flatMap Ing.Event.enc)]) := by
 intro w hS0 hH
 obtain ⟨gl0, gm0⟩ := hH
 have hb := hF.b
 have hr := hF.room
 have hx := hF.exit hd.1 hd.2
 have hop := Turn.opp_rng hd.1
 refine Ret_body _ _ Tryz.func35 rfl rfl rfl (hS0) ?_
 refine G_seq ?_
 refine G_planN (N := 10) [0, 0, 2, 1, 9, 25, 63, 127, 0, 511] mix (by kernel_rfl) rfl ?_
 refine Pf 0 rfl (PS_move rfl) (Pf 1 rfl (PS_move rfl) (Pf 3 rfl (PSn rfl) (Pf 4 rfl (PSf fa57_0 rfl) (Pf 5 rfl (PSf fa34_0 rfl) ?_))))
 refine Plan_two 2 8 rfl rfl (by kernel_rfl) ?_ ?_
 ·
  refine GL_callL rfl cf51 (.cons rfl .nil) (.cons .head .nil) (ref_turn_here_spec _ T _ hF) (fun v1 B hv => ?_)
  obtain ⟨rfl, rfl⟩ := hv
  refine GL_hand rfl ⟨?_, ?_⟩
  · exact (Po rfl (PSf fa34_0 rfl) rfl rfl (Po rfl (PSf fa57_0 rfl) rfl rfl (Po rfl (PSn rfl) rfl rfl (Pk (Po rfl (PS_move rfl) rfl rfl Pend_nil)))))
  refine Pf 6 rfl (PS_indexAddr ia26 rfl rfl (by first | omega | exact hb.1 | exact hb.2 | (dsimp only; omega)) (by first | omega | exact hb.1 | exact hb.2 | (dsimp only; omega))) ?_
  refine Pf 7 rfl (PS_loadA rfl tya25 (.head _) ((TurnV.l0.comp Land.l0).comp (Lens.ar (n := 6) Room.fl (by first | omega | exact hb | (dsimp only; omega)))) rfl) ?_
  refine Plan_chain 8 rfl (by kernel_rfl) ?_
  refine GL_alloc rfl zv25 rfl (fun b1 => ?_)
  refine GL_hand rfl ⟨?_, ?_⟩
  · exact (Po rfl (PS_loadA rfl tya25 (.tail _ (.head _)) ((TurnV.l0.comp Land.l0).comp (Lens.ar (n := 6) Room.fl (by first | omega | exact hb | (dsimp only; omega)))) rfl) rfl rfl (Po rfl (PS_indexAddr ia26 rfl rfl (by first | omega | exact hb.1 | exact hb.2 | (dsimp only; omega)) (by first | omega | exact hb.1 | exact hb.2 | (dsimp only; omega))) rfl rfl (Po rfl (PSf fa34_0 rfl) rfl rfl (Po rfl (PSf fa57_0 rfl) rfl rfl (Po rfl (PSn rfl) rfl rfl (Po rfl (PS_move rfl) rfl rfl (Po rfl (PS_move rfl) rfl rfl Pend_nil)))))))
  refine Plan_chain 9 rfl (by kernel_rfl) ?_
  refine GL_unit (PU_store (Lens.id Room.fl.len Room.fl.one) rfl rfl rfl sz25 rfl .head) ?_
  refine GL_hand0 rfl ⟨?_, ?_⟩
  · exact (Pk (Pk (Pk (Pk (Pk (Pk (Pk Pend_nil)))))))
  refine Plan_end (by kernel_rfl) ?_
  refine GQ_sub (.t3 0 1 4) ?_
  refine GQ_then ?_
  refine Gss ?_
  refine Gm rfl (Gt (PSf fa25_2 rfl) ?_)
  refine Gt (PS_indexAddr ia22 rfl rfl (by first | omega | exact hb.1 | exact hb.2 | (dsimp only; omega)) (by first | omega | exact hb.1 | exact hb.2 | (dsimp only; omega))) ?_
  refine Gt (PS_load rfl tys3 (.head _) (Room.l2.comp (Lens.ar (n := 6) flI (by first | omega | exact hb | (dsimp only; omega)))) rfl rfl) ?_
  refine Gt (PS_eql rfl rfl) ?_
  refine Gn (.t4 0 1 4 17) ?_
  refine Gc (fun c1 => ?_) (fun c1 => ?_)
  ·
   have c1p := c1; try simp only [kk] at c1p
   refine Gs ?_
   refine Gm rfl ?_
   refine GL_callL rfl cf39 (.cons rfl (.cons rfl .nil)) (.cons (.tail .head) (.cons (.tail .head) .nil)) (ref_turn_tell_spec _ _ _ _ hg hb (by omega)) (fun v2 B hv => ?_)
   obtain ⟨y3, rfl, y4, rfl⟩ := hv
   refine Gn (.nil _) ?_
   refine G_ret ?_
   refine GQ_then_ret ?_
   refine GQ_ret rfl .nil ?_
   intro w1 hS
   have hS := (hS.perm (Pulls.perm (.cons .head (.cons .head .nil)))).headL
   have hq : T.walk d = _ := (if_t c1)
   refine ⟨_, ⟨?gq1, rfl, ?hl1, ?hB1⟩, hS⟩
   case hB1 => rw [hq]; (try rfl)
   case hl1 => rw [hq]; assumption
  ·
   have c1p := c1; try simp only [kk] at c1p
   refine G_skip ?_
   refine GQ_sub (.t3 0 1 4) ?_
   refine GQ_then ?_
   refine Gss ?_
   refine Gm rfl (Gt (PSf fa25_3 rfl) ?_)
   refine Gt (PS_indexAddr ia23 rfl rfl (by first | omega | exact hb.1 | exact hb.2 | (dsimp only; omega)) (by first | omega | exact hb.1 | exact hb.2 | (dsimp only; omega))) ?_
   refine Gt (PS_load rfl tys4 (.head _) (Room.l3.comp (Lens.ar (n := 6) flB (by first | omega | exact hb | (dsimp only; omega)))) rfl rfl) ?_
   refine Gn (.t4 0 1 4 23) ?_
   refine Gc (fun c2 => ?_) (fun c2 => ?_)
   ·
    have c2p := c2; try simp only [kk] at c2p
    refine Gs ?_
    refine Gm rfl ?_
    refine GL_callL rfl cf39 (.cons rfl (.cons rfl .nil)) (.cons (.tail .head) (.cons (.tail .head) .nil)) (ref_turn_tell_spec _ _ _ _ hg hb (by omega)) (fun v5 B hv => ?_)
    obtain ⟨y6, rfl, y7, rfl⟩ := hv
    refine Gn (.nil _) ?_
    refine G_ret ?_
    refine GQ_then_ret ?_
    refine GQ_ret rfl .nil ?_
    intro w1 hS
    have hS := (hS.perm (Pulls.perm (.cons .head (.cons .head .nil)))).headL
    have hq : T.walk d = _ := ((if_f c1).trans (if_t c2))
    refine ⟨_, ⟨?gq2, rfl, ?hl2, ?hB2⟩, hS⟩
    case hB2 => rw [hq]; (try rfl)
    case hl2 => rw [hq]; assumption
   ·
    have c2p := c2; try simp only [kk] at c2p
    have gm := Turn.moved_goes (hF.happens { Turn.evk 1 with other := -1, dir := d, n := 0, thing := [], text := [] }) (r := (T.w.rooms.at T.me.room).exits.at d - 1) (by have h0 : ¬ (T.w.rooms.at (T.w.beings.at T.b).room).exits.at d = 0 := of_decide_eq_false c1; show 0 ≤ (T.w.rooms.at (T.w.beings.at T.b).room).exits.at d - 1 ∧ (T.w.rooms.at (T.w.beings.at T.b).room).exits.at d - 1 < 6; omega)
    refine G_skip ?_
    refine GQ_sub (.t3 0 1 4) ?_
    refine GQ_then ?_
    refine Gs ?_
    refine Gm rfl (Gm rfl ?_)
    refine GL_callL rfl cf20 (.cons rfl (.cons rfl (.cons rfl (.cons rfl (.cons rfl (.cons rfl (.cons rfl .nil))))))) (.cons (.tail .head) (.cons (.tail .head) .nil)) (ref_turn_add_spec _ T _ 1 (-1) d 0 [] [] hg hb (show (-1 : Int) < 6 by decide) (by omega)) (fun v8 B hv => ?_)
    obtain ⟨y9, rfl, y10, rfl⟩ := hv
    refine Gn (.t3 0 1 4) ?_
    refine G_seq ?_
    refine G_planN (N := 27) [0, 0, 2, 6, 14, 0, 0, 64, 192, 448, 0, 0, 3072, 7168, 15360, 1, 32769, 98305, 262111, 524255, 1048543, 32, 2097184, 6291488, 16777215, 33554431, 67108863] mix (by kernel_rfl) rfl ?_
    refine Pf 0 rfl (PS_move rfl) (Pf 1 rfl (PS_move rfl) (Pf 2 rfl (PSn rfl) (Pf 3 rfl (PSf fa57_1 rfl) ?_)))
    refine Pf 4 rfl (PS_load rfl tys3 (.head _) TurnV.l1 rfl rfl) ?_
    refine Pf 5 rfl (PS_move rfl) (Pf 6 rfl (PS_move rfl) (Pf 7 rfl (PSn rfl) (Pf 8 rfl (PSf fa57_1 rfl) ?_)))
    refine Pf 9 rfl (PS_load rfl tys3 (.head _) TurnV.l1 rfl rfl) ?_
    refine Pf 10 rfl (PS_move rfl) (Pf 11 rfl (PSf fa25_2 rfl) ?_)
    refine Pf 12 rfl (PS_indexAddr ia22 rfl rfl (by first | omega | exact hb.1 | exact hb.2 | (dsimp only; omega)) (by first | omega | exact hb.1 | exact hb.2 | (dsimp only; omega))) ?_
    refine Pf 13 rfl (PS_load rfl tys3 (.tail _ (.tail _ (.head _))) (Room.l2.comp (Lens.ar (n := 6) flI (by first | omega | exact hb | (dsimp only; omega)))) rfl rfl) ?_
    refine Pf 14 rfl (PS_sub rfl rfl (IntWalk.i64_in _ (by first | omega | exact hb.1 | exact hb.2 | (dsimp only; omega)))) ?_
    refine Pf 15 rfl (PSn rfl) (Pf 16 rfl (PSf fa57_0 rfl) (Pf 17 rfl (PSf fa34_2 rfl) ?_))
    refine Pf 18 rfl (PS_indexAddr ia32 rfl rfl (by first | omega | exact hb.1 | exact hb.2 | (dsimp only; omega)) (by first | omega | exact hb.1 | exact hb.2 | (dsimp only; omega))) ?_
    refine Pf 19 rfl (PSf fa31_3 rfl) (Pf 21 rfl (PSn rfl) (Pf 22 rfl (PSf fa57_0 rfl) (Pf 23 rfl (PSf fa34_2 rfl) ?_)))
    refine Plan_chain 20 rfl (by kernel_rfl) ?_
    refine GL_unit (PU_store (((TurnV.l0.comp Land.l2).comp (Lens.ar (n := 6) Being.fl (by first | omega | exact hb | (dsimp only; omega)))).comp Being.l3) rfl rfl rfl sz3 rfl .head) ?_
    refine GL_hand0 rfl ⟨?_, ?_⟩
    · exact (Po rfl (PSf fa34_2 rfl) rfl rfl (Po rfl (PSf fa57_0 rfl) rfl rfl (Po rfl (PSn rfl) rfl rfl (Pk (Pk (Pk (Pk (Pk (Pk (Pk (Pk (Pk (Pk (Pk (Pk (Pk (Pk (Po rfl (PS_move rfl) rfl rfl (Pk (Pk (Pk (Pk (Pk Pend_nil)))))))))))))))))))))))
    refine Pf 24 rfl (PS_indexAddr ia32 rfl rfl (by first | omega | exact hb.1 | exact hb.2 | (dsimp only; omega)) (by first | omega | exact hb.1 | exact hb.2 | (dsimp only; omega))) ?_
    refine Pf 25 rfl (PSf fa31_5 rfl) ?_
    refine Plan_chain 26 rfl (by kernel_rfl) ?_
    refine GL_unit (PU_store (((TurnV.l0.comp Land.l2).comp (Lens.ar (n := 6) Being.fl (by first | omega | exact hb | (dsimp only; omega)))).comp Being.l5) rfl rfl rfl sz3 rfl .head) ?_
    refine GL_hand0 rfl ⟨?_, ?_⟩
    · exact (Pk (Pk (Pk (Pk (Pk (Pk (Pk (Pk (Pk (Pk (Pk (Pk (Pk (Pk (Pk (Pk (Pk (Pk (Pk (Pk (Pk (Pk (Pk (Pk (Pk Pend_nil)))))))))))))))))))))))))
    refine Plan_end (by kernel_rfl) ?_
    refine GQ_sub (.t2 0 1) ?_
    refine GQ_then ?_
    refine G_seq ?_
    refine G_swap (fun _ => .head) (congrArg (fun q => TurnV.enc ⟨q, _, _⟩) (Turn.moved_eq (Turn.happens T { Turn.evk 1 with other := -1, dir := d, n := 0, thing := [], text := [] }) hb _)) ?_
    refine G_region ?_
    refine Gm rfl (Gm rfl ?_)
    refine Gt (PS_add rfl rfl (IntWalk.i64_in _ (by first | omega | exact hb.1 | exact hb.2 | (dsimp only; omega)))) ?_
    refine Gt (PS_rem rfl rfl (by first | omega | exact hb.1 | exact hb.2 | (dsimp only; omega))) ?_
    refine GL_callL rfl cf20 (.cons rfl (.cons rfl (.cons rfl (.cons rfl (.cons rfl (.cons rfl (.cons rfl .nil))))))) (.cons .head (.cons .head .nil)) (ref_turn_add_spec _ (Turn.moved (Turn.happens T { Turn.evk 1 with other := -1, dir := d, n := 0, thing := [], text := [] }) ((T.w.rooms.at T.me.room).exits.at d - 1)) _ 2 (-1) ((d + 3).tmod 6) 0 [] [] (by assumption) hb (show (-1 : Int) < 6 by decide) (show (Turn.out (Turn.happens T { Turn.evk 1 with other := -1, dir := d, n := 0, thing := [], text := [] })).length ≤ 100000 by simp only [Turn.happens_len]; omega)) (fun v11 B hv => ?_)
    obtain ⟨y12, rfl, y13, rfl⟩ := hv
    refine Gn (.t1 0) ?_
    refine G_region ?_
    refine Gm rfl ?_
    refine GL_callR rfl cf21 (.cons rfl .nil) (.cons .head (.cons .head .nil)) (ref_turn_look_spec _ (Turn.happens (Turn.moved (Turn.happens T { Turn.evk 1 with other := -1, dir := d, n := 0, thing := [], text := [] }) ((T.w.rooms.at T.me.room).exits.at d - 1)) { Turn.evk 2 with other := -1, dir := (d + 3).tmod 6, n := 0, thing := [], text := [] }) _ y13 (gm.fit.of_w rfl rfl) (show _ ≤ 90000 by simp only [Turn.happens_len]; show (Turn.out (Turn.happens T { Turn.evk 1 with other := -1, dir := d, n := 0, thing := [], text := [] })).length + 1 ≤ 90000; simp only [Turn.happens_len]; omega)) (fun w hS => gl0.pull gm0 hS (.cons .head (.cons .head .nil))) (fun v14 B hv => ?_)
    obtain ⟨y15, rfl, y16, rfl⟩ := hv
    refine GL_nil ?_
    refine GQ_end rfl .nil ?_
    intro w1 hS
    have hS := (hS.perm (Pulls.perm (.cons .head (.cons .head .nil)))).headL
    have hq : T.walk d = _ := ((if_f c1).trans (if_f c2))
    rw [Turn.opp_eq hd.1 hd.2] at hq
    refine ⟨_, ⟨?gq3, rfl, ?hl3, ?hB3⟩, hS⟩
    case hB3 => rw [hq]; (try rfl)
    case hl3 => rw [hq]; assumption
 ·
  refine GL_alloc rfl zv25 rfl (fun b2 => ?_)
  refine GL_hand rfl ⟨?_, ?_⟩
  · exact (Po rfl (PSf fa34_0 rfl) rfl rfl (Po rfl (PSf fa57_0 rfl) rfl rfl (Po rfl (PSn rfl) rfl rfl (Po rfl (PS_move rfl) rfl rfl (Po rfl (PS_move rfl) rfl rfl Pend_nil)))))
  refine Plan_chain 2 rfl (by kernel_rfl) ?_
  refine GL_callL rfl cf51 (.cons rfl .nil) (.cons (.tail .head) .nil) (ref_turn_here_spec _ T _ hF) (fun v17 B hv => ?_)
  obtain ⟨rfl, rfl⟩ := hv
  refine GL_hand rfl ⟨?_, ?_⟩
  · exact (Po rfl (PSf fa34_0 rfl) rfl rfl (Po rfl (PSf fa57_0 rfl) rfl rfl (Po rfl (PSn rfl) rfl rfl (Pk (Po rfl (PS_move rfl) rfl rfl Pend_nil)))))
  refine Pf 6 rfl (PS_indexAddr ia26 rfl rfl (by first | omega | exact hb.1 | exact hb.2 | (dsimp only; omega)) (by first | omega | exact hb.1 | exact hb.2 | (dsimp only; omega))) ?_
  refine Pf 7 rfl (PS_loadA rfl tya25 (.head _) ((TurnV.l0.comp Land.l0).comp (Lens.ar (n := 6) Room.fl (by first | omega | exact hb | (dsimp only; omega)))) rfl) ?_
  refine Plan_chain 9 rfl (by kernel_rfl) ?_
  refine GL_unit (PU_store (Lens.id Room.fl.len Room.fl.one) rfl rfl rfl sz25 rfl (.tail .head)) ?_
  refine GL_hand0 rfl ⟨?_, ?_⟩
  · exact (Pk (Pk (Pk (Pk (Pk (Pk (Pk Pend_nil)))))))
  refine Plan_end (by kernel_rfl) ?_
  refine GQ_sub (.t3 0 1 4) ?_
  refine GQ_then ?_
  refine Gss ?_
  refine Gm rfl (Gt (PSf fa25_2 rfl) ?_)
  refine Gt (PS_indexAddr ia22 rfl rfl (by first | omega | exact hb.1 | exact hb.2 | (dsimp only; omega)) (by first | omega | exact hb.1 | exact hb.2 | (dsimp only; omega))) ?_
  refine Gt (PS_load rfl tys3 (.tail _ (.head _)) (Room.l2.comp (Lens.ar (n := 6) flI (by first | omega | exact hb | (dsimp only; omega)))) rfl rfl) ?_
  refine Gt (PS_eql rfl rfl) ?_
  refine Gn (.t4 0 1 4 17) ?_
  refine Gc (fun c3 => ?_) (fun c3 => ?_)
  ·
   have c3p := c3; try simp only [kk] at c3p
   refine Gs ?_
   refine Gm rfl ?_
   refine GL_callL rfl cf39 (.cons rfl (.cons rfl .nil)) (.cons .head (.cons (.tail .head) .nil)) (ref_turn_tell_spec _ _ _ _ hg hb (by omega)) (fun v18 B hv => ?_)
   obtain ⟨y19, rfl, y20, rfl⟩ := hv
   refine Gn (.nil _) ?_
   refine G_ret ?_
   refine GQ_then_ret ?_
   refine GQ_ret rfl .nil ?_
   intro w1 hS
   have hS := (hS.perm (Pulls.perm (.cons .head (.cons .head .nil)))).headL
   have hq : T.walk d = _ := (if_t c3)
   refine ⟨_, ⟨?gq4, rfl, ?hl4, ?hB4⟩, hS⟩
   case hB4 => rw [hq]; (try rfl)
   case hl4 => rw [hq]; assumption
  ·
   have c3p := c3; try simp only [kk] at c3p
   refine G_skip ?_
   refine GQ_sub (.t3 0 1 4) ?_
   refine GQ_then ?_
   refine Gss ?_
   refine Gm rfl (Gt (PSf fa25_3 rfl) ?_)
   refine Gt (PS_indexAddr ia23 rfl rfl (by first | omega | exact hb.1 | exact hb.2 | (dsimp only; omega)) (by first | omega | exact hb.1 | exact hb.2 | (dsimp only; omega))) ?_
   refine Gt (PS_load rfl tys4 (.tail _ (.head _)) (Room.l3.comp (Lens.ar (n := 6) flB (by first | omega | exact hb | (dsimp only; omega)))) rfl rfl) ?_
   refine Gn (.t4 0 1 4 23) ?_
   refine Gc (fun c4 => ?_) (fun c4 => ?_)
   ·
    have c4p := c4; try simp only [kk] at c4p
    refine Gs ?_
    refine Gm rfl ?_
    refine GL_callL rfl cf39 (.cons rfl (.cons rfl .nil)) (.cons .head (.cons (.tail .head) .nil)) (ref_turn_tell_spec _ _ _ _ hg hb (by omega)) (fun v21 B hv => ?_)
    obtain ⟨y22, rfl, y23, rfl⟩ := hv
    refine Gn (.nil _) ?_
    refine G_ret ?_
    refine GQ_then_ret ?_
    refine GQ_ret rfl .nil ?_
    intro w1 hS
    have hS := (hS.perm (Pulls.perm (.cons .head (.cons .head .nil)))).headL
    have hq : T.walk d = _ := ((if_f c3).trans (if_t c4))
    refine ⟨_, ⟨?gq5, rfl, ?hl5, ?hB5⟩, hS⟩
    case hB5 => rw [hq]; (try rfl)
    case hl5 => rw [hq]; assumption
   ·
    have c4p := c4; try simp only [kk] at c4p
    have gm := Turn.moved_goes (hF.happens { Turn.evk 1 with other := -1, dir := d, n := 0, thing := [], text := [] }) (r := (T.w.rooms.at T.me.room).exits.at d - 1) (by have h0 : ¬ (T.w.rooms.at (T.w.beings.at T.b).room).exits.at d = 0 := of_decide_eq_false c3; show 0 ≤ (T.w.rooms.at (T.w.beings.at T.b).room).exits.at d - 1 ∧ (T.w.rooms.at (T.w.beings.at T.b).room).exits.at d - 1 < 6; omega)
    refine G_skip ?_
    refine GQ_sub (.t3 0 1 4) ?_
    refine GQ_then ?_
    refine Gs ?_
    refine Gm rfl (Gm rfl ?_)
    refine GL_callL rfl cf20 (.cons rfl (.cons rfl (.cons rfl (.cons rfl (.cons rfl (.cons rfl (.cons rfl .nil))))))) (.cons .head (.cons (.tail .head) .nil)) (ref_turn_add_spec _ T _ 1 (-1) d 0 [] [] hg hb (show (-1 : Int) < 6 by decide) (by omega)) (fun v24 B hv => ?_)
    obtain ⟨y25, rfl, y26, rfl⟩ := hv
    refine Gn (.t3 0 1 4) ?_
    refine G_seq ?_
    refine G_planN (N := 27) [0, 0, 2, 6, 14, 0, 0, 64, 192, 448, 0, 0, 3072, 7168, 15360, 1, 32769, 98305, 262111, 524255, 1048543, 32, 2097184, 6291488, 16777215, 33554431, 67108863] mix (by kernel_rfl) rfl ?_
    refine Pf 0 rfl (PS_move rfl) (Pf 1 rfl (PS_move rfl) (Pf 2 rfl (PSn rfl) (Pf 3 rfl (PSf fa57_1 rfl) ?_)))
    refine Pf 4 rfl (PS_load rfl tys3 (.head _) TurnV.l1 rfl rfl) ?_
    refine Pf 5 rfl (PS_move rfl) (Pf 6 rfl (PS_move rfl) (Pf 7 rfl (PSn rfl) (Pf 8 rfl (PSf fa57_1 rfl) ?_)))
    refine Pf 9 rfl (PS_load rfl tys3 (.head _) TurnV.l1 rfl rfl) ?_
    refine Pf 10 rfl (PS_move rfl) (Pf 11 rfl (PSf fa25_2 rfl) ?_)
    refine Pf 12 rfl (PS_indexAddr ia22 rfl rfl (by first | omega | exact hb.1 | exact hb.2 | (dsimp only; omega)) (by first | omega | exact hb.1 | exact hb.2 | (dsimp only; omega))) ?_
    refine Pf 13 rfl (PS_load rfl tys3 (.tail _ (.tail _ (.head _))) (Room.l2.comp (Lens.ar (n := 6) flI (by first | omega | exact hb | (dsimp only; omega)))) rfl rfl) ?_
    refine Pf 14 rfl (PS_sub rfl rfl (IntWalk.i64_in _ (by first | omega | exact hb.1 | exact hb.2 | (dsimp only; omega)))) ?_
    refine Pf 15 rfl (PSn rfl) (Pf 16 rfl (PSf fa57_0 rfl) (Pf 17 rfl (PSf fa34_2 rfl) ?_))
    refine Pf 18 rfl (PS_indexAddr ia32 rfl rfl (by first | omega | exact hb.1 | exact hb.2 | (dsimp only; omega)) (by first | omega | exact hb.1 | exact hb.2 | (dsimp only; omega))) ?_
    refine Pf 19 rfl (PSf fa31_3 rfl) (Pf 21 rfl (PSn rfl) (Pf 22 rfl (PSf fa57_0 rfl) (Pf 23 rfl (PSf fa34_2 rfl) ?_)))
    refine Plan_chain 20 rfl (by kernel_rfl) ?_
    refine GL_unit (PU_store (((TurnV.l0.comp Land.l2).comp (Lens.ar (n := 6) Being.fl (by first | omega | exact hb | (dsimp only; omega)))).comp Being.l3) rfl rfl rfl sz3 rfl .head) ?_
    refine GL_hand0 rfl ⟨?_, ?_⟩
    · exact (Po rfl (PSf fa34_2 rfl) rfl rfl (Po rfl (PSf fa57_0 rfl) rfl rfl (Po rfl (PSn rfl) rfl rfl (Pk (Pk (Pk (Pk (Pk (Pk (Pk (Pk (Pk (Pk (Pk (Pk (Pk (Pk (Po rfl (PS_move rfl) rfl rfl (Pk (Pk (Pk (Pk (Pk Pend_nil)))))))))))))))))))))))
    refine Pf 24 rfl (PS_indexAddr ia32 rfl rfl (by first | omega | exact hb.1 | exact hb.2 | (dsimp only; omega)) (by first | omega | exact hb.1 | exact hb.2 | (dsimp only; omega))) ?_
    refine Pf 25 rfl (PSf fa31_5 rfl) ?_
    refine Plan_chain 26 rfl (by kernel_rfl) ?_
    refine GL_unit (PU_store (((TurnV.l0.comp Land.l2).comp (Lens.ar (n := 6) Being.fl (by first | omega | exact hb | (dsimp only; omega)))).comp Being.l5) rfl rfl rfl sz3 rfl .head) ?_
    refine GL_hand0 rfl ⟨?_, ?_⟩
    · exact (Pk (Pk (Pk (Pk (Pk (Pk (Pk (Pk (Pk (Pk (Pk (Pk (Pk (Pk (Pk (Pk (Pk (Pk (Pk (Pk (Pk (Pk (Pk (Pk (Pk Pend_nil)))))))))))))))))))))))))
    refine Plan_end (by kernel_rfl) ?_
    refine GQ_sub (.t2 0 1) ?_
    refine GQ_then ?_
    refine G_seq ?_
    refine G_swap (fun _ => .head) (congrArg (fun q => TurnV.enc ⟨q, _, _⟩) (Turn.moved_eq (Turn.happens T { Turn.evk 1 with other := -1, dir := d, n := 0, thing := [], text := [] }) hb _)) ?_
    refine G_region ?_
    refine Gm rfl (Gm rfl ?_)
    refine Gt (PS_add rfl rfl (IntWalk.i64_in _ (by first | omega | exact hb.1 | exact hb.2 | (dsimp only; omega)))) ?_
    refine Gt (PS_rem rfl rfl (by first | omega | exact hb.1 | exact hb.2 | (dsimp only; omega))) ?_
    refine GL_callL rfl cf20 (.cons rfl (.cons rfl (.cons rfl (.cons rfl (.cons rfl (.cons rfl (.cons rfl .nil))))))) (.cons .head (.cons .head .nil)) (ref_turn_add_spec _ (Turn.moved (Turn.happens T { Turn.evk 1 with other := -1, dir := d, n := 0, thing := [], text := [] }) ((T.w.rooms.at T.me.room).exits.at d - 1)) _ 2 (-1) ((d + 3).tmod 6) 0 [] [] (by assumption) hb (show (-1 : Int) < 6 by decide) (show (Turn.out (Turn.happens T { Turn.evk 1 with other := -1, dir := d, n := 0, thing := [], text := [] })).length ≤ 100000 by simp only [Turn.happens_len]; omega)) (fun v27 B hv => ?_)
    obtain ⟨y28, rfl, y29, rfl⟩ := hv
    refine Gn (.t1 0) ?_
    refine G_region ?_
    refine Gm rfl ?_
    refine GL_callR rfl cf21 (.cons rfl .nil) (.cons .head (.cons .head .nil)) (ref_turn_look_spec _ (Turn.happens (Turn.moved (Turn.happens T { Turn.evk 1 with other := -1, dir := d, n := 0, thing := [], text := [] }) ((T.w.rooms.at T.me.room).exits.at d - 1)) { Turn.evk 2 with other := -1, dir := (d + 3).tmod 6, n := 0, thing := [], text := [] }) _ y29 (gm.fit.of_w rfl rfl) (show _ ≤ 90000 by simp only [Turn.happens_len]; show (Turn.out (Turn.happens T { Turn.evk 1 with other := -1, dir := d, n := 0, thing := [], text := [] })).length + 1 ≤ 90000; simp only [Turn.happens_len]; omega)) (fun w hS => gl0.pull gm0 hS (.cons .head (.cons .head .nil))) (fun v30 B hv => ?_)
    obtain ⟨y31, rfl, y32, rfl⟩ := hv
    refine GL_nil ?_
    refine GQ_end rfl .nil ?_
    intro w1 hS
    have hS := (hS.perm (Pulls.perm (.cons .head (.cons .head .nil)))).headL
    have hq : T.walk d = _ := ((if_f c3).trans (if_f c4))
    rw [Turn.opp_eq hd.1 hd.2] at hq
    refine ⟨_, ⟨?gq6, rfl, ?hl6, ?hB6⟩, hS⟩
    case hB6 => rw [hq]; (try rfl)
    case hl6 => rw [hq]; assumption
theorem strings_Count_spec (s : Str) (c : UInt8) (w : World) : Ret Tryz.prog 95 #[vstr s, vstr [c]] w fun v w' => v = .int .i64 ((s.count c : Nat) : Int) ∧ Keep w w' := by
 refine Ret_body [] [] Tryz.func95 rfl rfl rfl (St.start w []) ?_
 refine Gs ?_
 refine Ga rfl ?_
 refine Gn (.t2 0 1) ?_
 refine Gss ?_
 refine Gm rfl ?_
 refine Gt (PS_len_str rfl Tryz.underlying9 rfl) ?_
 refine Gt (PS_eql rfl rfl) ?_
 refine Gn (.t3 0 1 9) ?_
 refine G_false rfl (by simp) ?_
 refine G_skip ?_
 refine GQ_sub (.t2 0 1) ?_
 refine GQ_then ?_
 refine Gss ?_
 refine Gm rfl ?_
 refine Gt (PS_len_str rfl Tryz.underlying9 rfl) ?_
 refine Gt (PS_eql rfl rfl) ?_
 refine Gn (.t3 0 1 15) ?_
 refine G_true rfl (by simp) ?_
 refine Gs ?_
 refine Gm rfl (Gm rfl ?_)
 refine Gt (PS_index_str Tryz.underlying9 rfl rfl (by decide) (by first | omega | simp)) ?_
 refine Gt (PS_countString Tryz.func105 (by kernel_rfl) (by kernel_rfl) (by kernel_rfl) (by kernel_rfl) rfl rfl) ?_
 refine Ga rfl ?_
 refine Gn (.t1 4) ?_
 refine G_ret ?_
 refine GQ_then_ret ?_
 refine GQ_ret rfl (.tmp rfl .nil) ?_
 intro w1 hS; refine ⟨?_, hS.toKeep⟩; rfl
theorem strings_genSplit_spec (s : Str) (c : UInt8) (hs : s.length ≤ 10000000) : Ctr Tryz.prog 88 #[vstr s, vstr [c], .int .i64 0, .int .i64 (-1)] [] (fun v B => ∃ h' : Hd, v = h'.val ∧ h'.len = (Words.pieces c s).length ∧ B = [Res.own h' 9 1 ((Words.pieces c s).flatMap encS)]) := by
 intro w hS0
 have hcl := List.count_le_length (a := c) (l := s)
 have hpl := Words.pieces_len c s
 refine Ret_body _ _ Tryz.func88 rfl rfl rfl (hS0) ?_
 refine Gs ?_
 refine Ga rfl ?_
 refine Gn (.t4 0 1 2 3) ?_
 refine Gss ?_
 refine Gm rfl ?_
 refine Gt (PS_eql rfl rfl) ?_
 refine Gn (.t5 0 1 2 3 13) ?_
 refine G_false rfl (by simp) ?_
 refine G_skip ?_
 refine GQ_sub (.t4 0 1 2 3) ?_
 refine GQ_then ?_
 refine Gss ?_
 refine Gm rfl ?_
 refine Gt (PS_eql_str rfl rfl) ?_
 refine Gn (.t5 0 1 2 3 15) ?_
 refine G_false rfl (by simp) ?_
 refine G_skip ?_
 refine GQ_sub (.t4 0 1 2 3) ?_
 refine GQ_then ?_
 refine Gss ?_
 refine Gm rfl ?_
 refine Gt (PS_lss rfl rfl) ?_
 refine Gn (.t5 0 1 2 3 20) ?_
 refine G_true rfl (by simp) ?_
 refine G_region ?_
 refine Gm rfl (Gm rfl ?_)
 refine GL_pure rfl cf95 (.cons rfl (.cons rfl .nil)) (fun w hS => strings_Count_spec _ c w) ?_
 refine Gt (PS_add rfl rfl (IntWalk.i64_in _ (by (try simp only [List.length_cons, List.length_nil]); omega))) ?_
 refine Ga rfl ?_
 refine Gn (.t4 0 1 2 3) ?_
 refine Gs ?_
 refine Gm rfl (Gm rfl ?_)
 refine Gt (PS_len_str rfl Tryz.underlying9 rfl) ?_
 refine Gt (PS_add rfl rfl (IntWalk.i64_in _ (by (try simp only [List.length_cons, List.length_nil]); omega))) ?_
 refine Gt (PS_min2 rfl rfl) ?_
 refine Ga rfl ?_
 refine Gn (.t4 0 1 2 3) ?_
 refine Gs ?_
 refine Gm rfl ?_
 refine GL_mkStrs rfl Tryz.underlying97 sz9 zv9 by9 rfl rfl (by (try simp only [List.length_cons, List.length_nil]); omega) (by (try simp only [List.length_cons, List.length_nil]); omega) (fun b1 => ?_)
 refine Ga rfl ?_
 refine Gn (.t5 0 1 2 3 9) ?_
 refine Gs ?_
 refine Gm rfl ?_
 refine Gt (PS_sub rfl rfl (IntWalk.i64_in _ (by (try simp only [List.length_cons, List.length_nil]); omega))) ?_
 refine Ga rfl ?_
 refine Gn (.t5 0 1 2 3 9) ?_
 refine Gs ?_
 refine Ga rfl ?_
 refine GL_nil ?_
 refine GQ_then ?_
 refine G_seq ?_
 refine G_block ?_
 refine G_subF (.t6 0 10 1 2 3 9) ?_
 refine G_loop3_ (fun (i : Int) (r : Str) (xs : List Str) => Words.SplI c s i r xs) (fun (i : Int) (r : Str) (xs : List Str) => ((s.count c : Int) - i).toNat) (fun (i : Int) (r : Str) (xs : List Str) => [(0, vstr r), (10, .int .i64 i)]) (fun (i : Int) (r : Str) (xs : List Str) => [Res.own ⟨some ⟨b1, 0, none⟩, (min (((s.count c : Nat) : Int) + 1) ((s.length : Int) + 1)).toNat, (min (((s.count c : Nat) : Int) + 1) ((s.length : Int) + 1)).toNat⟩ 9 1 (xs.flatMap encS)]) (0) (s) (_) ?_ rfl rfl (fun i r xs hI1 => ?_)
 · exact Words.SplI.start c s _ (by omega)
 have hI11 := hI1; have hi0 := hI1.i0; have hi1 := hI1.i1; have hrl := hI1.rl; have hxl := hI1.len
 refine Gss ?_
 refine Gm rfl (Gm rfl ?_)
 refine Gt (PS_lss rfl rfl) ?_
 refine Gn (.t7 0 1 2 3 9 10 36) ?_
 refine Gc (fun c1 => ?_) (fun c1 => ?_)
 ·
  have c1p := c1; try simp only [kk] at c1p
  refine G_skip ?_
  refine GQ_sub (.t6 0 1 2 3 9 10) ?_
  refine GQ_then ?_
  refine G_block ?_
  refine Gs ?_
  refine Gm rfl (Gm rfl ?_)
  refine GL_pure rfl cf90 (.cons rfl (.cons rfl .nil)) (fun w hS => strings_Index_spec _ c w) ?_
  refine Ga rfl ?_
  refine Gn (.t7 0 1 2 3 9 10 11) ?_
  refine Gss ?_
  refine Gm rfl ?_
  refine Gt (PS_lss rfl rfl) ?_
  refine Gn (.t8 0 1 2 3 9 10 11 41) ?_
  refine Gc (fun c2 => ?_) (fun c2 => ?_)
  ·
   have c2p := c2; try simp only [kk] at c2p
   refine G_exit ?_
   refine GQ_then_exit ?_
   refine GQ_block_other rfl ?_
   refine GQ_then_exit ?_
   refine GQ_block_exit ?_
   refine GQ_sub (.t3 0 9 10) ?_
   refine GQ_then ?_
   refine Gs ?_
   refine Gm rfl (Gm rfl (Gm rfl ?_))
   refine Gt (PS_idxS is97 (by decide) (Kn.own (.head _)) rfl rfl (by omega) (by (try dsimp only); omega)) ?_
   refine GL_unit (PU_stStr rfl rfl sz9 (by have := hI11.len; omega) .head) ?_
   refine Gn (.t2 9 10) ?_
   refine Gs ?_
   refine Gm rfl (Gm rfl ?_)
   refine Gt (PS_add rfl rfl (IntWalk.i64_in _ (by (try simp only [List.length_cons, List.length_nil]); omega))) ?_
   refine GL_cutToF flS rfl Tryz.underlying97 sz9 rfl rfl (by (try simp only [List.length_cons, List.length_nil]); omega) (by (try simp only [List.length_cons, List.length_nil]); omega) (fun _ => .head) ?_
   refine Ga rfl ?_
   refine Gn (.t1 8) ?_
   refine G_ret ?_
   refine GQ_ret rfl (.tmp rfl .nil) ?_
   intro w1 hS
   have hS := (hS.perm (Pulls.perm (.cons .head .nil))).headL
   have hd := hI11.done (by first | (right; simpa using c2) | (left; omega))
   exact ⟨_, ⟨_, rfl, by rw [hd.2] at *; (try simp only [Hd.cut] at *); omega, by rw [hd.2]⟩, hS⟩
  ·
   have c2p := c2; try simp only [kk] at c2p
   obtain ⟨hm0, hm1, hnx⟩ := hI11.next rfl (by simpa using c2)
   refine G_skip ?_
   refine GQ_sub (.t7 0 1 2 3 9 10 11) ?_
   refine GQ_then ?_
   refine Gs ?_
   refine Gm rfl (Gm rfl (Gm rfl (Gm rfl (Gm rfl ?_))))
   refine Gt (PS_add rfl rfl (IntWalk.i64_in _ (by (try simp only [List.length_cons, List.length_nil]); omega))) ?_
   refine Gt (PS_subSh Tryz.underlying9 rfl rfl (by (try simp only [List.length_cons, List.length_nil]); omega) (by (try simp only [List.length_cons, List.length_nil]); omega)) ?_
   refine Gt (PS_idxS is97 (by decide) (Kn.own (.head _)) rfl rfl (by omega) (by (try dsimp only); omega)) ?_
   refine GL_unit (PU_stStr rfl rfl sz9 (by have := hI11.len; omega) .head) ?_
   refine Gn (.t7 0 1 2 3 9 10 11) ?_
   refine Gs ?_
   refine Gm rfl (Gm rfl (Gm rfl ?_))
   refine Gt (PS_len_str rfl Tryz.underlying9 rfl) ?_
   refine Gt (PS_add rfl rfl (IntWalk.i64_in _ (by (try simp only [List.length_cons, List.length_nil]); omega))) ?_
   refine Gt (PS_subSl Tryz.underlying9 rfl rfl (by (try simp only [List.length_cons, List.length_nil]); omega) (by (try simp only [List.length_cons, List.length_nil]); omega)) ?_
   refine Ga rfl ?_
   refine Gn (.t6 0 1 2 3 9 10) ?_
   refine G_region ?_
   refine Gm rfl ?_
   refine Gt (PS_add rfl rfl (IntWalk.i64_in _ (by (try simp only [List.length_cons, List.length_nil]); omega))) ?_
   refine Ga rfl ?_
   refine GL_nil (GQ_sub (.t6 0 1 2 3 9 10) ?_)
   refine GQ_block ?_
   refine GQ_next3_ (i + 1) _ _ ?_ ?_ (.t6 0 10 1 2 3 9) (.refl _)
   · rw [Int.add_zero]
     exact hnx
   · omega
 ·
  have c1p := c1; try simp only [kk] at c1p
  refine G_exit ?_
  refine GQ_then_exit ?_
  refine GQ_then_exit ?_
  refine GQ_block_exit ?_
  refine GQ_sub (.t3 0 9 10) ?_
  refine GQ_then ?_
  refine Gs ?_
  refine Gm rfl (Gm rfl (Gm rfl ?_))
  refine Gt (PS_idxS is97 (by decide) (Kn.own (.head _)) rfl rfl (by omega) (by (try dsimp only); omega)) ?_
  refine GL_unit (PU_stStr rfl rfl sz9 (by have := hI11.len; omega) .head) ?_
  refine Gn (.t2 9 10) ?_
  refine Gs ?_
  refine Gm rfl (Gm rfl ?_)
  refine Gt (PS_add rfl rfl (IntWalk.i64_in _ (by (try simp only [List.length_cons, List.length_nil]); omega))) ?_
  refine GL_cutToF flS rfl Tryz.underlying97 sz9 rfl rfl (by (try simp only [List.length_cons, List.length_nil]); omega) (by (try simp only [List.length_cons, List.length_nil]); omega) (fun _ => .head) ?_
  refine Ga rfl ?_
  refine Gn (.t1 8) ?_
  refine G_ret ?_
  refine GQ_ret rfl (.tmp rfl .nil) ?_
  intro w1 hS
  have hS := (hS.perm (Pulls.perm (.cons .head .nil))).headL
  have hd := hI11.done (by first | (right; simpa using c1) | (left; omega))
  exact ⟨_, ⟨_, rfl, by rw [hd.2] at *; (try simp only [Hd.cut] at *); omega, by rw [hd.2]⟩, hS⟩
theorem strings_Split_spec (s : Str) (c : UInt8) (hs : s.length ≤ 10000000) : Ctr Tryz.prog 82 #[vstr s, vstr [c]] [] (fun v B => ∃ h' : Hd, v = h'.val ∧ h'.len = (Words.pieces c s).length ∧ B = [Res.own h' 9 1 ((Words.pieces c s).flatMap encS)]) := by
 intro w hS0
 refine Ret_body _ _ Tryz.func82 rfl rfl rfl (hS0) ?_
 refine Gs ?_
 refine Ga rfl ?_
 refine Gn (.t2 0 1) ?_
 refine Gs ?_
 refine Gm rfl (Gm rfl ?_)
 refine GL_callL rfl cf88 (.cons rfl (.cons rfl (.cons rfl (.cons rfl .nil)))) .nil (strings_genSplit_spec _ c hs) (fun v1 B hv => ?_)
 obtain ⟨y2, rfl, y3, rfl⟩ := hv
 refine Ga rfl ?_
 refine Gn (.t1 4) ?_
 refine G_ret ?_
 refine GQ_ret rfl (.tmp rfl .nil) ?_
 intro w1 hS
 have hS := (hS.perm (Pulls.perm (.cons .head .nil))).headL
 exact ⟨_, ⟨_, rfl, by assumption, rfl⟩, hS⟩
theorem ref_NounOf_spec (u : Str) (hu : u.length ≤ 5000000) (w : World) : Ret Tryz.prog 71 #[vstr u] w fun v w' => v = .tuple #[.int .i64 (Words.noun u).1, vstr (Words.noun u).2.1, .bool (Words.noun u).2.2.1, .int .i64 (Words.noun u).2.2.2] ∧ Keep w w' := by
 refine Ret_body [] [] Tryz.func71 rfl rfl rfl (St.start w []) ?_
 refine Gs ?_
 refine Ga rfl (Ga rfl (Ga rfl (Ga rfl ?_)))
 refine Gn (.t1 0) ?_
 refine Gs ?_
 refine Gm rfl ?_
 refine GL_callL rfl cf82 (.cons rfl (.cons rfl .nil)) .nil (strings_Split_spec _ 46 (by omega)) (fun v1 B hv => ?_)
 obtain ⟨y2, rfl, y3, rfl⟩ := hv
 refine Ga rfl ?_
 refine Gn (.t2 0 6) ?_
 refine G_seq ?_
 refine G_block ?_
 refine Gs ?_
 refine Gm rfl ?_
 refine Gt (PS_eql_str rfl rfl) ?_
 refine Ga rfl ?_
 refine Gn (.t3 0 6 12) ?_
 refine Gc (fun c1 => ?_) (fun c1 => ?_)
 ·
  have c1p := c1; try simp only [kk] at c1p
  refine Gs ?_
  refine Ga rfl (Ga rfl (Ga rfl (Ga rfl ?_)))
  refine Gn (.t4 2 3 4 5) ?_
  refine G_ret ?_
  refine GQ_block_ret ?_
  refine GQ_then_ret ?_
  refine GQ_ret rfl (.tmp rfl (.tmp rfl (.tmp rfl (.tmp rfl .nil)))) ?_
  intro w1 hS; refine ⟨?_, hS.toKeep⟩; rw [← Words.nounR_eq, show Words.nounR u = _ from (if_t c1)]; rfl
 ·
  have c1p := c1; try simp only [kk] at c1p
  have hlen := y3
  have hpl := Words.pieces_len 46 u
  have hk0 : ((Words.pieces 46 u).getD (0 : Int).toNat []).length ≤ u.length := Words.pieces_le _
  refine Gs ?_
  refine Gm rfl ?_
  refine Gt (PS_len_slice rfl Tryz.underlying97 rfl) ?_
  refine Gt (PS_eql rfl rfl) ?_
  refine Gm rfl ?_
  refine GL_gt (t := 19) rfl rfl rfl (fun q => PS_move rfl) ?_
  refine GL_gt (t := 19) rfl rfl rfl (fun q => PS_neq_str (cvE rfl q) rfl) ?_
  refine Gt (PS_and rfl rfl (fun h => h)) ?_
  refine Ga rfl ?_
  refine Gn (.t3 0 6 15) ?_
  refine Gc (fun c2 => ?_) (fun c2 => ?_)
  ·
   have c2p := c2; try simp only [kk] at c2p
   rw [hlen] at c2
   refine Gs ?_
   refine Gm rfl (Ga rfl (Ga rfl (Ga rfl (Ga rfl ?_))))
   refine Gn (.t4 2 3 4 5) ?_
   refine G_ret ?_
   refine GQ_block_ret ?_
   refine GQ_then_ret ?_
   refine GQ_ret rfl (.tmp rfl (.tmp rfl (.tmp rfl (.tmp rfl .nil)))) ?_
   intro w1 hS; refine ⟨?_, hS.toKeep⟩; rw [← Words.nounR_eq, show Words.nounR u = _ from ((if_f c1).trans (if_t c2))]; rfl
  ·
   have c2p := c2; try simp only [kk] at c2p
   rw [hlen] at c2
   refine Gs ?_
   refine Gm rfl ?_
   refine Gt (PS_len_slice rfl Tryz.underlying97 rfl) ?_
   refine Gt (PS_neq rfl rfl) ?_
   refine Gm rfl ?_
   refine GL_gf (t := 28) rfl rfl rfl (fun q => PS_move rfl) ?_
   refine GL_gf (t := 28) rfl rfl rfl (fun q => by have q1 := q; (try simp at q1); exact PS_idxS is97 (by decide) (Kn.own (.head _)) (cF rfl q) rfl (by omega) (by first | omega | (simp at q; omega))) ?_
   refine GL_gf (t := 28) rfl rfl rfl (fun q => by have q1 := q; (try simp at q1); exact PS_ldStr (cF rfl q) tys9 (Kn.own (.head _)) (by first | omega | (simp at q; omega))) ?_
   refine GL_gf (t := 28) rfl rfl rfl (fun q => PS_eql_str (cF rfl q) rfl) ?_
   refine Gt (PS_or rfl rfl (fun h => by rw [h]; rfl)) ?_
   refine Ga rfl ?_
   refine Gn (.t2 6 24) ?_
   refine Gc (fun c3 => ?_) (fun c3 => ?_)
   ·
    have c3p := c3; try simp only [kk] at c3p
    rw [hlen] at c3
    refine Gs ?_
    refine Ga rfl (Ga rfl (Ga rfl (Ga rfl ?_)))
    refine Gn (.t4 2 3 4 5) ?_
    refine G_ret ?_
    refine GQ_block_ret ?_
    refine GQ_then_ret ?_
    refine GQ_ret rfl (.tmp rfl (.tmp rfl (.tmp rfl (.tmp rfl .nil)))) ?_
    intro w1 hS; refine ⟨?_, hS.toKeep⟩; rw [← Words.nounR_eq, show Words.nounR u = _ from ((if_f c1).trans ((if_f c2).trans (if_t c3)))]; rfl
   ·
    have c3p := c3; try simp only [kk] at c3p
    rw [hlen] at c3
    refine Gs ?_
    refine Gm rfl ?_
    refine Gt (PS_idxS is97 (by decide) (Kn.own (.head _)) rfl rfl (by omega) (by first | omega | (simp at q; omega))) ?_
    refine Gt (PS_ldStr rfl tys9 (Kn.own (.head _)) (by first | omega | (simp at q; omega))) ?_
    refine Gt (PS_eql_str rfl rfl) ?_
    refine Ga rfl ?_
    refine Gn (.t2 6 34) ?_
    refine Gc (fun c4 => ?_) (fun c4 => ?_)
    ·
     have c4p := c4; try simp only [kk] at c4p
     refine G_seq ?_
     refine G_planN (N := 7) [0, 1, 3, 0, 15, 31, 63] mix (by kernel_rfl) rfl ?_
     refine Pf 0 rfl (PS_move rfl) ?_
     refine Pf 1 rfl (PS_idxS is97 (by decide) (Kn.own (.head _)) rfl rfl (by omega) (by first | omega | (simp at q; omega))) ?_
     refine Pf 2 rfl (PS_ldStr rfl tys9 (Kn.own (.head _)) (by first | omega | (simp at q; omega))) ?_
     refine Pf 3 rfl (PS_assign rfl) ?_
     refine Pf 4 rfl (PS_assign rfl) ?_
     refine Pf 5 rfl (PS_assign rfl) ?_
     refine Pf 6 rfl (PS_assign rfl) ?_
     refine Plan_end (by kernel_rfl) ?_
     refine GQ_sub (.t4 2 3 4 5) ?_
     refine GQ_then ?_
     refine G_ret ?_
     refine GQ_block_ret ?_
     refine GQ_then_ret ?_
     refine GQ_ret rfl (.tmp rfl (.tmp rfl (.tmp rfl (.tmp rfl .nil)))) ?_
     intro w1 hS; refine ⟨?_, hS.toKeep⟩; rw [← Words.nounR_eq, show Words.nounR u = _ from ((if_f c1).trans ((if_f c2).trans ((if_f c3).trans (if_t c4))))]; rfl
    ·
     have c4p := c4; try simp only [kk] at c4p
     refine G_skip ?_
     refine GQ_sub (.t1 6) ?_
     refine GQ_block ?_
     refine GQ_then ?_
     refine Gs ?_
     refine Ga rfl ?_
     refine GL_nil ?_
     refine GQ_then ?_
     refine Gss ?_
     refine Gm rfl ?_
     refine Gt (PS_idxS is97 (by decide) (Kn.own (.head _)) rfl rfl (by omega) (by first | omega | (simp at q; omega))) ?_
     refine Gt (PS_ldStr rfl tys9 (Kn.own (.head _)) (by first | omega | (simp at q; omega))) ?_
     refine GL_bytes rfl Tryz.underlying9 Tryz.underlying61 Tryz.underlying5 rfl (fun h5 h5l => ?_)
     refine Gt (PS_len_slice rfl Tryz.underlying61 rfl) ?_
     refine Gm rfl ?_
     refine Gn (.t5 6 7 45 46 47) ?_
     refine G_block ?_
     refine G_subF (.t5 7 47 6 45 46) ?_
     refine G_loop2_ (fun (k : Int) (n : Int) => 0 ≤ k ∧ k ≤ (((Words.pieces 46 u).getD (0 : Int).toNat []).length : Int) ∧ Words.digF ((Words.pieces 46 u).getD (0 : Int).toNat []) ((Words.pieces 46 u).getD (0 : Int).toNat []).length 0 = Words.digF ((Words.pieces 46 u).getD (0 : Int).toNat []) ((((Words.pieces 46 u).getD (0 : Int).toNat []).length : Int) - k).toNat n ∧ 0 ≤ n ∧ n ≤ 99 ∧ (k = 0 → n = 0) ∧ (k ≤ 1 → n ≤ 9)) (fun (k : Int) (n : Int) => ((((Words.pieces 46 u).getD (0 : Int).toNat []).length : Int) - k).toNat) (fun (k : Int) (n : Int) => [(7, .int .i64 n), (47, .int .i64 k)]) (fun (k : Int) (n : Int) => []) (0) (0) ?_ rfl rfl (fun k n hI1 => ?_)
     · exact ⟨by omega, by omega, by rw [Int.sub_zero]; rfl, by omega, by omega, fun _ => rfl, by omega⟩
     obtain ⟨hI11, hI12, hI13, hI14, hI15, hI16, hI17⟩ := hI1
     refine Gs ?_
     refine Gt (PS_lss rfl rfl) ?_
     refine GL_nil ?_
     refine GQ_then ?_
     refine G_seq ?_
     refine Gc (fun c5 => ?_) (fun c5 => ?_)
     ·
      have c5p := c5; try simp only [kk] at c5p
      rw [Words.digF_step (k := ((Words.pieces 46 u).getD (0 : Int).toNat [])) hI11 (by omega)] at hI13
      have hc8 := (((Words.pieces 46 u).getD (0 : Int).toNat []).getD k.toNat 0).toNat_lt
      refine G_skip ?_
      refine GQ_sub (.t5 6 7 45 46 47) ?_
      refine GQ_then ?_
      refine G_seq ?_
      refine G_block ?_
      refine Gs ?_
      refine Gm rfl ?_
      refine Gt (PS_idxS is61 (by decide) (Kn.own (.head _)) rfl rfl (by omega) (by first | omega | (simp at q; omega))) ?_
      refine Gt (PS_ldY rfl tys5 (Kn.own (.head _)) (by first | omega | (simp at q; omega))) ?_
      refine Ga rfl (Ga rfl ?_)
      refine Gn (.t7 6 7 8 9 45 46 47) ?_
      refine Gss ?_
      refine Gm rfl ?_
      refine Gt (PS_lss rfl rfl) ?_
      refine Gm rfl ?_
      refine GL_gf (t := 54) rfl rfl rfl (fun q => PS_move rfl) ?_
      refine GL_gf (t := 54) rfl rfl rfl (fun q => PS_gtr (cF rfl q) rfl) ?_
      refine Gt (PS_or rfl rfl (fun h => by rw [h]; rfl)) ?_
      refine Gm rfl ?_
      refine GL_gf (t := 58) rfl rfl rfl (fun q => PS_move rfl) ?_
      refine GL_gf (t := 58) rfl rfl rfl (fun q => PS_eql (cF rfl q) rfl) ?_
      refine GL_gf (t := 58) rfl rfl rfl (fun q => PS_move (cF rfl q)) ?_
      refine GL_gtc (t := 61) rfl rfl rfl (fun qc q => PS_move rfl) ?_
      refine GL_gtc (t := 61) rfl rfl rfl (fun qc q => PS_eql (cvE rfl (by rw [qc, q]; rfl)) rfl) ?_
      refine GL_gf (t := 58) rfl rfl rfl (fun q => PS_and (cF rfl q) rfl (fun h => by rw [q, h]; rfl)) ?_
      refine Gt (PS_or rfl rfl (fun h => by rw [h]; rfl)) ?_
      refine Gm rfl ?_
      refine GL_gf (t := 66) rfl rfl rfl (fun q => PS_move rfl) ?_
      refine GL_gf (t := 66) rfl rfl rfl (fun q => PS_gtr (cF rfl q) rfl) ?_
      refine Gt (PS_or rfl rfl (fun h => by rw [h]; rfl)) ?_
      refine Gn (.t7 6 7 9 45 46 47 69) ?_
      refine Gc (fun c6 => ?_) (fun c6 => ?_)
      ·
       have c6p := c6; try simp only [kk] at c6p
       have hdn := hI13.trans (if_t c6)
       refine Gs ?_
       refine Ga rfl (Ga rfl (Ga rfl (Ga rfl ?_)))
       refine Gn (.t4 2 3 4 5) ?_
       refine G_ret ?_
       refine GQ_then_ret ?_
       refine GQ_block_ret ?_
       refine GQ_then_ret ?_
       refine GQ_then_ret ?_
       refine GQ_block_ret ?_
       refine GQ_then_ret ?_
       refine GQ_ret rfl (.tmp rfl (.tmp rfl (.tmp rfl (.tmp rfl .nil)))) ?_
       intro w1 hS; refine ⟨?_, hS.toKeep⟩; rw [← Words.nounR_eq, show Words.nounR u = Words.nounD ((Words.pieces 46 u).getD (0 : Int).toNat []) ((Words.pieces 46 u).getD 1 []) from ((if_f c1).trans ((if_f c2).trans ((if_f c3).trans (if_f c4)))), Words.nounD_none hdn]; rfl
      ·
       have c6p := c6; try simp only [kk] at c6p
       have cb : Words.digBad k ((((Words.pieces 46 u).getD (0 : Int).toNat []).getD k.toNat 0).toNat : Int) = false := c6
       have hb9 : 48 ≤ ((((Words.pieces 46 u).getD (0 : Int).toNat []).getD k.toNat 0).toNat : Int) ∧ ((((Words.pieces 46 u).getD (0 : Int).toNat []).getD k.toNat 0).toNat : Int) ≤ 57 ∧ k ≤ 1 := by simp at c6; omega
       refine G_skip ?_
       refine GQ_sub (.t6 6 7 9 45 46 47) ?_
       refine GQ_then ?_
       refine G_region ?_
       refine Gm rfl ?_
       refine Gt (PS_mul rfl rfl (IntWalk.i64_in _ (by first | omega | (simp at q; omega)))) ?_
       refine Gm rfl ?_
       refine Gt (PS_sub rfl rfl (IntWalk.u8_in _ (by first | omega | (simp at q; omega)))) ?_
       refine Gt (PS_toInt Tryz.underlying3 Tryz.underlying5 rfl (IntWalk.i64_in _ (by first | omega | (simp at q; omega)))) ?_
       refine Gt (PS_add rfl rfl (IntWalk.i64_in _ (by first | omega | (simp at q; omega)))) ?_
       refine Ga rfl ?_
       refine GL_nil (GQ_sub (.t5 6 7 45 46 47) ?_)
       refine GQ_block ?_
       refine GQ_then ?_
       refine G_region ?_
       refine Gt (PS_add rfl rfl (IntWalk.i64_in _ (by first | omega | (simp at q; omega)))) ?_
       refine Gm rfl ?_
       refine GL_nil (GQ_sub (.t5 6 7 45 46 47) ?_)
       refine GQ_next2_ (k + 1) _ ?_ ?_ (.t5 7 47 6 45 46) (.refl _)
       · exact ⟨by omega, by omega, by rw [hI13, if_f cb], by omega, by omega, by omega, by omega⟩
       · omega
     ·
      have c5p := c5; try simp only [kk] at c5p
      obtain rfl : k = (((Words.pieces 46 u).getD (0 : Int).toNat []).length : Int) := by omega
      have hds := hI13.trans (show Words.digF ((Words.pieces 46 u).getD (0 : Int).toNat []) ((((Words.pieces 46 u).getD (0 : Int).toNat []).length : Int) - (((Words.pieces 46 u).getD (0 : Int).toNat []).length : Int)).toNat n = some n by rw [Int.sub_self]; rfl)
      refine G_exit ?_
      refine GQ_then_exit ?_
      refine GQ_then_exit ?_
      refine GQ_block_exit ?_
      refine GQ_sub (.t2 6 7) ?_
      refine GQ_then ?_
      refine Gss ?_
      refine Gm rfl ?_
      refine Gt (PS_eql rfl rfl) ?_
      refine Gn (.t3 6 7 78) ?_
      refine Gc (fun c7 => ?_) (fun c7 => ?_)
      ·
       have c7p := c7; try simp only [kk] at c7p
       refine Gs ?_
       refine Ga rfl (Ga rfl (Ga rfl (Ga rfl ?_)))
       refine Gn (.t4 2 3 4 5) ?_
       refine G_ret ?_
       refine GQ_then_ret ?_
       refine GQ_ret rfl (.tmp rfl (.tmp rfl (.tmp rfl (.tmp rfl .nil)))) ?_
       intro w1 hS; refine ⟨?_, hS.toKeep⟩; rw [← Words.nounR_eq, show Words.nounR u = Words.nounD ((Words.pieces 46 u).getD (0 : Int).toNat []) ((Words.pieces 46 u).getD 1 []) from ((if_f c1).trans ((if_f c2).trans ((if_f c3).trans (if_f c4)))), Words.nounD_some hds, if_t c7]; rfl
      ·
       have c7p := c7; try simp only [kk] at c7p
       refine G_skip ?_
       refine GQ_sub (.t2 6 7) ?_
       refine GQ_then ?_
       refine G_seq ?_
       refine G_planN (N := 8) [0, 0, 2, 6, 1, 31, 63, 127] mix (by kernel_rfl) rfl ?_
       refine Pf 0 rfl (PS_move rfl) (Pf 1 rfl (PS_move rfl) ?_)
       refine Pf 2 rfl (PS_idxS is97 (by decide) (Kn.own (.tail _ (.head _))) rfl rfl (by omega) (by first | omega | (simp at q; omega))) ?_
       refine Pf 3 rfl (PS_ldStr rfl tys9 (Kn.own (.tail _ (.head _))) (by first | omega | (simp at q; omega))) ?_
       refine Pf 4 rfl (PS_assign rfl) ?_
       refine Pf 5 rfl (PS_assign rfl) ?_
       refine Pf 6 rfl (PS_assign rfl) ?_
       refine Pf 7 rfl (PS_assign rfl) ?_
       refine Plan_end (by kernel_rfl) ?_
       refine GQ_sub (.t4 2 3 4 5) ?_
       refine GQ_then ?_
       refine G_ret ?_
       refine GQ_ret rfl (.tmp rfl (.tmp rfl (.tmp rfl (.tmp rfl .nil)))) ?_
       intro w1 hS; refine ⟨?_, hS.toKeep⟩; rw [← Words.nounR_eq, show Words.nounR u = Words.nounD ((Words.pieces 46 u).getD (0 : Int).toNat []) ((Words.pieces 46 u).getD 1 []) from ((if_f c1).trans ((if_f c2).trans ((if_f c3).trans (if_f c4)))), Words.nounD_some hds, if_f c7]; rfl
theorem ref_turn_mine_spec (b : Nat) (T : Turn) (g : Hd) (hF : T.Fit) : Ctr Tryz.prog 41 #[.pointer (some ⟨b, 0, none⟩)] [Res.box b 57 (TurnV.enc ⟨T.w, T.b, g⟩)] (fun v B => ∃ f : Hd, v = f.val ∧ f.len = (T.own).length ∧ B = [Res.box b 57 (TurnV.enc ⟨T.w, T.b, g⟩), Res.own f 3 1 ((T.own).flatMap encI)]) := by
 intro w hS0
 have hb := hF.b
 have hr := hF.room
 refine Ret_body _ _ Tryz.func41 rfl rfl rfl (hS0) ?_
 refine Gs ?_
 refine Ga rfl ?_
 refine Gn (.t1 0) ?_
 refine G_seq ?_
 refine G_planN (N := 10) [0, 1, 3, 7, 0, 16, 48, 112, 255, 511] mix (by kernel_rfl) rfl ?_
 refine Pf 0 rfl (PS_move rfl) (Pf 1 rfl (PSn rfl) (Pf 2 rfl (PSf fa57_0 rfl) ?_))
 refine Pf 3 rfl (PS_loadA rfl tya34 (.head _) TurnV.l0 rfl) ?_
 refine Pf 4 rfl (PS_move rfl) (Pf 5 rfl (PSn rfl) (Pf 6 rfl (PSf fa57_1 rfl) ?_))
 refine Pf 7 rfl (PS_load rfl tys3 (.head _) TurnV.l1 rfl rfl) ?_
 refine Plan_chain 8 rfl (by kernel_rfl) ?_
 refine GL_callL rfl cf68 (.cons rfl (.cons rfl (.cons rfl .nil))) .nil (ref_HasAt_spec _ _ _) (fun v1 B hv => ?_)
 obtain ⟨y2, rfl, y3, rfl⟩ := hv
 refine GL_hand rfl ⟨?_, ?_⟩
 · exact (Pk (Pk (Pk (Pk (Pk (Pk (Pk (Pk Pend_nil))))))))
 refine Pf 9 rfl (PS_assign rfl) ?_
 refine Plan_end (by kernel_rfl) ?_
 refine GQ_sub (.t1 2) ?_
 refine GQ_then ?_
 refine G_ret ?_
 refine GQ_ret rfl (.tmp rfl .nil) ?_
 intro w1 hS
 have hS := (hS.perm (Pulls.perm (.cons (.tail .head) (.cons .head .nil)))).headL
 exact ⟨_, ⟨_, rfl, by assumption, rfl⟩, hS⟩
theorem ref_turn_these_spec (b : Nat) (T : Turn) (g : Hd) (f : Hd) (l : List Int) (z : Int) (u : Str) (a : Bool) (hF : T.Fit) (hf : f.len = l.length) (hl : l.length ≤ 100) (hi : ∀ i ∈ l, 0 ≤ i ∧ i < 9) (hz : -9223372036854775808 ≤ z ∧ z ≤ 9223372036854775807) : Ctr Tryz.prog 69 #[.pointer (some ⟨b, 0, none⟩), f.val, .int .i64 z, vstr u, .bool a] [Res.box b 57 (TurnV.enc ⟨T.w, T.b, g⟩), Res.own f 3 1 (l.flatMap encI)] (fun v B => ∃ h : Hd, v = h.val ∧ h.len = (Turn.pickL T.w l z u a).length ∧ B = [Res.box b 57 (TurnV.enc ⟨T.w, T.b, g⟩), Res.own f 3 1 (l.flatMap encI), Res.own h 3 1 ((Turn.pickL T.w l z u a).flatMap encI)]) := by
 intro w hS0
 have hb := hF.b
 have hr := hF.room
 refine Ret_body _ _ Tryz.func69 rfl rfl rfl (hS0) ?_
 refine Gs ?_
 refine Ga rfl ?_
 refine Gn (.t5 0 1 2 3 4) ?_
 refine Gs ?_
 refine Ga rfl ?_
 refine GL_nil ?_
 refine GQ_then ?_
 refine Gss ?_
 refine Gm rfl ?_
 refine Gt (PS_len_slice rfl Tryz.underlying66 rfl) ?_
 refine Gm rfl ?_
 refine Gn (.t8 0 2 3 4 11 14 15 16) ?_
 refine G_block ?_
 refine G_subF (.t8 2 11 16 0 3 4 14 15) ?_
 refine G_nilF encI 3 1 ?_
 refine G_loop4_ (fun (k : Int) (xs : List Int) (q : Int) (h : Hd) => 0 ≤ k ∧ k ≤ (l.length : Int) ∧ Turn.theseF T.w u a l z = xs ++ Turn.theseF T.w u a (l.drop k.toNat) q ∧ h.len = xs.length ∧ xs.length ≤ k.toNat ∧ -9223372036854775808 ≤ q ∧ q ≤ 9223372036854775807) (fun (k : Int) (xs : List Int) (q : Int) (h : Hd) => ((l.length : Int) - k).toNat) (fun (k : Int) (xs : List Int) (q : Int) (h : Hd) => [(2, .int .i64 q), (11, h.val), (16, .int .i64 k)]) (fun (k : Int) (xs : List Int) (q : Int) (h : Hd) => [Res.own h 3 1 (xs.flatMap encI)]) (0) ([]) (z) (_) ?_ rfl rfl (fun k xs q h hI1 => ?_)
 · exact ⟨by omega, by omega, rfl, rfl, by simp, hz⟩
 obtain ⟨hI11, hI12, hI13, hI14, hI15, hI16⟩ := hI1
 refine Gs ?_
 refine Gt (PS_lss rfl rfl) ?_
 refine GL_nil ?_
 refine GQ_then ?_
 refine G_seq ?_
 refine Gc (fun c1 => ?_) (fun c1 => ?_)
 ·
  have c1p := c1; try simp only [kk] at c1p
  have hx := hi _ (Line.getD_memI (xs := l) (i := k.toNat) (by omega))
  have hdr := Turn.dn_rng q
  have hst := Turn.theseF_step (w := T.w) (u := u) (a := a) (l := l) (z := q) hI11 (by omega)
  refine G_skip ?_
  refine GQ_sub (.t8 0 2 3 4 11 14 15 16) ?_
  refine GQ_then ?_
  refine G_seq ?_
  refine G_block ?_
  refine Gs ?_
  refine Gt (PS_idxS is66 (by decide) (Kn.own (.tail _ (.tail _ (.head _)))) rfl rfl (by omega) (by omega)) ?_
  refine Gt (PS_ldInt rfl tys3 (Kn.own (.tail _ (.tail _ (.head _)))) (by omega)) ?_
  refine Ga rfl ?_
  refine Gn (.t9 0 2 3 4 11 13 14 15 16) ?_
  refine Gss ?_
  refine Gm rfl ?_
  refine Gt (PS_neq_str rfl rfl) ?_
  refine Gm rfl ?_
  refine GL_gt (t := 22) rfl rfl rfl (fun q => PS_move rfl) ?_
  refine GL_gt (t := 22) rfl rfl rfl (fun q => PS_move rfl) ?_
  refine GL_gt (t := 22) rfl rfl rfl (fun q => PS_move rfl) ?_
  refine GL_gt (t := 22) rfl rfl rfl (fun q => PSn (cvE rfl q)) ?_
  refine GL_gt (t := 22) rfl rfl rfl (fun q => PSf fa57_0 (cvE rfl q)) ?_
  refine GL_gt (t := 22) rfl rfl rfl (fun q => PSf fa34_1 (cvE rfl q)) ?_
  refine GL_gt (t := 22) rfl rfl rfl (fun q => by have q1 := q; (try simp at q1); exact PS_indexAddr ia29 (cvE rfl q) (cvE rfl q) (by first | omega | exact hb.1 | exact hb.2) (by first | omega | exact hb.1 | exact hb.2)) ?_
  refine GL_gt (t := 22) rfl rfl rfl (fun q => PSf fa28_0 (cvE rfl q)) ?_
  refine GL_gt (t := 22) rfl rfl rfl (fun q => by have q1 := q; (try simp at q1); exact PS_load (cvE rfl q) tys9 (.tail _ (.head _)) (((TurnV.l0.comp Land.l1).comp (Lens.ar (n := 9) Thing.fl (by first | omega | exact hb))).comp Thing.l0) rfl rfl) ?_
  refine GL_gt (t := 22) rfl rfl rfl (fun q => PS_neq_str (cvE rfl q) (cvE rfl q)) ?_
  refine Gt (PS_and rfl rfl (fun h => h)) ?_
  refine Gn (.t10 0 2 3 4 11 13 14 15 16 33) ?_
  refine Gc (fun c2 => ?_) (fun c2 => ?_)
  ·
   have c2p := c2; try simp only [kk] at c2p
   have cs : Turn.skip T.w u (l.getD k.toNat 0) = true := c2
   refine G_exit ?_
   refine GQ_then_exit ?_
   refine GQ_block_exit ?_
   refine GQ_sub (.t8 0 2 3 4 11 14 15 16) ?_
   refine GQ_then ?_
   refine G_region ?_
   refine Gt (PS_add rfl rfl (IntWalk.i64_in _ (by first | omega | exact hb.1 | exact hb.2))) ?_
   refine Gm rfl ?_
   refine GL_nil (GQ_sub (.t8 0 2 3 4 11 14 15 16) ?_)
   refine GQ_next4_ (k + 1) _ _ _ ?_ ?_ (.t8 2 11 16 0 3 4 14 15) (.refl _)
   · rw [if_t cs] at hst
     exact ⟨by omega, by omega, by rw [hI13, hst], (by (try dsimp only at *) <;> (try simp only [List.length_append, List.length_cons, List.length_nil]) <;> omega), (by (try simp only [List.length_append, List.length_cons, List.length_nil]); omega), hI16⟩
   · omega
  ·
   have c2p := c2; try simp only [kk] at c2p
   have cs : Turn.skip T.w u (l.getD k.toNat 0) = false := c2
   refine G_skip ?_
   refine GQ_sub (.t9 0 2 3 4 11 13 14 15 16) ?_
   refine GQ_then ?_
   refine Gs ?_
   refine Gm rfl ?_
   refine Gt (PS_sub rfl rfl rfl) ?_
   refine Ga rfl ?_
   refine Gn (.t9 0 2 3 4 11 13 14 15 16) ?_
   refine Gs ?_
   refine Gm rfl (Gm rfl ?_)
   refine GL_gf (t := 37) rfl rfl rfl (fun q => PS_move rfl) ?_
   refine GL_gf (t := 37) rfl rfl rfl (fun q => PS_eql (cF rfl q) rfl) ?_
   refine Gt (PS_or rfl rfl (fun h => by rw [h]; rfl)) ?_
   refine Gn (.t10 0 2 3 4 11 13 14 15 16 40) ?_
   refine Gc (fun c3 => ?_) (fun c3 => ?_)
   ·
    have c3p := c3; try simp only [kk] at c3p
    have ct : (a || decide (Turn.dn q = 0)) = true := c3
    refine G_region ?_
    refine Gm rfl (Gm rfl ?_)
    refine GL_bs1F encI flI rfl Tryz.underlying66 sz3 zv3 rfl (by decide) (by decide) rfl rfl (fun b1 => ?_)
    refine GL_appendF flI rfl Tryz.underlying66 sz3 zv3 rfl by3 (by decide) (by decide) rfl rfl (fun w hS => Src.sliceT Tryz.underlying66 ((Kn.own (.head _)) w hS)) (by (try dsimp only); omega) (fun _ => (.tail .head)) (fun h1 h1l h1z => ?_)
    refine Ga rfl ?_
    refine GL_nil (GQ_sub (.t8 0 2 3 4 11 14 15 16) ?_)
    refine GQ_block ?_
    refine GQ_then ?_
    refine G_region ?_
    refine Gt (PS_add rfl rfl (IntWalk.i64_in _ (by first | omega | exact hb.1 | exact hb.2))) ?_
    refine Gm rfl ?_
    refine GL_nil (GQ_sub (.t8 0 2 3 4 11 14 15 16) ?_)
    refine GQ_next4_ (k + 1) _ _ _ ?_ ?_ (.t8 2 11 16 0 3 4 14 15) (.cons _ (.refl _))
    · rw [if_f cs, if_t ct] at hst
      exact ⟨by omega, by omega, by rw [hI13, hst]; simp [List.append_assoc]; (try rfl), (by (try dsimp only at *) <;> (try simp only [List.length_append, List.length_cons, List.length_nil]) <;> omega), (by (try simp only [List.length_append, List.length_cons, List.length_nil]); omega), hdr⟩
    · omega
   ·
    have c3p := c3; try simp only [kk] at c3p
    have ct : (a || decide (Turn.dn q = 0)) = false := c3
    refine G_skip ?_
    refine GQ_sub (.t8 0 2 3 4 11 14 15 16) ?_
    refine GQ_block ?_
    refine GQ_then ?_
    refine G_region ?_
    refine Gt (PS_add rfl rfl (IntWalk.i64_in _ (by first | omega | exact hb.1 | exact hb.2))) ?_
    refine Gm rfl ?_
    refine GL_nil (GQ_sub (.t8 0 2 3 4 11 14 15 16) ?_)
    refine GQ_next4_ (k + 1) _ _ _ ?_ ?_ (.t8 2 11 16 0 3 4 14 15) (.refl _)
    · rw [if_f cs, if_f ct] at hst
      exact ⟨by omega, by omega, by rw [hI13, hst]; (try rfl), (by (try dsimp only at *) <;> (try simp only [List.length_append, List.length_cons, List.length_nil]) <;> omega), (by (try simp only [List.length_append, List.length_cons, List.length_nil]); omega), hdr⟩
    · omega
 ·
  have c1p := c1; try simp only [kk] at c1p
  obtain rfl : k = (l.length : Int) := by omega
  rw [Turn.drop_end, Turn.theseF, List.append_nil] at hI13
  have hq : Turn.pickL T.w l z u a = xs := (Turn.these_pick T.w u a hl hz.1 hz.2).symm.trans hI13
  refine G_exit ?_
  refine GQ_then_exit ?_
  refine GQ_then_exit ?_
  refine GQ_block_exit ?_
  refine GQ_sub (.t1 11) ?_
  refine GQ_then ?_
  refine Gs ?_
  refine Gm rfl (Ga rfl ?_)
  refine Gn (.t1 10) ?_
  refine G_ret ?_
  refine GQ_ret rfl (.tmp rfl .nil) ?_
  intro w1 hS
  have hS := (hS.perm (Pulls.perm (.cons (.tail .head) (.cons (.tail .head) (.cons .head .nil))))).headL
  refine ⟨_, ⟨_, rfl, ?hl, ?hB⟩, hS⟩
  case hB => rw [hq]
  case hl => rw [hq]; exact hI14
theorem ref_turn_boxOf_spec (b : Nat) (T : Turn) (g : Hd) (u : Str) (hg : g.len = T.out.length) (hF : T.Fit) (hu : u.length ≤ 5000000) (hn : T.out.length ≤ 99000) : Ctr Tryz.prog 67 #[.pointer (some ⟨b, 0, none⟩), vstr u] [Res.box b 57 (TurnV.enc ⟨T.w, T.b, g⟩), Res.own g 60 16 (T.out.flatMap Ing.Event.enc)] (fun v B => ∃ g' : Hd, v = .int .i64 (T.boxN u) ∧ g'.len = ((T.box u).1).out.length ∧ B = [Res.box b 57 (TurnV.enc ⟨((T.box u).1).w, ((T.box u).1).b, g'⟩), Res.own g' 60 16 (((T.box u).1).out.flatMap Ing.Event.enc)]) := by
 intro w hS0
 have hb := hF.b
 have hr := hF.room
 have ho9 := T.own_len
 have hs9 := T.seen_len
 refine Ret_body _ _ Tryz.func67 rfl rfl rfl (hS0) ?_
 refine Gs ?_
 refine Ga rfl ?_
 refine Gn (.t2 0 1) ?_
 refine Gs ?_
 refine Gm rfl ?_
 refine GL_pure rfl cf71 (.cons rfl .nil) (fun w hS => ref_NounOf_spec _ (by omega) w) ?_
 refine Gm rfl ?_
 refine Gt (PS_extract rfl rfl) ?_
 refine Gt (PS_extract rfl rfl) ?_
 refine Gt (PS_extract rfl rfl) ?_
 refine Gt (PS_extract rfl rfl) ?_
 refine Ga rfl (Ga rfl (Ga rfl (Ga rfl ?_)))
 refine Gn (.t5 0 5 6 7 8) ?_
 refine Gs ?_
 refine Ga rfl ?_
 refine GL_nil ?_
 refine GQ_then ?_
 refine Gss ?_
 refine Gm rfl ?_
 refine Gt (PS_eql rfl rfl) ?_
 refine Gm rfl ?_
 refine GL_gt (t := 19) rfl rfl rfl (fun q => PS_move rfl) ?_
 refine GL_gt (t := 19) rfl rfl rfl (fun q => PS_not (cvE rfl q)) ?_
 refine Gt (PS_and rfl rfl (fun h => h)) ?_
 refine Gn (.t5 0 5 6 9 22) ?_
 refine Gc (fun c1 => ?_) (fun c1 => ?_)
 ·
  have c1p := c1; try simp only [kk] at c1p
  have hnf := Words.noun_fine u (of_decide_eq_true (Bool.and_eq_true_iff.1 c1).1)
  refine G_region ?_
  refine Gm rfl (Gm rfl ?_)
  refine GL_callL rfl cf41 (.cons rfl .nil) (.cons .head .nil) (ref_turn_mine_spec _ T _ hF) (fun v1 B hv => ?_)
  obtain ⟨y2, rfl, y3, rfl⟩ := hv
  refine Gm rfl ?_
  refine GL_callL rfl cf52 (.cons rfl .nil) (.cons .head .nil) (ref_turn_inSight_spec _ T _ hF) (fun v5 B hv => ?_)
  obtain ⟨y6, rfl, y7, rfl⟩ := hv
  refine GL_appendF flI rfl Tryz.underlying66 sz3 zv3 rfl by3 (by decide) (by decide) rfl rfl (fun w hS => Src.sliceT Tryz.underlying66 ((Kn.own (.tail _ (.head _))) w hS)) (by (try dsimp only); omega) (fun _ => (.tail (.tail .head))) (fun h9 h9l h9z => ?_)
  refine Gm rfl (Gm rfl ?_)
  refine GL_callL rfl cf69 (.cons rfl (.cons rfl (.cons rfl (.cons rfl (.cons rfl .nil))))) (.cons .head (.cons (.tail .head) .nil)) (ref_turn_these_spec _ T _ _ (T.own ++ T.seen) _ _ _ hF (by rw [List.length_append]; omega) (by rw [List.length_append]; omega) (fun i hi => Turn.at_hand hi) (by omega)) (fun v10 B hv => ?_)
  obtain ⟨y11, rfl, y12, rfl⟩ := hv
  refine Ga rfl ?_
  refine Gn (.t2 0 9) ?_
  refine G_seq ?_
  refine G_seq ?_
  have hx0 := Turn.getD_rng (l := T.handL u) (fun i hi => Turn.at_hand (Turn.pickL_mem hi))
  refine G_planN (N := 16) [0, 1, 3, 7, 15, 15, 47, 111, 31, 287, 799, 2047, 4095, 8191, 16383, 32767] mix (by kernel_rfl) rfl ?_
  refine Pf 0 rfl (PS_move rfl) ?_
  refine Pf 1 rfl (PS_len_slice rfl Tryz.underlying66 rfl) ?_
  refine Pf 2 rfl (PS_eql rfl rfl) ?_
  refine Pf 3 rfl (PS_move rfl) ?_
  refine Pgf 4 35 rfl rfl rfl (fun q => PS_move rfl) ?_
  refine Pgf 5 35 rfl rfl rfl (fun q => PS_move rfl) ?_
  refine Plan_float 6 rfl rfl (by kernel_rfl) (OK_gf (t := 35) rfl rfl (fun q => by have q1 := q; (try simp at q1); exact EX_s (PS_idxS is66 (by decide) (Kn.own (.tail _ (.tail _ (.head _)))) (cF rfl q) rfl (by omega) (by first | omega | (simp at q ⊢; omega) | (simp at q))))) ?_
  refine Plan_float 7 rfl rfl (by kernel_rfl) (OK_gf (t := 35) rfl rfl (fun q => by have q1 := q; (try simp at q1); exact EX_s (PS_ldInt (cF rfl q) tys3 (Kn.own (.tail _ (.tail _ (.head _)))) (by first | omega | (simp at q ⊢; omega) | (simp at q))))) ?_
  refine Pgf 8 35 rfl rfl rfl (fun q => PSn (cF rfl q)) ?_
  refine Pgf 9 35 rfl rfl rfl (fun q => PSf fa57_0 (cF rfl q)) ?_
  refine Pgf 10 35 rfl rfl rfl (fun q => PSf fa34_1 (cF rfl q)) ?_
  refine Plan_float 11 rfl rfl (by kernel_rfl) (OK_gf (t := 35) rfl rfl (fun q => by have q1 := q; (try simp at q1); exact EX_s (PS_indexAddr ia29 (cF rfl q) (cF rfl q) (by first | omega | exact hb.1 | exact hb.2 | exact hx0.1 | exact hx0.2 | (dsimp only; omega)) (by first | omega | exact hb.1 | exact hb.2 | exact hx0.1 | exact hx0.2 | (dsimp only; omega))))) ?_
  refine Pgf 12 35 rfl rfl rfl (fun q => PSf fa28_1 (cF rfl q)) ?_
  refine Plan_float 13 rfl rfl (by kernel_rfl) (OK_gf (t := 35) rfl rfl (fun q => by have q1 := q; (try simp at q1); exact EX_s (PS_load (cF rfl q) tys3 (.head _) (((TurnV.l0.comp Land.l1).comp (Lens.ar (n := 9) Thing.fl (by first | omega | exact hb | exact hx0 | (dsimp only; omega)))).comp Thing.l1) rfl rfl))) ?_
  refine Pgf 14 35 rfl rfl rfl (fun q => PS_neq (cF rfl q) rfl) ?_
  refine Pf 15 rfl (PS_or rfl rfl (fun h => by rw [h]; rfl)) ?_
  refine Plan_end (by kernel_rfl) ?_
  refine GQ_sub (.t3 0 9 47) ?_
  refine GQ_then ?_
  refine Gc (fun c2 => ?_) (fun c2 => ?_)
  ·
   have c2p := c2; try simp only [kk] at c2p
   rw [y12] at c2 c2p
   refine Gs ?_
   refine Gm rfl ?_
   refine GL_callL rfl cf39 (.cons rfl (.cons rfl .nil)) (.cons .head (.cons (.tail (.tail (.tail .head))) .nil)) (ref_turn_tell_spec _ _ _ _ hg hb (by omega)) (fun v14 B hv => ?_)
   obtain ⟨y15, rfl, y16, rfl⟩ := hv
   refine Gn (.nil _) ?_
   refine Gs ?_
   refine Ga rfl ?_
   refine GL_nil ?_
   refine GQ_then ?_
   refine G_ret ?_
   refine GQ_then_ret ?_
   refine GQ_ret rfl (.tmp rfl .nil) ?_
   intro w1 hS
   have hS := (hS.perm (Pulls.perm (.cons .head (.cons .head .nil)))).headL
   have hq : T.box u = _ := Turn.box_no2 c1 c2
   have hN := Turn.boxN_of hq
   refine ⟨_, ⟨?gq1, ?hv1, ?hl1, ?hB1⟩, hS⟩
   case hB1 => rw [hq]; (try rfl)
   case hv1 => rw [hN]; (try rfl)
   case hl1 => rw [hq]; assumption
  ·
   have c2p := c2; try simp only [kk] at c2p
   rw [y12] at c2 c2p
   refine G_skip ?_
   refine GQ_sub (.t2 0 9) ?_
   refine GQ_then ?_
   refine G_seq ?_
   refine G_seq ?_
   refine G_planN (N := 11) [0, 0, 2, 6, 1, 17, 49, 127, 255, 511, 1023] mix (by kernel_rfl) rfl ?_
   refine Pf 0 rfl (PS_move rfl) (Pf 1 rfl (PS_move rfl) ?_)
   refine Pf 2 rfl (PS_idxS is66 (by decide) (Kn.own (.tail _ (.tail _ (.head _)))) rfl rfl (by omega) (by first | omega | (simp at q ⊢; omega) | (simp at q))) ?_
   refine Pf 3 rfl (PS_ldInt rfl tys3 (Kn.own (.tail _ (.tail _ (.head _)))) (by first | omega | (simp at q ⊢; omega) | (simp at q))) ?_
   refine Pf 4 rfl (PSn rfl) (Pf 5 rfl (PSf fa57_0 rfl) (Pf 6 rfl (PSf fa34_1 rfl) ?_))
   refine Pf 7 rfl (PS_indexAddr ia29 rfl rfl (by first | omega | exact hb.1 | exact hb.2 | exact hx0.1 | exact hx0.2 | (dsimp only; omega)) (by first | omega | exact hb.1 | exact hb.2 | exact hx0.1 | exact hx0.2 | (dsimp only; omega))) ?_
   refine Pf 8 rfl (PSf fa28_4 rfl) ?_
   refine Pf 9 rfl (PS_load rfl tys4 (.head _) (((TurnV.l0.comp Land.l1).comp (Lens.ar (n := 9) Thing.fl (by first | omega | exact hb | exact hx0 | (dsimp only; omega)))).comp Thing.l4) rfl rfl) ?_
   refine Pf 10 rfl (PS_not rfl) ?_
   refine Plan_end (by kernel_rfl) ?_
   refine GQ_sub (.t3 0 9 60) ?_
   refine GQ_then ?_
   refine Gc (fun c3 => ?_) (fun c3 => ?_)
   ·
    have c3p := c3; try simp only [kk] at c3p
    refine Gs ?_
    refine Gm rfl ?_
    refine GL_callL rfl cf39 (.cons rfl (.cons rfl .nil)) (.cons .head (.cons (.tail (.tail (.tail .head))) .nil)) (ref_turn_tell_spec _ _ _ _ hg hb (by omega)) (fun v17 B hv => ?_)
    obtain ⟨y18, rfl, y19, rfl⟩ := hv
    refine Gn (.nil _) ?_
    refine Gs ?_
    refine Ga rfl ?_
    refine GL_nil ?_
    refine GQ_then ?_
    refine G_ret ?_
    refine GQ_then_ret ?_
    refine GQ_ret rfl (.tmp rfl .nil) ?_
    intro w1 hS
    have hS := (hS.perm (Pulls.perm (.cons .head (.cons .head .nil)))).headL
    have hq : T.box u = _ := (Turn.box_yes0 c1 c2).trans (if_t c3)
    have hN := Turn.boxN_of hq
    refine ⟨_, ⟨?gq2, ?hv2, ?hl2, ?hB2⟩, hS⟩
    case hB2 => rw [hq]; (try rfl)
    case hv2 => rw [hN]; (try rfl)
    case hl2 => rw [hq]; assumption
   ·
    have c3p := c3; try simp only [kk] at c3p
    refine G_skip ?_
    refine GQ_sub (.t1 9) ?_
    refine GQ_then ?_
    refine Gs ?_
    refine Gm rfl ?_
    refine Gt (PS_idxS is66 (by decide) (Kn.own (.tail _ (.tail _ (.head _)))) rfl rfl (by omega) (by first | omega | (simp at q ⊢; omega) | (simp at q))) ?_
    refine Gt (PS_ldInt rfl tys3 (Kn.own (.tail _ (.tail _ (.head _)))) (by first | omega | (simp at q ⊢; omega) | (simp at q))) ?_
    refine Ga rfl ?_
    refine Gn (.t1 4) ?_
    refine G_ret ?_
    refine GQ_ret rfl (.tmp rfl .nil) ?_
    intro w1 hS
    have hS := (hS.perm (Pulls.perm (.cons .head (.cons (.tail (.tail (.tail .head))) .nil)))).headL
    have hq : T.box u = _ := (Turn.box_yes0 c1 c2).trans (if_f c3)
    have hN := Turn.boxN_of hq
    refine ⟨_, ⟨?gq3, ?hv3, ?hl3, ?hB3⟩, hS⟩
    case hB3 => rw [hq]; (try rfl)
    case hv3 => rw [hN]; (try rfl)
    case hl3 => rw [hq]; assumption
 ·
  have c1p := c1; try simp only [kk] at c1p
  refine G_skip ?_
  refine GQ_sub (.t2 0 9) ?_
  refine GQ_then ?_
  refine G_seq ?_
  refine G_seq ?_
  refine G_planN (N := 16) [0, 1, 3, 7, 15, 15, 47, 111, 31, 287, 799, 2047, 4095, 8191, 16383, 32767] mix (by kernel_rfl) rfl ?_
  refine Pf 0 rfl (PS_move rfl) ?_
  refine Pf 1 rfl (PS_len_slice rfl Tryz.underlying66 rfl) ?_
  refine Pf 2 rfl (PS_eql rfl rfl) ?_
  refine Pf 3 rfl (PS_move rfl) ?_
  refine Plan_float 4 rfl rfl (by kernel_rfl) (OK_off (t := 35) rfl rfl rfl) ?_
  refine Plan_float 5 rfl rfl (by kernel_rfl) (OK_off (t := 35) rfl rfl rfl) ?_
  refine Plan_float 6 rfl rfl (by kernel_rfl) (OK_off (t := 35) rfl rfl rfl) ?_
  refine Plan_float 7 rfl rfl (by kernel_rfl) (OK_off (t := 35) rfl rfl rfl) ?_
  refine Plan_float 8 rfl rfl (by kernel_rfl) (OK_off (t := 35) rfl rfl rfl) ?_
  refine Plan_float 9 rfl rfl (by kernel_rfl) (OK_off (t := 35) rfl rfl rfl) ?_
  refine Plan_float 10 rfl rfl (by kernel_rfl) (OK_off (t := 35) rfl rfl rfl) ?_
  refine Plan_float 11 rfl rfl (by kernel_rfl) (OK_off (t := 35) rfl rfl rfl) ?_
  refine Plan_float 12 rfl rfl (by kernel_rfl) (OK_off (t := 35) rfl rfl rfl) ?_
  refine Plan_float 13 rfl rfl (by kernel_rfl) (OK_off (t := 35) rfl rfl rfl) ?_
  refine Plan_float 14 rfl rfl (by kernel_rfl) (OK_off (t := 35) rfl rfl rfl) ?_
  refine Pf 15 rfl (PS_pick_true rfl rfl) ?_
  refine Plan_end (by kernel_rfl) ?_
  refine GQ_sub (.t3 0 9 47) ?_
  refine GQ_then ?_
  refine G_true rfl rfl ?_
  refine Gs ?_
  refine Gm rfl ?_
  refine GL_callL rfl cf39 (.cons rfl (.cons rfl .nil)) (.cons .head (.cons .head .nil)) (ref_turn_tell_spec _ _ _ _ hg hb (by omega)) (fun v20 B hv => ?_)
  obtain ⟨y21, rfl, y22, rfl⟩ := hv
  refine Gn (.nil _) ?_
  refine Gs ?_
  refine Ga rfl ?_
  refine GL_nil ?_
  refine GQ_then ?_
  refine G_ret ?_
  refine GQ_then_ret ?_
  refine GQ_ret rfl (.tmp rfl .nil) ?_
  intro w1 hS
  have hS := (hS.perm (Pulls.perm (.cons .head (.cons .head .nil)))).headL
  have hq : T.box u = _ := Turn.box_no1 (T := T) c1
  have hN := Turn.boxN_of hq
  refine ⟨_, ⟨?gq4, ?hv4, ?hl4, ?hB4⟩, hS⟩
  case hB4 => rw [hq]; (try rfl)
  case hv4 => rw [hN]; (try rfl)
  case hl4 => rw [hq]; assumption
end Go.Proofs.YthaobbemigbcgaaGreatDoor
