/- What the functions that the law RulesLosses reaches compute: walks, part 4. No condition. -/
import Derived.Test.YthaobbemigbcgaaDoorCards
import Derived.Test.YthaobbemigbcgaaDoorTie
import Derived.Deep.DeepHandedRow
import Derived.Test.YthaobbemigbcgaaDoorRows
import Derived.Test.YthaobbemigbcgaaDoorRulesLossesEc3
import Derived.Test.YthaobbemigbcgaaDoorRulesLossesRa1
import Derived.Test.YthaobbemigbcgaaDoorRulesLossesRb1
import Derived.Test.YthaobbemigbcgaaDoorRulesLossesWalks
import Derived.Test.YthaobbemigbcgaaDoorRulesLossesWalks2
import Derived.Test.YthaobbemigbcgaaDoorRulesLossesWalks3
set_option linter.unusedSimpArgs false
set_option linter.unusedVariables false
set_option maxRecDepth 100000
set_option maxHeartbeats 1000000
namespace Go.Proofs.YthaobbemigbcgaaDoor
open Go Go.Ing Go.RowKit Go.ChangeShapes Go.WideShapes Go.ChangeAt
theorem rules_turn_set_spec (b : Nat) (T : Turn) (g : Hd) (o : Order) (hg : g.len = T.out.length) (hF : T.Fit) (hv : 12 ≤ o.verb ∧ o.verb ≤ 17) (hn : T.out.length ≤ 80000) : CtrR Tryd.prog 22 #[.pointer (some ⟨b, 0, none⟩), .agg o.enc.toArray] [Res.box b 55 (TurnV.enc ⟨T.w, T.b, g⟩), Res.own g 48 16 (T.out.flatMap Ing.Event.enc)] (fun w => (GV 0 Land.verbsV w ∧ 0 ∉ feet [Res.box b 55 (TurnV.enc ⟨T.w, T.b, g⟩), Res.own g 48 16 (T.out.flatMap Ing.Event.enc)])) (fun v B => ∃ g' : Hd, v = .tuple #[] ∧ g'.len = (T.set o).out.length ∧ B = [Res.box b 55 (TurnV.enc ⟨(T.set o).w, (T.set o).b, g'⟩), Res.own g' 48 16 ((T.set o).out.flatMap Ing.Event.enc)]) := by
 intro w hS0 hH
 obtain ⟨gl0, gm0⟩ := hH
 have hb := hF.b
 have hr := hF.room
 have ho9 := T.own_len
 have hs9 := T.seen_len
 refine Ret_body _ _ Tryd.func22 rfl rfl rfl (hS0) ?_
 refine G_seq ?_
 refine G_region ?_
 refine GL_box rfl rfl rfl (fun b1 => ?_)
 refine GL_nil ?_
 refine GQ_sub (.cons (k := 0) rfl (.cons (k := 3) rfl (.nil _))) ?_
 refine GQ_then ?_
 refine G_seq ?_
 refine G_region ?_
 refine GL_step rfl (PS_fieldAddr fa36_0 rfl) ?_
 refine GL_step rfl (PS_load rfl tys3 (.head _) Order.l0 rfl rfl) ?_
 refine GL_step rfl (PS_eql rfl rfl) ?_
 refine GL_step rfl (PS_move rfl) ?_
 refine GL_gf (t := 13) rfl rfl rfl (fun q => PS_fieldAddr fa36_0 rfl) ?_
 refine GL_gf (t := 13) rfl rfl rfl (fun q => PS_load (cvE rfl (by rw [q]; rfl)) tys3 (.head _) Order.l0 rfl rfl) ?_
 refine GL_gf (t := 13) rfl rfl rfl (fun q => PS_eql (cvE rfl (by rw [q]; rfl)) rfl) ?_
 refine GL_step rfl (PS_or rfl rfl (fun h => by rw [h]; rfl)) ?_
 refine GL_step rfl (PS_move rfl) ?_
 refine GL_gf (t := 18) rfl rfl rfl (fun q => PS_fieldAddr fa36_0 rfl) ?_
 refine GL_gf (t := 18) rfl rfl rfl (fun q => PS_load (cvE rfl (by rw [q]; rfl)) tys3 (.head _) Order.l0 rfl rfl) ?_
 refine GL_gf (t := 18) rfl rfl rfl (fun q => PS_eql (cvE rfl (by rw [q]; rfl)) rfl) ?_
 refine GL_step rfl (PS_or rfl rfl (fun h => by rw [h]; rfl)) ?_
 refine GL_step rfl (PS_assign rfl) ?_
 refine GL_nil ?_
 refine GQ_sub (.cons (k := 0) rfl (.cons (k := 3) rfl (.cons (k := 4) rfl (.nil _)))) ?_
 refine GQ_then ?_
 refine G_seq ?_
 refine G_region ?_
 refine GL_step rfl (PS_assign rfl) ?_
 refine GL_step rfl (PS_assign rfl) ?_
 refine GL_nil ?_
 refine GQ_then ?_
 refine G_cut2_ (Lm := []) (fun (kd : Int) (ev : Int) => kd = Turn.setKind o.verb ∧ ev = Turn.setEv o.verb) (fun (kd : Int) (ev : Int) => [(5, .int .i64 kd), (6, .int .i64 ev)]) (fun (kd : Int) (ev : Int) => []) (.cons (k := 0) rfl (.cons (k := 3) rfl (.cons (k := 4) rfl (.nil _)))) rfl ?_ (fun kd ev hC => ?_)
 ·
  refine G_seq ?_
  refine G_region ?_
  refine GL_step rfl (PS_fieldAddr fa36_0 rfl) ?_
  refine GL_step rfl (PS_load rfl tys3 (.head _) Order.l0 rfl rfl) ?_
  refine GL_nil ?_
  refine GQ_sub (.cons (k := 0) rfl (.cons (k := 3) rfl (.cons (k := 4) rfl (.cons (k := 5) rfl (.cons (k := 6) rfl (.cons (k := 24) rfl (.nil _))))))) ?_
  refine GQ_then ?_
  refine G_block ?_
  refine G_seq ?_
  refine G_region ?_
  refine GL_step rfl (PS_eql rfl rfl) ?_
  refine GL_step rfl (PS_assign rfl) ?_
  refine GL_nil ?_
  refine GQ_sub (.cons (k := 0) rfl (.cons (k := 3) rfl (.cons (k := 4) rfl (.cons (k := 5) rfl (.cons (k := 6) rfl (.cons (k := 24) rfl (.cons (k := 25) rfl (.nil _)))))))) ?_
  refine GQ_then ?_
  refine G_cond rfl (fun c1 => ?_) (fun c1 => ?_)
  ·
   have c1p := kz c1
   refine G_region ?_
   refine GL_step rfl (PS_assign rfl) ?_
   refine GL_nil ?_
   refine GQ_sub (.cons (k := 0) rfl (.cons (k := 3) rfl (.cons (k := 4) rfl (.cons (k := 5) rfl (.cons (k := 6) rfl (.nil _)))))) ?_
   refine GQ_block ?_
   refine GQ_at2_ _ _ ?_ (.cons (k := 5) rfl (.cons (k := 6) rfl (.cons (k := 0) rfl (.cons (k := 3) rfl (.cons (k := 4) rfl (.nil _)))))) (.refl _)
   · have hv6 : o.verb = 12 ∨ o.verb = 13 ∨ o.verb = 14 ∨ o.verb = 15 ∨ o.verb = 16 ∨ o.verb = 17 := by omega
     rcases hv6 with e | e | e | e | e | e <;> (try rw [e] at c1) <;> first | exact ⟨by rw [e]; rfl, by rw [e]; rfl⟩ | exact absurd c1 (by decide)
  have c1p := kz c1
  refine G_seq ?_
  refine G_seq ?_
  refine G_region ?_
  refine GL_step rfl (PS_eql rfl rfl) ?_
  refine GL_step rfl (PS_assign rfl) ?_
  refine GL_nil ?_
  refine GQ_sub (.cons (k := 0) rfl (.cons (k := 3) rfl (.cons (k := 4) rfl (.cons (k := 5) rfl (.cons (k := 6) rfl (.cons (k := 24) rfl (.cons (k := 27) rfl (.nil _)))))))) ?_
  refine GQ_then ?_
  refine G_cond rfl (fun c2 => ?_) (fun c2 => ?_)
  ·
   have c2p := kz c2
   refine G_skip ?_
   refine GQ_then ?_
   refine G_true rfl c2 ?_
   refine G_seq ?_
   refine G_region ?_
   refine GL_step rfl (PS_assign rfl) ?_
   refine GL_step rfl (PS_assign rfl) ?_
   refine GL_nil ?_
   refine GQ_sub (.cons (k := 0) rfl (.cons (k := 3) rfl (.cons (k := 4) rfl (.cons (k := 5) rfl (.cons (k := 6) rfl (.nil _)))))) ?_
   refine GQ_then ?_
   refine G_seq ?_
   refine G_region ?_
   refine GL_step rfl (PS_move rfl) ?_
   refine GL_step rfl (PS_not rfl) ?_
   refine GL_nil ?_
   refine GQ_sub (.cons (k := 0) rfl (.cons (k := 3) rfl (.cons (k := 4) rfl (.cons (k := 5) rfl (.cons (k := 6) rfl (.cons (k := 31) rfl (.nil _))))))) ?_
   refine GQ_then ?_
   refine G_cond rfl (fun c3 => ?_) (fun c3 => ?_)
   ·
    have c3p := kz c3
    refine G_region ?_
    refine GL_step rfl (PS_assign rfl) ?_
    refine GL_nil ?_
    refine GQ_sub (.cons (k := 0) rfl (.cons (k := 3) rfl (.cons (k := 4) rfl (.cons (k := 5) rfl (.cons (k := 6) rfl (.nil _)))))) ?_
    refine GQ_block ?_
    refine GQ_at2_ _ _ ?_ (.cons (k := 5) rfl (.cons (k := 6) rfl (.cons (k := 0) rfl (.cons (k := 3) rfl (.cons (k := 4) rfl (.nil _)))))) (.refl _)
    · have hv6 : o.verb = 12 ∨ o.verb = 13 ∨ o.verb = 14 ∨ o.verb = 15 ∨ o.verb = 16 ∨ o.verb = 17 := by omega
      rcases hv6 with e | e | e | e | e | e <;> (try rw [e] at c1) <;> (try rw [e] at c2) <;> (try rw [e] at c3) <;> first | exact ⟨by rw [e]; rfl, by rw [e]; rfl⟩ | exact absurd c1 (by decide) | exact absurd c2 (by decide) | exact absurd c3 (by decide)
   have c3p := kz c3
   refine G_skip ?_
   refine GQ_sub (.cons (k := 0) rfl (.cons (k := 3) rfl (.cons (k := 4) rfl (.cons (k := 5) rfl (.cons (k := 6) rfl (.nil _)))))) ?_
   refine GQ_block ?_
   refine GQ_at2_ _ _ ?_ (.cons (k := 5) rfl (.cons (k := 6) rfl (.cons (k := 0) rfl (.cons (k := 3) rfl (.cons (k := 4) rfl (.nil _)))))) (.refl _)
   · have hv6 : o.verb = 12 ∨ o.verb = 13 ∨ o.verb = 14 ∨ o.verb = 15 ∨ o.verb = 16 ∨ o.verb = 17 := by omega
     rcases hv6 with e | e | e | e | e | e <;> (try rw [e] at c1) <;> (try rw [e] at c2) <;> (try rw [e] at c3) <;> first | exact ⟨by rw [e]; rfl, by rw [e]; rfl⟩ | exact absurd c1 (by decide) | exact absurd c2 (by decide) | exact absurd c3 (by decide)
  have c2p := kz c2
  refine G_region ?_
  refine GL_step rfl (PS_eql rfl rfl) ?_
  refine GL_step rfl (PS_assign rfl) ?_
  refine GL_nil ?_
  refine GQ_sub (.cons (k := 0) rfl (.cons (k := 3) rfl (.cons (k := 4) rfl (.cons (k := 5) rfl (.cons (k := 6) rfl (.cons (k := 24) rfl (.cons (k := 27) rfl (.nil _)))))))) ?_
  refine GQ_then ?_
  refine G_cond rfl (fun c4 => ?_) (fun c4 => ?_)
  ·
   have c4p := kz c4
   refine G_seq ?_
   refine G_region ?_
   refine GL_step rfl (PS_assign rfl) ?_
   refine GL_step rfl (PS_assign rfl) ?_
   refine GL_nil ?_
   refine GQ_sub (.cons (k := 0) rfl (.cons (k := 3) rfl (.cons (k := 4) rfl (.cons (k := 5) rfl (.cons (k := 6) rfl (.nil _)))))) ?_
   refine GQ_then ?_
   refine G_seq ?_
   refine G_region ?_
   refine GL_step rfl (PS_move rfl) ?_
   refine GL_step rfl (PS_not rfl) ?_
   refine GL_nil ?_
   refine GQ_sub (.cons (k := 0) rfl (.cons (k := 3) rfl (.cons (k := 4) rfl (.cons (k := 5) rfl (.cons (k := 6) rfl (.cons (k := 31) rfl (.nil _))))))) ?_
   refine GQ_then ?_
   refine G_cond rfl (fun c5 => ?_) (fun c5 => ?_)
   ·
    have c5p := kz c5
    refine G_region ?_
    refine GL_step rfl (PS_assign rfl) ?_
    refine GL_nil ?_
    refine GQ_sub (.cons (k := 0) rfl (.cons (k := 3) rfl (.cons (k := 4) rfl (.cons (k := 5) rfl (.cons (k := 6) rfl (.nil _)))))) ?_
    refine GQ_block ?_
    refine GQ_at2_ _ _ ?_ (.cons (k := 5) rfl (.cons (k := 6) rfl (.cons (k := 0) rfl (.cons (k := 3) rfl (.cons (k := 4) rfl (.nil _)))))) (.refl _)
    · have hv6 : o.verb = 12 ∨ o.verb = 13 ∨ o.verb = 14 ∨ o.verb = 15 ∨ o.verb = 16 ∨ o.verb = 17 := by omega
      rcases hv6 with e | e | e | e | e | e <;> (try rw [e] at c1) <;> (try rw [e] at c2) <;> (try rw [e] at c4) <;> (try rw [e] at c5) <;> first | exact ⟨by rw [e]; rfl, by rw [e]; rfl⟩ | exact absurd c1 (by decide) | exact absurd c2 (by decide) | exact absurd c4 (by decide) | exact absurd c5 (by decide)
   have c5p := kz c5
   refine G_skip ?_
   refine GQ_sub (.cons (k := 0) rfl (.cons (k := 3) rfl (.cons (k := 4) rfl (.cons (k := 5) rfl (.cons (k := 6) rfl (.nil _)))))) ?_
   refine GQ_block ?_
   refine GQ_at2_ _ _ ?_ (.cons (k := 5) rfl (.cons (k := 6) rfl (.cons (k := 0) rfl (.cons (k := 3) rfl (.cons (k := 4) rfl (.nil _)))))) (.refl _)
   · have hv6 : o.verb = 12 ∨ o.verb = 13 ∨ o.verb = 14 ∨ o.verb = 15 ∨ o.verb = 16 ∨ o.verb = 17 := by omega
     rcases hv6 with e | e | e | e | e | e <;> (try rw [e] at c1) <;> (try rw [e] at c2) <;> (try rw [e] at c4) <;> (try rw [e] at c5) <;> first | exact ⟨by rw [e]; rfl, by rw [e]; rfl⟩ | exact absurd c1 (by decide) | exact absurd c2 (by decide) | exact absurd c4 (by decide) | exact absurd c5 (by decide)
  have c4p := kz c4
  refine G_seq ?_
  refine G_seq ?_
  refine G_region ?_
  refine GL_step rfl (PS_eql rfl rfl) ?_
  refine GL_step rfl (PS_assign rfl) ?_
  refine GL_nil ?_
  refine GQ_sub (.cons (k := 0) rfl (.cons (k := 3) rfl (.cons (k := 4) rfl (.cons (k := 5) rfl (.cons (k := 6) rfl (.cons (k := 24) rfl (.cons (k := 32) rfl (.nil _)))))))) ?_
  refine GQ_then ?_
  refine G_cond rfl (fun c6 => ?_) (fun c6 => ?_)
  ·
   have c6p := kz c6
   refine G_skip ?_
   refine GQ_sub (.cons (k := 0) rfl (.cons (k := 3) rfl (.cons (k := 4) rfl (.cons (k := 5) rfl (.cons (k := 6) rfl (.cons (k := 32) rfl (.nil _))))))) ?_
   refine GQ_then ?_
   refine G_true rfl c6 ?_
   refine G_seq ?_
   refine G_region ?_
   refine GL_step rfl (PS_assign rfl) ?_
   refine GL_step rfl (PS_assign rfl) ?_
   refine GL_nil ?_
   refine GQ_sub (.cons (k := 0) rfl (.cons (k := 3) rfl (.cons (k := 4) rfl (.cons (k := 5) rfl (.cons (k := 6) rfl (.nil _)))))) ?_
   refine GQ_then ?_
   refine G_seq ?_
   refine G_region ?_
   refine GL_step rfl (PS_move rfl) ?_
   refine GL_step rfl (PS_not rfl) ?_
   refine GL_nil ?_
   refine GQ_sub (.cons (k := 0) rfl (.cons (k := 3) rfl (.cons (k := 4) rfl (.cons (k := 5) rfl (.cons (k := 6) rfl (.cons (k := 36) rfl (.nil _))))))) ?_
   refine GQ_then ?_
   refine G_cond rfl (fun c7 => ?_) (fun c7 => ?_)
   ·
    have c7p := kz c7
    refine G_region ?_
    refine GL_step rfl (PS_assign rfl) ?_
    refine GL_nil ?_
    refine GQ_sub (.cons (k := 0) rfl (.cons (k := 3) rfl (.cons (k := 4) rfl (.cons (k := 5) rfl (.cons (k := 6) rfl (.nil _)))))) ?_
    refine GQ_block ?_
    refine GQ_at2_ _ _ ?_ (.cons (k := 5) rfl (.cons (k := 6) rfl (.cons (k := 0) rfl (.cons (k := 3) rfl (.cons (k := 4) rfl (.nil _)))))) (.refl _)
    · have hv6 : o.verb = 12 ∨ o.verb = 13 ∨ o.verb = 14 ∨ o.verb = 15 ∨ o.verb = 16 ∨ o.verb = 17 := by omega
      rcases hv6 with e | e | e | e | e | e <;> (try rw [e] at c1) <;> (try rw [e] at c2) <;> (try rw [e] at c4) <;> (try rw [e] at c6) <;> (try rw [e] at c7) <;> first | exact ⟨by rw [e]; rfl, by rw [e]; rfl⟩ | exact absurd c1 (by decide) | exact absurd c2 (by decide) | exact absurd c4 (by decide) | exact absurd c6 (by decide) | exact absurd c7 (by decide)
   have c7p := kz c7
   refine G_skip ?_
   refine GQ_sub (.cons (k := 0) rfl (.cons (k := 3) rfl (.cons (k := 4) rfl (.cons (k := 5) rfl (.cons (k := 6) rfl (.nil _)))))) ?_
   refine GQ_block ?_
   refine GQ_at2_ _ _ ?_ (.cons (k := 5) rfl (.cons (k := 6) rfl (.cons (k := 0) rfl (.cons (k := 3) rfl (.cons (k := 4) rfl (.nil _)))))) (.refl _)
   · have hv6 : o.verb = 12 ∨ o.verb = 13 ∨ o.verb = 14 ∨ o.verb = 15 ∨ o.verb = 16 ∨ o.verb = 17 := by omega
     rcases hv6 with e | e | e | e | e | e <;> (try rw [e] at c1) <;> (try rw [e] at c2) <;> (try rw [e] at c4) <;> (try rw [e] at c6) <;> (try rw [e] at c7) <;> first | exact ⟨by rw [e]; rfl, by rw [e]; rfl⟩ | exact absurd c1 (by decide) | exact absurd c2 (by decide) | exact absurd c4 (by decide) | exact absurd c6 (by decide) | exact absurd c7 (by decide)
  have c6p := kz c6
  refine G_region ?_
  refine GL_step rfl (PS_eql rfl rfl) ?_
  refine GL_step rfl (PS_assign rfl) ?_
  refine GL_nil ?_
  refine GQ_sub (.cons (k := 0) rfl (.cons (k := 3) rfl (.cons (k := 4) rfl (.cons (k := 5) rfl (.cons (k := 6) rfl (.cons (k := 32) rfl (.nil _))))))) ?_
  refine GQ_then ?_
  refine G_cond rfl (fun c8 => ?_) (fun c8 => ?_)
  ·
   have c8p := kz c8
   refine G_seq ?_
   refine G_region ?_
   refine GL_step rfl (PS_assign rfl) ?_
   refine GL_step rfl (PS_assign rfl) ?_
   refine GL_nil ?_
   refine GQ_sub (.cons (k := 0) rfl (.cons (k := 3) rfl (.cons (k := 4) rfl (.cons (k := 5) rfl (.cons (k := 6) rfl (.nil _)))))) ?_
   refine GQ_then ?_
   refine G_seq ?_
   refine G_region ?_
   refine GL_step rfl (PS_move rfl) ?_
   refine GL_step rfl (PS_not rfl) ?_
   refine GL_nil ?_
   refine GQ_sub (.cons (k := 0) rfl (.cons (k := 3) rfl (.cons (k := 4) rfl (.cons (k := 5) rfl (.cons (k := 6) rfl (.cons (k := 36) rfl (.nil _))))))) ?_
   refine GQ_then ?_
   refine G_cond rfl (fun c9 => ?_) (fun c9 => ?_)
   ·
    have c9p := kz c9
    refine G_region ?_
    refine GL_step rfl (PS_assign rfl) ?_
    refine GL_nil ?_
    refine GQ_sub (.cons (k := 0) rfl (.cons (k := 3) rfl (.cons (k := 4) rfl (.cons (k := 5) rfl (.cons (k := 6) rfl (.nil _)))))) ?_
    refine GQ_block ?_
    refine GQ_at2_ _ _ ?_ (.cons (k := 5) rfl (.cons (k := 6) rfl (.cons (k := 0) rfl (.cons (k := 3) rfl (.cons (k := 4) rfl (.nil _)))))) (.refl _)
    · have hv6 : o.verb = 12 ∨ o.verb = 13 ∨ o.verb = 14 ∨ o.verb = 15 ∨ o.verb = 16 ∨ o.verb = 17 := by omega
      rcases hv6 with e | e | e | e | e | e <;> (try rw [e] at c1) <;> (try rw [e] at c2) <;> (try rw [e] at c4) <;> (try rw [e] at c6) <;> (try rw [e] at c8) <;> (try rw [e] at c9) <;> first | exact ⟨by rw [e]; rfl, by rw [e]; rfl⟩ | exact absurd c1 (by decide) | exact absurd c2 (by decide) | exact absurd c4 (by decide) | exact absurd c6 (by decide) | exact absurd c8 (by decide) | exact absurd c9 (by decide)
   have c9p := kz c9
   refine G_skip ?_
   refine GQ_sub (.cons (k := 0) rfl (.cons (k := 3) rfl (.cons (k := 4) rfl (.cons (k := 5) rfl (.cons (k := 6) rfl (.nil _)))))) ?_
   refine GQ_block ?_
   refine GQ_at2_ _ _ ?_ (.cons (k := 5) rfl (.cons (k := 6) rfl (.cons (k := 0) rfl (.cons (k := 3) rfl (.cons (k := 4) rfl (.nil _)))))) (.refl _)
   · have hv6 : o.verb = 12 ∨ o.verb = 13 ∨ o.verb = 14 ∨ o.verb = 15 ∨ o.verb = 16 ∨ o.verb = 17 := by omega
     rcases hv6 with e | e | e | e | e | e <;> (try rw [e] at c1) <;> (try rw [e] at c2) <;> (try rw [e] at c4) <;> (try rw [e] at c6) <;> (try rw [e] at c8) <;> (try rw [e] at c9) <;> first | exact ⟨by rw [e]; rfl, by rw [e]; rfl⟩ | exact absurd c1 (by decide) | exact absurd c2 (by decide) | exact absurd c4 (by decide) | exact absurd c6 (by decide) | exact absurd c8 (by decide) | exact absurd c9 (by decide)
  have c8p := kz c8
  refine G_skip ?_
  refine GQ_sub (.cons (k := 0) rfl (.cons (k := 3) rfl (.cons (k := 4) rfl (.cons (k := 5) rfl (.cons (k := 6) rfl (.nil _)))))) ?_
  refine GQ_block ?_
  refine GQ_at2_ _ _ ?_ (.cons (k := 5) rfl (.cons (k := 6) rfl (.cons (k := 0) rfl (.cons (k := 3) rfl (.cons (k := 4) rfl (.nil _)))))) (.refl _)
  · have hv6 : o.verb = 12 ∨ o.verb = 13 ∨ o.verb = 14 ∨ o.verb = 15 ∨ o.verb = 16 ∨ o.verb = 17 := by omega
    rcases hv6 with e | e | e | e | e | e <;> (try rw [e] at c1) <;> (try rw [e] at c2) <;> (try rw [e] at c4) <;> (try rw [e] at c6) <;> (try rw [e] at c8) <;> first | exact ⟨by rw [e]; rfl, by rw [e]; rfl⟩ | exact absurd c1 (by decide) | exact absurd c2 (by decide) | exact absurd c4 (by decide) | exact absurd c6 (by decide) | exact absurd c8 (by decide)
 obtain ⟨rfl, rfl⟩ := hC
 refine G_seq ?_
 refine G_seq ?_
 refine G_region ?_
 refine GL_step rfl (PS_fieldAddr fa36_3 rfl) ?_
 refine GL_step rfl (PS_load rfl tys9 (.head _) Order.l3 rfl rfl) ?_
 refine GL_pure rfl cf46 (.cons rfl .nil) (fun w hS => words_Direction_spec _ w (gl0.stM gm0 hS)) ?_
 refine GL_step rfl (PS_move rfl) ?_
 refine GL_step rfl (PS_extract rfl rfl) ?_
 refine GL_step rfl (PS_extract rfl rfl) ?_
 refine GL_step rfl (PS_assign rfl) ?_
 refine GL_step rfl (PS_assign rfl) ?_
 refine GL_nil ?_
 refine GQ_sub (.cons (k := 0) rfl (.cons (k := 3) rfl (.cons (k := 4) rfl (.cons (k := 5) rfl (.cons (k := 6) rfl (.cons (k := 7) rfl (.cons (k := 8) rfl (.nil _)))))))) ?_
 refine GQ_then ?_
 refine G_seq ?_
 refine G_region ?_
 refine GL_step rfl (PS_move rfl) ?_
 refine GL_step rfl (PS_move rfl) ?_
 refine GL_gt (t := 44) rfl rfl rfl (fun q => PS_move rfl) ?_
 refine GL_gt (t := 44) rfl rfl rfl (fun q => PS_eql (cvE rfl q) rfl) ?_
 refine GL_step rfl (PS_and rfl rfl (fun h => h)) ?_
 refine GL_nil ?_
 refine GQ_sub (.cons (k := 0) rfl (.cons (k := 3) rfl (.cons (k := 4) rfl (.cons (k := 5) rfl (.cons (k := 6) rfl (.cons (k := 7) rfl (.cons (k := 47) rfl (.nil _)))))))) ?_
 refine GQ_then ?_
 refine G_cond rfl (fun c10 => ?_) (fun c10 => ?_)
 ·
  have c10p := kz c10
  refine G_seq ?_
  refine G_region ?_
  refine GL_step rfl (PS_move rfl) ?_
  refine GL_step rfl (PS_move rfl) ?_
  refine GL_step rfl (PS_move rfl) ?_
  refine GL_step rfl (PS_move rfl) ?_
  refine GL_callL rfl cf47 (.cons rfl (.cons rfl (.cons rfl (.cons rfl .nil)))) (.cons (.tail .head) (.cons (.tail .head) .nil)) (rules_turn_door_spec _ T _ _ _ _ hg hF (Words.dir_rng (Bool.and_eq_true_iff.1 c10).1) (by omega)) (fun v1 B hv => ?_)
  obtain ⟨y2, rfl, y3, rfl⟩ := hv
  refine GL_nil ?_
  refine GQ_sub (.nil _) ?_
  refine GQ_then ?_
  refine G_ret ?_
  refine GQ_then_ret ?_
  refine GQ_ret rfl .nil ?_
  intro w1 hS
  have hS := (hS.perm (Pulls.perm (.cons .head (.cons .head .nil)))).headL
  have hq : T.set o = _ := (if_t c10)
  refine ⟨_, ⟨?gq1, rfl, ?hl1, ?hB1⟩, hS⟩
  case hB1 => rw [hq]; (try rfl)
  case hl1 => rw [hq]; assumption
 have c10p := kz c10
 refine G_skip ?_
 refine GQ_sub (.cons (k := 0) rfl (.cons (k := 3) rfl (.cons (k := 4) rfl (.cons (k := 5) rfl (.cons (k := 6) rfl (.nil _)))))) ?_
 refine GQ_then ?_
 refine G_seq ?_
 refine G_region ?_
 refine GL_step rfl (PS_move rfl) ?_
 refine GL_callL rfl cf44 (.cons rfl .nil) (.cons (.tail .head) .nil) (rules_turn_own_spec _ T _ hF) (fun v4 B hv => ?_)
 obtain ⟨y5, rfl, y6, rfl⟩ := hv
 refine GL_step rfl (PS_assign rfl) ?_
 refine GL_nil ?_
 refine GQ_sub (.cons (k := 0) rfl (.cons (k := 3) rfl (.cons (k := 4) rfl (.cons (k := 5) rfl (.cons (k := 6) rfl (.cons (k := 9) rfl (.nil _))))))) ?_
 refine GQ_then ?_
 refine G_seq ?_
 refine G_seq ?_
 refine G_region ?_
 refine GL_step rfl (PS_move rfl) ?_
 refine GL_step rfl (PS_eql rfl rfl) ?_
 refine GL_nil ?_
 refine GQ_sub (.cons (k := 0) rfl (.cons (k := 3) rfl (.cons (k := 4) rfl (.cons (k := 5) rfl (.cons (k := 6) rfl (.cons (k := 9) rfl (.cons (k := 56) rfl (.nil _)))))))) ?_
 refine GQ_then ?_
 refine G_cond rfl (fun c11 => ?_) (fun c11 => ?_)
 ·
  have c11p := kz c11
  refine G_region ?_
  refine GL_step rfl (PS_move rfl) ?_
  refine GL_step rfl (PS_move rfl) ?_
  refine GL_callL rfl cf40 (.cons rfl .nil) (.cons .head .nil) (rules_turn_seen_spec _ T _ hF) (fun v8 B hv => ?_)
  obtain ⟨y9, rfl, y10, rfl⟩ := hv
  refine GL_appendF flI rfl Tryd.underlying58 sz3 zv3 rfl by3 (by decide) (by decide) rfl rfl (fun w hS => Src.sliceT Tryd.underlying58 ((Kn.own (.tail _ (.head _))) w hS)) (by (try dsimp only); omega) (fun _ => (.tail (.tail .head))) (fun h12 h12l h12z => ?_)
  refine GL_step rfl (PS_assign rfl) ?_
  refine GL_nil ?_
  refine GQ_sub (.cons (k := 0) rfl (.cons (k := 3) rfl (.cons (k := 4) rfl (.cons (k := 5) rfl (.cons (k := 6) rfl (.cons (k := 9) rfl (.nil _))))))) ?_
  refine GQ_then ?_
  refine G_seq ?_
  refine G_region ?_
  refine GL_step rfl (PS_move rfl) ?_
  refine GL_step rfl (PS_move rfl) ?_
  refine GL_step rfl (PS_fieldAddr fa36_1 rfl) ?_
  refine GL_step rfl (PS_load rfl tys3 (.tail _ (.tail _ (.tail _ (.head _)))) Order.l1 rfl rfl) ?_
  refine GL_step rfl (PS_max2 rfl rfl) ?_
  refine GL_step rfl (PS_fieldAddr fa36_3 rfl) ?_
  refine GL_step rfl (PS_load rfl tys9 (.tail _ (.tail _ (.tail _ (.head _)))) Order.l3 rfl rfl) ?_
  refine GL_callL rfl cf42 (.cons rfl (.cons rfl (.cons rfl (.cons rfl (.cons rfl .nil))))) (.cons .head (.cons (.tail .head) .nil)) (rules_turn_pick_spec _ T _ _ (T.own ++ T.seen) _ _ _ hF (by rw [List.length_append]; omega) (by rw [List.length_append]; omega) (fun i hi => Turn.at_hand hi)) (fun v13 B hv => ?_)
  obtain ⟨y14, rfl, y15, rfl⟩ := hv
  refine GL_step rfl (PS_assign rfl) ?_
  refine GL_nil ?_
  refine GQ_sub (.cons (k := 0) rfl (.cons (k := 4) rfl (.cons (k := 5) rfl (.cons (k := 6) rfl (.cons (k := 9) rfl (.nil _)))))) ?_
  refine GQ_then ?_
  refine G_block ?_
  refine G_seq ?_
  have hx0 := Turn.getD_rng (l := (Turn.pickL T.w (T.own ++ T.seen) (max o.nth 1) o.name false)) (fun i hi => Turn.at_hand (Turn.pickL_mem hi))
  refine G_planN (N := 18) [0, 1, 3, 7, 15, 15, 47, 111, 31, 287, 799, 2047, 4095, 8191, 15, 32767, 65535, 131071] mix (by kernel_rfl) rfl ?_
  refine Plan_float 0 rfl rfl (by kernel_rfl) (OK_s (EX_s (PS_move rfl))) ?_
  refine Plan_float 1 rfl rfl (by kernel_rfl) (OK_s (EX_s (PS_len_slice rfl Tryd.underlying58 rfl))) ?_
  refine Plan_float 2 rfl rfl (by kernel_rfl) (OK_s (EX_s (PS_eql rfl rfl))) ?_
  refine Plan_float 3 rfl rfl (by kernel_rfl) (OK_s (EX_s (PS_move rfl))) ?_
  refine Plan_float 4 rfl rfl (by kernel_rfl) (OK_gf (t := 82) rfl rfl (fun q => EX_s (PS_move rfl))) ?_
  refine Plan_float 5 rfl rfl (by kernel_rfl) (OK_gf (t := 82) rfl rfl (fun q => EX_s (PS_move rfl))) ?_
  refine Plan_float 6 rfl rfl (by kernel_rfl) (OK_gf (t := 82) rfl rfl (fun q => by have q1 := q; (try simp at q1); exact EX_s (PS_idxS is58 (by decide) (Kn.own (.tail _ (.tail _ (.head _)))) (cvE rfl (by rw [q]; rfl)) rfl (by omega) (by first | omega | (simp at q ⊢; omega))))) ?_
  refine Plan_float 7 rfl rfl (by kernel_rfl) (OK_gf (t := 82) rfl rfl (fun q => by have q1 := q; (try simp at q1); exact EX_s (PS_ldInt (cvE rfl (by rw [q]; rfl)) tys3 (Kn.own (.tail _ (.tail _ (.head _)))) (by first | omega | (simp at q ⊢; omega))))) ?_
  refine Plan_float 8 rfl rfl (by kernel_rfl) (OK_gf (t := 82) rfl rfl (fun q => EX_s (PS_nilCheck (cvE rfl (by rw [q]; rfl))))) ?_
  refine Plan_float 9 rfl rfl (by kernel_rfl) (OK_gf (t := 82) rfl rfl (fun q => EX_s (PS_fieldAddr fa55_0 (cvE rfl (by rw [q]; rfl))))) ?_
  refine Plan_float 10 rfl rfl (by kernel_rfl) (OK_gf (t := 82) rfl rfl (fun q => EX_s (PS_fieldAddr fa34_1 (cvE rfl (by rw [q]; rfl))))) ?_
  refine Plan_float 11 rfl rfl (by kernel_rfl) (OK_gf (t := 82) rfl rfl (fun q => by have q1 := q; (try simp at q1); exact EX_s (PS_indexAddr ia29 (cvE rfl (by rw [q]; rfl)) (cvE rfl (by rw [q]; rfl)) (by first | omega | exact hb.1 | exact hb.2 | exact hx0.1 | exact hx0.2 | (dsimp only; omega)) (by first | omega | exact hb.1 | exact hb.2 | exact hx0.1 | exact hx0.2 | (dsimp only; omega))))) ?_
  refine Plan_float 12 rfl rfl (by kernel_rfl) (OK_gf (t := 82) rfl rfl (fun q => EX_s (PS_fieldAddr fa28_1 (cvE rfl (by rw [q]; rfl))))) ?_
  refine Plan_float 13 rfl rfl (by kernel_rfl) (OK_gf (t := 82) rfl rfl (fun q => by have q1 := q; (try simp at q1); exact EX_s (PS_load (cvE rfl (by rw [q]; rfl)) tys3 (.head _) (((TurnV.l0.comp Land.l1).comp (Lens.arr (n := 9) Thing.fl (by first | omega | exact hb.1 | exact hb.2 | exact hx0.1 | exact hx0.2 | (dsimp only; omega)) (by first | omega | exact hb.1 | exact hb.2 | exact hx0.1 | exact hx0.2 | (dsimp only; omega)))).comp Thing.l1) rfl rfl))) ?_
  refine Plan_float 14 rfl rfl (by kernel_rfl) (OK_gf (t := 82) rfl rfl (fun q => EX_s (PS_move rfl))) ?_
  refine Plan_float 15 rfl rfl (by kernel_rfl) (OK_gf (t := 82) rfl rfl (fun q => EX_s (PS_neq (cvE rfl (by rw [q]; rfl)) (cvE rfl (by rw [q]; rfl))))) ?_
  refine Plan_float 16 rfl rfl (by kernel_rfl) (OK_s (EX_s (PS_or rfl rfl (fun h => by rw [h]; rfl)))) ?_
  refine Plan_float 17 rfl rfl (by kernel_rfl) (OK_s (EX_s (PS_assign rfl))) ?_
  refine Plan_end (by kernel_rfl) ?_
  refine GQ_sub (.cons (k := 0) rfl (.cons (k := 4) rfl (.cons (k := 5) rfl (.cons (k := 6) rfl (.cons (k := 9) rfl (.cons (k := 78) rfl (.nil _))))))) ?_
  refine GQ_then ?_
  refine G_cond rfl (fun c12 => ?_) (fun c12 => ?_)
  ·
   have c12p := kz c12
   rw [y15] at c12 c12p
   have hsl : T.setL o = (Turn.pickL T.w (T.own ++ T.seen) (max o.nth 1) o.name false) := congrArg (fun q => Turn.pickL T.w q _ _ _) (if_t c11)
   refine G_region ?_
   refine GL_step rfl (PS_move rfl) ?_
   refine GL_callL rfl cf32 (.cons rfl (.cons rfl .nil)) (.cons .head (.cons (.tail (.tail (.tail (.tail .head)))) .nil)) (rules_turn_tell_spec _ _ _ _ hg hb (by omega)) (fun v17 B hv => ?_)
   obtain ⟨y18, rfl, y19, rfl⟩ := hv
   refine GL_nil ?_
   refine GQ_sub (.nil _) ?_
   refine GQ_block ?_
   refine GQ_end rfl .nil ?_
   intro w1 hS
   have hS := (hS.perm (Pulls.perm (.cons .head (.cons .head .nil)))).headL
   have d0 : (decide (((T.setL o).length : Int) = 0) || !decide ((T.w.things.at ((T.setL o).getD 0 0)).kind = Turn.setKind o.verb)) = true := by rw [hsl]; exact c12
   have hq : T.set o = _ := (if_f c10).trans (if_t d0)
   (try rw [hsl] at hq)
   refine ⟨_, ⟨?gq2, rfl, ?hl2, ?hB2⟩, hS⟩
   case hB2 => rw [hq]; (try rfl)
   case hl2 => rw [hq]; assumption
  have c12p := kz c12
  rw [y15] at c12 c12p
  have hsl : T.setL o = (Turn.pickL T.w (T.own ++ T.seen) (max o.nth 1) o.name false) := congrArg (fun q => Turn.pickL T.w q _ _ _) (if_t c11)
  refine G_seq ?_
  refine G_planN (N := 13) [0, 0, 2, 6, 1, 17, 49, 127, 255, 511, 0, 2047, 4095] mix (by kernel_rfl) rfl ?_
  refine Plan_float 0 rfl rfl (by kernel_rfl) (OK_s (EX_s (PS_move rfl))) ?_
  refine Plan_float 1 rfl rfl (by kernel_rfl) (OK_s (EX_s (PS_move rfl))) ?_
  refine Plan_float 2 rfl rfl (by kernel_rfl) (OK_s (EX_s (PS_idxS is58 (by decide) (Kn.own (.tail _ (.tail _ (.head _)))) rfl rfl (by omega) (by first | omega | (simp at q ⊢; omega))))) ?_
  refine Plan_float 3 rfl rfl (by kernel_rfl) (OK_s (EX_s (PS_ldInt rfl tys3 (Kn.own (.tail _ (.tail _ (.head _)))) (by first | omega | (simp at q ⊢; omega))))) ?_
  refine Plan_float 4 rfl rfl (by kernel_rfl) (OK_s (EX_s (PS_nilCheck rfl))) ?_
  refine Plan_float 5 rfl rfl (by kernel_rfl) (OK_s (EX_s (PS_fieldAddr fa55_0 rfl))) ?_
  refine Plan_float 6 rfl rfl (by kernel_rfl) (OK_s (EX_s (PS_fieldAddr fa34_1 rfl))) ?_
  refine Plan_float 7 rfl rfl (by kernel_rfl) (OK_s (EX_s (PS_indexAddr ia29 rfl rfl (by first | omega | exact hb.1 | exact hb.2 | exact hx0.1 | exact hx0.2 | (dsimp only; omega)) (by first | omega | exact hb.1 | exact hb.2 | exact hx0.1 | exact hx0.2 | (dsimp only; omega))))) ?_
  refine Plan_float 8 rfl rfl (by kernel_rfl) (OK_s (EX_s (PS_fieldAddr fa28_4 rfl))) ?_
  refine Plan_float 9 rfl rfl (by kernel_rfl) (OK_s (EX_s (PS_load rfl tys4 (.head _) (((TurnV.l0.comp Land.l1).comp (Lens.arr (n := 9) Thing.fl (by first | omega | exact hb.1 | exact hb.2 | exact hx0.1 | exact hx0.2 | (dsimp only; omega)) (by first | omega | exact hb.1 | exact hb.2 | exact hx0.1 | exact hx0.2 | (dsimp only; omega)))).comp Thing.l4) rfl rfl))) ?_
  refine Plan_float 10 rfl rfl (by kernel_rfl) (OK_s (EX_s (PS_move rfl))) ?_
  refine Plan_float 11 rfl rfl (by kernel_rfl) (OK_s (EX_s (PS_eql_bool Tryd.underlying4 rfl rfl))) ?_
  refine Plan_float 12 rfl rfl (by kernel_rfl) (OK_s (EX_s (PS_assign rfl))) ?_
  refine Plan_end (by kernel_rfl) ?_
  refine GQ_sub (.cons (k := 0) rfl (.cons (k := 4) rfl (.cons (k := 5) rfl (.cons (k := 6) rfl (.cons (k := 9) rfl (.cons (k := 98) rfl (.nil _))))))) ?_
  refine GQ_then ?_
  refine G_cond rfl (fun c13 => ?_) (fun c13 => ?_)
  ·
   have c13p := kz c13
   refine G_region ?_
   refine GL_step rfl (PS_move rfl) ?_
   refine GL_callL rfl cf32 (.cons rfl (.cons rfl .nil)) (.cons .head (.cons (.tail (.tail (.tail (.tail .head)))) .nil)) (rules_turn_tell_spec _ _ _ _ hg hb (by omega)) (fun v20 B hv => ?_)
   obtain ⟨y21, rfl, y22, rfl⟩ := hv
   refine GL_nil ?_
   refine GQ_sub (.nil _) ?_
   refine GQ_block ?_
   refine GQ_end rfl .nil ?_
   intro w1 hS
   have hS := (hS.perm (Pulls.perm (.cons .head (.cons .head .nil)))).headL
   have d0 : (decide (((T.setL o).length : Int) = 0) || !decide ((T.w.things.at ((T.setL o).getD 0 0)).kind = Turn.setKind o.verb)) = false := by rw [hsl]; exact c12
   have d1 : ((T.w.things.at ((T.setL o).getD 0 0)).on == Turn.setOn o.verb) = true := by rw [hsl]; exact c13
   have hq : T.set o = _ := (if_f c10).trans ((if_f d0).trans (if_t d1))
   (try rw [hsl] at hq)
   refine ⟨_, ⟨?gq3, rfl, ?hl3, ?hB3⟩, hS⟩
   case hB3 => rw [hq]; (try rfl)
   case hl3 => rw [hq]; assumption
  have c13p := kz c13
  refine G_seq ?_
  refine G_region ?_
  refine GL_step rfl (PS_move rfl) ?_
  refine GL_step rfl (PS_assign rfl) ?_
  refine GL_nil ?_
  refine GQ_sub (.cons (k := 0) rfl (.cons (k := 4) rfl (.cons (k := 5) rfl (.cons (k := 6) rfl (.cons (k := 9) rfl (.cons (k := 113) rfl (.nil _))))))) ?_
  refine GQ_then ?_
  refine G_cond rfl (fun c14 => ?_) (fun c14 => ?_)
  ·
   have c14p := kz c14
   refine G_region ?_
   refine GL_step rfl (PS_move rfl) ?_
   refine GL_step rfl (PS_move rfl) ?_
   refine GL_step rfl (PS_neq rfl rfl) ?_
   refine GL_step rfl (PS_move rfl) ?_
   refine GL_step rfl (PS_idxS is58 (by decide) (Kn.own (.tail _ (.tail _ (.head _)))) rfl rfl (by omega) (by first | omega | (simp at q ⊢; omega))) ?_
   refine GL_step rfl (PS_ldInt rfl tys3 (Kn.own (.tail _ (.tail _ (.head _)))) (by first | omega | (simp at q ⊢; omega))) ?_
   refine GL_step rfl (PS_move rfl) ?_
   refine GL_step rfl (PS_move rfl) ?_
   refine GL_callL rfl cf48 (.cons rfl (.cons rfl (.cons rfl (.cons rfl (.cons rfl .nil))))) (.cons .head (.cons (.tail (.tail (.tail (.tail .head)))) .nil)) (rules_turn_before_spec _ T _ (!decide (Turn.setKind o.verb = 2)) ((Turn.pickL T.w (T.own ++ T.seen) (max o.nth 1) o.name false).getD (0 : Int).toNat 0) _ _ hg hb hx0 (by omega)) (fun v23 B hv => ?_)
   obtain ⟨y24, rfl, y25, rfl⟩ := hv
   refine GL_nil ?_
   refine GQ_sub (.nil _) ?_
   refine GQ_block ?_
   refine GQ_end rfl .nil ?_
   intro w1 hS
   have hS := (hS.perm (Pulls.perm (.cons .head (.cons .head .nil)))).headL
   have d0 : (decide (((T.setL o).length : Int) = 0) || !decide ((T.w.things.at ((T.setL o).getD 0 0)).kind = Turn.setKind o.verb)) = false := by rw [hsl]; exact c12
   have d1 : ((T.w.things.at ((T.setL o).getD 0 0)).on == Turn.setOn o.verb) = false := by rw [hsl]; exact c13
   have d2 : Turn.setOn o.verb = true := c14
   have hq : T.set o = _ := (if_f c10).trans ((if_f d0).trans ((if_f d1).trans (if_t d2)))
   (try rw [hsl] at hq)
   refine ⟨_, ⟨?gq4, rfl, ?hl4, ?hB4⟩, hS⟩
   case hB4 => rw [hq]; (try rfl)
   case hl4 => rw [hq]; assumption
  have c14p := kz c14
  refine G_region ?_
  refine GL_step rfl (PS_move rfl) ?_
  refine GL_step rfl (PS_move rfl) ?_
  refine GL_step rfl (PS_eql rfl rfl) ?_
  refine GL_step rfl (PS_move rfl) ?_
  refine GL_step rfl (PS_idxS is58 (by decide) (Kn.own (.tail _ (.tail _ (.head _)))) rfl rfl (by omega) (by first | omega | (simp at q ⊢; omega))) ?_
  refine GL_step rfl (PS_ldInt rfl tys3 (Kn.own (.tail _ (.tail _ (.head _)))) (by first | omega | (simp at q ⊢; omega))) ?_
  refine GL_step rfl (PS_move rfl) ?_
  refine GL_step rfl (PS_move rfl) ?_
  refine GL_callL rfl cf48 (.cons rfl (.cons rfl (.cons rfl (.cons rfl (.cons rfl .nil))))) (.cons .head (.cons (.tail (.tail (.tail (.tail .head)))) .nil)) (rules_turn_before_spec _ T _ (decide (Turn.setKind o.verb = 2)) ((Turn.pickL T.w (T.own ++ T.seen) (max o.nth 1) o.name false).getD (0 : Int).toNat 0) _ _ hg hb hx0 (by omega)) (fun v26 B hv => ?_)
  obtain ⟨y27, rfl, y28, rfl⟩ := hv
  refine GL_nil ?_
  refine GQ_sub (.nil _) ?_
  refine GQ_block ?_
  refine GQ_end rfl .nil ?_
  intro w1 hS
  have hS := (hS.perm (Pulls.perm (.cons .head (.cons .head .nil)))).headL
  have d0 : (decide (((T.setL o).length : Int) = 0) || !decide ((T.w.things.at ((T.setL o).getD 0 0)).kind = Turn.setKind o.verb)) = false := by rw [hsl]; exact c12
  have d1 : ((T.w.things.at ((T.setL o).getD 0 0)).on == Turn.setOn o.verb) = false := by rw [hsl]; exact c13
  have d2 : Turn.setOn o.verb = false := c14
  have hq : T.set o = _ := (if_f c10).trans ((if_f d0).trans ((if_f d1).trans (if_f d2)))
  (try rw [hsl] at hq)
  refine ⟨_, ⟨?gq5, rfl, ?hl5, ?hB5⟩, hS⟩
  case hB5 => rw [hq]; (try rfl)
  case hl5 => rw [hq]; assumption
 have c11p := kz c11
 refine G_skip ?_
 refine GQ_sub (.cons (k := 0) rfl (.cons (k := 3) rfl (.cons (k := 4) rfl (.cons (k := 5) rfl (.cons (k := 6) rfl (.cons (k := 9) rfl (.nil _))))))) ?_
 refine GQ_then ?_
 refine G_seq ?_
 refine G_region ?_
 refine GL_step rfl (PS_move rfl) ?_
 refine GL_step rfl (PS_move rfl) ?_
 refine GL_step rfl (PS_fieldAddr fa36_1 rfl) ?_
 refine GL_step rfl (PS_load rfl tys3 (.tail _ (.tail _ (.head _))) Order.l1 rfl rfl) ?_
 refine GL_step rfl (PS_max2 rfl rfl) ?_
 refine GL_step rfl (PS_fieldAddr fa36_3 rfl) ?_
 refine GL_step rfl (PS_load rfl tys9 (.tail _ (.tail _ (.head _))) Order.l3 rfl rfl) ?_
 refine GL_callL rfl cf42 (.cons rfl (.cons rfl (.cons rfl (.cons rfl (.cons rfl .nil))))) (.cons .head (.cons .head .nil)) (rules_turn_pick_spec _ T _ _ T.own _ _ _ hF (by assumption) (by omega) (fun i hi => Turn.own_rng hi)) (fun v29 B hv => ?_)
 obtain ⟨y30, rfl, y31, rfl⟩ := hv
 refine GL_step rfl (PS_assign rfl) ?_
 refine GL_nil ?_
 refine GQ_sub (.cons (k := 0) rfl (.cons (k := 4) rfl (.cons (k := 5) rfl (.cons (k := 6) rfl (.cons (k := 9) rfl (.nil _)))))) ?_
 refine GQ_then ?_
 refine G_block ?_
 refine G_seq ?_
 have hx0 := Turn.getD_rng (l := (Turn.pickL T.w T.own (max o.nth 1) o.name false)) (fun i hi => Turn.own_rng (Turn.pickL_mem hi))
 refine G_planN (N := 18) [0, 1, 3, 7, 15, 15, 47, 111, 31, 287, 799, 2047, 4095, 8191, 15, 32767, 65535, 131071] mix (by kernel_rfl) rfl ?_
 refine Plan_float 0 rfl rfl (by kernel_rfl) (OK_s (EX_s (PS_move rfl))) ?_
 refine Plan_float 1 rfl rfl (by kernel_rfl) (OK_s (EX_s (PS_len_slice rfl Tryd.underlying58 rfl))) ?_
 refine Plan_float 2 rfl rfl (by kernel_rfl) (OK_s (EX_s (PS_eql rfl rfl))) ?_
 refine Plan_float 3 rfl rfl (by kernel_rfl) (OK_s (EX_s (PS_move rfl))) ?_
 refine Plan_float 4 rfl rfl (by kernel_rfl) (OK_gf (t := 82) rfl rfl (fun q => EX_s (PS_move rfl))) ?_
 refine Plan_float 5 rfl rfl (by kernel_rfl) (OK_gf (t := 82) rfl rfl (fun q => EX_s (PS_move rfl))) ?_
 refine Plan_float 6 rfl rfl (by kernel_rfl) (OK_gf (t := 82) rfl rfl (fun q => by have q1 := q; (try simp at q1); exact EX_s (PS_idxS is58 (by decide) (Kn.own (.tail _ (.tail _ (.head _)))) (cvE rfl (by rw [q]; rfl)) rfl (by omega) (by first | omega | (simp at q ⊢; omega))))) ?_
 refine Plan_float 7 rfl rfl (by kernel_rfl) (OK_gf (t := 82) rfl rfl (fun q => by have q1 := q; (try simp at q1); exact EX_s (PS_ldInt (cvE rfl (by rw [q]; rfl)) tys3 (Kn.own (.tail _ (.tail _ (.head _)))) (by first | omega | (simp at q ⊢; omega))))) ?_
 refine Plan_float 8 rfl rfl (by kernel_rfl) (OK_gf (t := 82) rfl rfl (fun q => EX_s (PS_nilCheck (cvE rfl (by rw [q]; rfl))))) ?_
 refine Plan_float 9 rfl rfl (by kernel_rfl) (OK_gf (t := 82) rfl rfl (fun q => EX_s (PS_fieldAddr fa55_0 (cvE rfl (by rw [q]; rfl))))) ?_
 refine Plan_float 10 rfl rfl (by kernel_rfl) (OK_gf (t := 82) rfl rfl (fun q => EX_s (PS_fieldAddr fa34_1 (cvE rfl (by rw [q]; rfl))))) ?_
 refine Plan_float 11 rfl rfl (by kernel_rfl) (OK_gf (t := 82) rfl rfl (fun q => by have q1 := q; (try simp at q1); exact EX_s (PS_indexAddr ia29 (cvE rfl (by rw [q]; rfl)) (cvE rfl (by rw [q]; rfl)) (by first | omega | exact hb.1 | exact hb.2 | exact hx0.1 | exact hx0.2 | (dsimp only; omega)) (by first | omega | exact hb.1 | exact hb.2 | exact hx0.1 | exact hx0.2 | (dsimp only; omega))))) ?_
 refine Plan_float 12 rfl rfl (by kernel_rfl) (OK_gf (t := 82) rfl rfl (fun q => EX_s (PS_fieldAddr fa28_1 (cvE rfl (by rw [q]; rfl))))) ?_
 refine Plan_float 13 rfl rfl (by kernel_rfl) (OK_gf (t := 82) rfl rfl (fun q => by have q1 := q; (try simp at q1); exact EX_s (PS_load (cvE rfl (by rw [q]; rfl)) tys3 (.head _) (((TurnV.l0.comp Land.l1).comp (Lens.arr (n := 9) Thing.fl (by first | omega | exact hb.1 | exact hb.2 | exact hx0.1 | exact hx0.2 | (dsimp only; omega)) (by first | omega | exact hb.1 | exact hb.2 | exact hx0.1 | exact hx0.2 | (dsimp only; omega)))).comp Thing.l1) rfl rfl))) ?_
 refine Plan_float 14 rfl rfl (by kernel_rfl) (OK_gf (t := 82) rfl rfl (fun q => EX_s (PS_move rfl))) ?_
 refine Plan_float 15 rfl rfl (by kernel_rfl) (OK_gf (t := 82) rfl rfl (fun q => EX_s (PS_neq (cvE rfl (by rw [q]; rfl)) (cvE rfl (by rw [q]; rfl))))) ?_
 refine Plan_float 16 rfl rfl (by kernel_rfl) (OK_s (EX_s (PS_or rfl rfl (fun h => by rw [h]; rfl)))) ?_
 refine Plan_float 17 rfl rfl (by kernel_rfl) (OK_s (EX_s (PS_assign rfl))) ?_
 refine Plan_end (by kernel_rfl) ?_
 refine GQ_sub (.cons (k := 0) rfl (.cons (k := 4) rfl (.cons (k := 5) rfl (.cons (k := 6) rfl (.cons (k := 9) rfl (.cons (k := 78) rfl (.nil _))))))) ?_
 refine GQ_then ?_
 refine G_cond rfl (fun c15 => ?_) (fun c15 => ?_)
 ·
  have c15p := kz c15
  rw [y31] at c15 c15p
  have hsl : T.setL o = (Turn.pickL T.w T.own (max o.nth 1) o.name false) := congrArg (fun q => Turn.pickL T.w q _ _ _) (if_f c11)
  refine G_region ?_
  refine GL_step rfl (PS_move rfl) ?_
  refine GL_callL rfl cf32 (.cons rfl (.cons rfl .nil)) (.cons .head (.cons (.tail (.tail (.tail .head))) .nil)) (rules_turn_tell_spec _ _ _ _ hg hb (by omega)) (fun v33 B hv => ?_)
  obtain ⟨y34, rfl, y35, rfl⟩ := hv
  refine GL_nil ?_
  refine GQ_sub (.nil _) ?_
  refine GQ_block ?_
  refine GQ_end rfl .nil ?_
  intro w1 hS
  have hS := (hS.perm (Pulls.perm (.cons .head (.cons .head .nil)))).headL
  have d0 : (decide (((T.setL o).length : Int) = 0) || !decide ((T.w.things.at ((T.setL o).getD 0 0)).kind = Turn.setKind o.verb)) = true := by rw [hsl]; exact c15
  have hq : T.set o = _ := (if_f c10).trans (if_t d0)
  (try rw [hsl] at hq)
  refine ⟨_, ⟨?gq6, rfl, ?hl6, ?hB6⟩, hS⟩
  case hB6 => rw [hq]; (try rfl)
  case hl6 => rw [hq]; assumption
 have c15p := kz c15
 rw [y31] at c15 c15p
 have hsl : T.setL o = (Turn.pickL T.w T.own (max o.nth 1) o.name false) := congrArg (fun q => Turn.pickL T.w q _ _ _) (if_f c11)
 refine G_seq ?_
 refine G_planN (N := 13) [0, 0, 2, 6, 1, 17, 49, 127, 255, 511, 0, 2047, 4095] mix (by kernel_rfl) rfl ?_
 refine Plan_float 0 rfl rfl (by kernel_rfl) (OK_s (EX_s (PS_move rfl))) ?_
 refine Plan_float 1 rfl rfl (by kernel_rfl) (OK_s (EX_s (PS_move rfl))) ?_
 refine Plan_float 2 rfl rfl (by kernel_rfl) (OK_s (EX_s (PS_idxS is58 (by decide) (Kn.own (.tail _ (.tail _ (.head _)))) rfl rfl (by omega) (by first | omega | (simp at q ⊢; omega))))) ?_
 refine Plan_float 3 rfl rfl (by kernel_rfl) (OK_s (EX_s (PS_ldInt rfl tys3 (Kn.own (.tail _ (.tail _ (.head _)))) (by first | omega | (simp at q ⊢; omega))))) ?_
 refine Plan_float 4 rfl rfl (by kernel_rfl) (OK_s (EX_s (PS_nilCheck rfl))) ?_
 refine Plan_float 5 rfl rfl (by kernel_rfl) (OK_s (EX_s (PS_fieldAddr fa55_0 rfl))) ?_
 refine Plan_float 6 rfl rfl (by kernel_rfl) (OK_s (EX_s (PS_fieldAddr fa34_1 rfl))) ?_
 refine Plan_float 7 rfl rfl (by kernel_rfl) (OK_s (EX_s (PS_indexAddr ia29 rfl rfl (by first | omega | exact hb.1 | exact hb.2 | exact hx0.1 | exact hx0.2 | (dsimp only; omega)) (by first | omega | exact hb.1 | exact hb.2 | exact hx0.1 | exact hx0.2 | (dsimp only; omega))))) ?_
 refine Plan_float 8 rfl rfl (by kernel_rfl) (OK_s (EX_s (PS_fieldAddr fa28_4 rfl))) ?_
 refine Plan_float 9 rfl rfl (by kernel_rfl) (OK_s (EX_s (PS_load rfl tys4 (.head _) (((TurnV.l0.comp Land.l1).comp (Lens.arr (n := 9) Thing.fl (by first | omega | exact hb.1 | exact hb.2 | exact hx0.1 | exact hx0.2 | (dsimp only; omega)) (by first | omega | exact hb.1 | exact hb.2 | exact hx0.1 | exact hx0.2 | (dsimp only; omega)))).comp Thing.l4) rfl rfl))) ?_
 refine Plan_float 10 rfl rfl (by kernel_rfl) (OK_s (EX_s (PS_move rfl))) ?_
 refine Plan_float 11 rfl rfl (by kernel_rfl) (OK_s (EX_s (PS_eql_bool Tryd.underlying4 rfl rfl))) ?_
 refine Plan_float 12 rfl rfl (by kernel_rfl) (OK_s (EX_s (PS_assign rfl))) ?_
 refine Plan_end (by kernel_rfl) ?_
 refine GQ_sub (.cons (k := 0) rfl (.cons (k := 4) rfl (.cons (k := 5) rfl (.cons (k := 6) rfl (.cons (k := 9) rfl (.cons (k := 98) rfl (.nil _))))))) ?_
 refine GQ_then ?_
 refine G_cond rfl (fun c16 => ?_) (fun c16 => ?_)
 ·
  have c16p := kz c16
  refine G_region ?_
  refine GL_step rfl (PS_move rfl) ?_
  refine GL_callL rfl cf32 (.cons rfl (.cons rfl .nil)) (.cons .head (.cons (.tail (.tail (.tail .head))) .nil)) (rules_turn_tell_spec _ _ _ _ hg hb (by omega)) (fun v36 B hv => ?_)
  obtain ⟨y37, rfl, y38, rfl⟩ := hv
  refine GL_nil ?_
  refine GQ_sub (.nil _) ?_
  refine GQ_block ?_
  refine GQ_end rfl .nil ?_
  intro w1 hS
  have hS := (hS.perm (Pulls.perm (.cons .head (.cons .head .nil)))).headL
  have d0 : (decide (((T.setL o).length : Int) = 0) || !decide ((T.w.things.at ((T.setL o).getD 0 0)).kind = Turn.setKind o.verb)) = false := by rw [hsl]; exact c15
  have d1 : ((T.w.things.at ((T.setL o).getD 0 0)).on == Turn.setOn o.verb) = true := by rw [hsl]; exact c16
  have hq : T.set o = _ := (if_f c10).trans ((if_f d0).trans (if_t d1))
  (try rw [hsl] at hq)
  refine ⟨_, ⟨?gq7, rfl, ?hl7, ?hB7⟩, hS⟩
  case hB7 => rw [hq]; (try rfl)
  case hl7 => rw [hq]; assumption
 have c16p := kz c16
 refine G_seq ?_
 refine G_region ?_
 refine GL_step rfl (PS_move rfl) ?_
 refine GL_step rfl (PS_assign rfl) ?_
 refine GL_nil ?_
 refine GQ_sub (.cons (k := 0) rfl (.cons (k := 4) rfl (.cons (k := 5) rfl (.cons (k := 6) rfl (.cons (k := 9) rfl (.cons (k := 113) rfl (.nil _))))))) ?_
 refine GQ_then ?_
 refine G_cond rfl (fun c17 => ?_) (fun c17 => ?_)
 ·
  have c17p := kz c17
  refine G_region ?_
  refine GL_step rfl (PS_move rfl) ?_
  refine GL_step rfl (PS_move rfl) ?_
  refine GL_step rfl (PS_neq rfl rfl) ?_
  refine GL_step rfl (PS_move rfl) ?_
  refine GL_step rfl (PS_idxS is58 (by decide) (Kn.own (.tail _ (.tail _ (.head _)))) rfl rfl (by omega) (by first | omega | (simp at q ⊢; omega))) ?_
  refine GL_step rfl (PS_ldInt rfl tys3 (Kn.own (.tail _ (.tail _ (.head _)))) (by first | omega | (simp at q ⊢; omega))) ?_
  refine GL_step rfl (PS_move rfl) ?_
  refine GL_step rfl (PS_move rfl) ?_
  refine GL_callL rfl cf48 (.cons rfl (.cons rfl (.cons rfl (.cons rfl (.cons rfl .nil))))) (.cons .head (.cons (.tail (.tail (.tail .head))) .nil)) (rules_turn_before_spec _ T _ (!decide (Turn.setKind o.verb = 2)) ((Turn.pickL T.w T.own (max o.nth 1) o.name false).getD (0 : Int).toNat 0) _ _ hg hb hx0 (by omega)) (fun v39 B hv => ?_)
  obtain ⟨y40, rfl, y41, rfl⟩ := hv
  refine GL_nil ?_
  refine GQ_sub (.nil _) ?_
  refine GQ_block ?_
  refine GQ_end rfl .nil ?_
  intro w1 hS
  have hS := (hS.perm (Pulls.perm (.cons .head (.cons .head .nil)))).headL
  have d0 : (decide (((T.setL o).length : Int) = 0) || !decide ((T.w.things.at ((T.setL o).getD 0 0)).kind = Turn.setKind o.verb)) = false := by rw [hsl]; exact c15
  have d1 : ((T.w.things.at ((T.setL o).getD 0 0)).on == Turn.setOn o.verb) = false := by rw [hsl]; exact c16
  have d2 : Turn.setOn o.verb = true := c17
  have hq : T.set o = _ := (if_f c10).trans ((if_f d0).trans ((if_f d1).trans (if_t d2)))
  (try rw [hsl] at hq)
  refine ⟨_, ⟨?gq8, rfl, ?hl8, ?hB8⟩, hS⟩
  case hB8 => rw [hq]; (try rfl)
  case hl8 => rw [hq]; assumption
 have c17p := kz c17
 refine G_region ?_
 refine GL_step rfl (PS_move rfl) ?_
 refine GL_step rfl (PS_move rfl) ?_
 refine GL_step rfl (PS_eql rfl rfl) ?_
 refine GL_step rfl (PS_move rfl) ?_
 refine GL_step rfl (PS_idxS is58 (by decide) (Kn.own (.tail _ (.tail _ (.head _)))) rfl rfl (by omega) (by first | omega | (simp at q ⊢; omega))) ?_
 refine GL_step rfl (PS_ldInt rfl tys3 (Kn.own (.tail _ (.tail _ (.head _)))) (by first | omega | (simp at q ⊢; omega))) ?_
 refine GL_step rfl (PS_move rfl) ?_
 refine GL_step rfl (PS_move rfl) ?_
 refine GL_callL rfl cf48 (.cons rfl (.cons rfl (.cons rfl (.cons rfl (.cons rfl .nil))))) (.cons .head (.cons (.tail (.tail (.tail .head))) .nil)) (rules_turn_before_spec _ T _ (decide (Turn.setKind o.verb = 2)) ((Turn.pickL T.w T.own (max o.nth 1) o.name false).getD (0 : Int).toNat 0) _ _ hg hb hx0 (by omega)) (fun v42 B hv => ?_)
 obtain ⟨y43, rfl, y44, rfl⟩ := hv
 refine GL_nil ?_
 refine GQ_sub (.nil _) ?_
 refine GQ_block ?_
 refine GQ_end rfl .nil ?_
 intro w1 hS
 have hS := (hS.perm (Pulls.perm (.cons .head (.cons .head .nil)))).headL
 have d0 : (decide (((T.setL o).length : Int) = 0) || !decide ((T.w.things.at ((T.setL o).getD 0 0)).kind = Turn.setKind o.verb)) = false := by rw [hsl]; exact c15
 have d1 : ((T.w.things.at ((T.setL o).getD 0 0)).on == Turn.setOn o.verb) = false := by rw [hsl]; exact c16
 have d2 : Turn.setOn o.verb = false := c17
 have hq : T.set o = _ := (if_f c10).trans ((if_f d0).trans ((if_f d1).trans (if_f d2)))
 (try rw [hsl] at hq)
 refine ⟨_, ⟨?gq9, rfl, ?hl9, ?hB9⟩, hS⟩
 case hB9 => rw [hq]; (try rfl)
 case hl9 => rw [hq]; assumption
theorem rules_Do_spec (X : Land) (b : Int) (o : Order) (hw : X.Brief) (hu : o.second.length ≤ 140737488351232) (hm : o.name.length ≤ 140737488351232) : CtrR Tryd.prog 7 #[.agg X.enc.toArray, .int .i64 b, .agg o.enc.toArray] [] (fun w => (GV 0 Land.verbsV w ∧ 0 ∉ feet []) ∧ (GVE 3 w ∧ 3 ∉ feet []) ∧ (GVE 4 w ∧ 4 ∉ feet [])) (fun v B => ∃ h : Hd, v = .tuple #[.agg ((Turn.doR X b o).1.enc).toArray, h.val, .int .i64 (Turn.doR X b o).2.2] ∧ h.len = (Turn.doR X b o).2.1.length ∧ B = [Res.own h 48 16 ((Turn.doR X b o).2.1.flatMap Ing.Event.enc)]) := by
 intro w hS0 hH
 obtain ⟨⟨gl0, gm0⟩, ⟨gl1, gm1⟩, ⟨gl2, gm2⟩⟩ := hH
 refine Ret_body _ _ Tryd.func7 rfl rfl rfl (hS0) ?_
 refine G_seq ?_
 refine G_region ?_
 refine GL_box rfl rfl rfl (fun b1 => ?_)
 refine GL_box rfl rfl rfl (fun b2 => ?_)
 refine GL_alloc rfl zv34 rfl (fun b3 => ?_)
 refine GL_step rfl (PS_assign rfl) ?_
 refine GL_step rfl (PS_assign rfl) ?_
 refine GL_nil ?_
 refine GQ_sub (.cons (k := 1) rfl (.cons (k := 3) rfl (.cons (k := 5) rfl (.cons (k := 6) rfl (.nil _))))) ?_
 refine GQ_then ?_
 refine G_seq ?_
 refine G_block ?_
 refine G_seq ?_
 refine G_region ?_
 refine GL_step rfl (PS_loadA rfl tya34 (.tail _ (.tail _ (.head _))) (Lens.id Land.fl.len Land.fl.one) rfl) ?_
 refine GL_pure rfl cf9 (.cons rfl .nil) (fun w hS => land_Good_spec _ w) ?_
 refine GL_step rfl (PS_not rfl) ?_
 refine GL_step rfl (PS_assign rfl) ?_
 refine GL_nil ?_
 refine GQ_sub (.cons (k := 1) rfl (.cons (k := 3) rfl (.cons (k := 5) rfl (.cons (k := 6) rfl (.cons (k := 10) rfl (.nil _)))))) ?_
 refine GQ_then ?_
 refine G_cond rfl (fun c1 => ?_) (fun c1 => ?_)
 ·
  have c1p := kz c1
  refine G_seq ?_
  refine G_region ?_
  refine GL_step rfl (PS_loadA rfl tya34 (.tail _ (.tail _ (.head _))) (Lens.id Land.fl.len Land.fl.one) rfl) ?_
  refine GL_unit (PU_store (Lens.id Land.fl.len Land.fl.one) rfl rfl rfl sz34 rfl .head) ?_
  refine GL_step rfl (PS_assign rfl) ?_
  refine GL_step rfl (PS_assign rfl) ?_
  refine GL_nil ?_
  refine GQ_sub (.cons (k := 6) rfl (.cons (k := 7) rfl (.cons (k := 8) rfl (.nil _)))) ?_
  refine GQ_then ?_
  refine G_ret ?_
  refine GQ_block_ret ?_
  refine GQ_then_ret ?_
  refine GQ_ret rfl (.cell rfl (.head _) (.inl ⟨(by rw [Land.fl.len]; exact tya34), rfl⟩) (.tmp rfl (.tmp rfl .nil))) ?_
  intro w1 hS
  have hS := hS.own_nil 48 16
  have hS := (hS.perm (Pulls.perm (.cons .head .nil))).headL
  have hq : Turn.doR X b o = _ := (if_t c1)
  refine ⟨_, ⟨⟨none, 0, 0⟩, ?hv1, ?hl1, ?hB1⟩, hS⟩
  case hv1 => rw [hq]; rfl
  case hl1 => rw [hq]; rfl
  case hB1 => rw [hq]; rfl
 have c1p := kz c1
 refine G_seq ?_
 refine G_region ?_
 refine GL_step rfl (PS_move rfl) ?_
 refine GL_step rfl (PS_lss rfl rfl) ?_
 refine GL_step rfl (PS_move rfl) ?_
 refine GL_gf (t := 18) rfl rfl rfl (fun q => PS_move rfl) ?_
 refine GL_gf (t := 18) rfl rfl rfl (fun q => PS_geq (cvE rfl (by rw [q]; rfl)) rfl) ?_
 refine GL_step rfl (PS_or rfl rfl (fun h => by rw [h]; rfl)) ?_
 refine GL_step rfl (PS_move rfl) ?_
 refine GL_gf (t := 22) rfl rfl rfl (fun q => PS_move rfl) ?_
 refine GL_gf (t := 22) rfl rfl rfl (fun q => PS_fieldAddr fa34_2 rfl) ?_
 refine GL_gf (t := 22) rfl rfl rfl (fun q => by have q1 := q; (try simp at q1); exact PS_indexAddr ia32 (cvE rfl (by rw [q]; rfl)) (cvE rfl (by rw [q]; rfl)) (by first | omega | exact hb.1 | exact hb.2 | (dsimp only; omega)) (by first | omega | exact hb.1 | exact hb.2 | (dsimp only; omega))) ?_
 refine GL_gf (t := 22) rfl rfl rfl (fun q => PS_fieldAddr fa31_1 (cvE rfl (by rw [q]; rfl))) ?_
 refine GL_gf (t := 22) rfl rfl rfl (fun q => by have q1 := q; (try simp at q1); exact PS_load (cvE rfl (by rw [q]; rfl)) tys4 (.tail _ (.tail _ (.head _))) ((Land.l2.comp (Lens.arr (n := 6) Being.fl (by first | omega | exact hb.1 | exact hb.2 | (dsimp only; omega)) (by first | omega | exact hb.1 | exact hb.2 | (dsimp only; omega)))).comp Being.l1) rfl rfl) ?_
 refine GL_gf (t := 22) rfl rfl rfl (fun q => PS_not (cvE rfl (by rw [q]; rfl))) ?_
 refine GL_step rfl (PS_or rfl rfl (fun h => by rw [h]; rfl)) ?_
 refine GL_step rfl (PS_assign rfl) ?_
 refine GL_nil ?_
 refine GQ_sub (.cons (k := 1) rfl (.cons (k := 3) rfl (.cons (k := 5) rfl (.cons (k := 6) rfl (.cons (k := 15) rfl (.nil _)))))) ?_
 refine GQ_then ?_
 refine G_cond rfl (fun c2 => ?_) (fun c2 => ?_)
 ·
  have c2p := kz c2
  refine G_seq ?_
  refine G_region ?_
  refine GL_step rfl (PS_loadA rfl tya34 (.tail _ (.tail _ (.head _))) (Lens.id Land.fl.len Land.fl.one) rfl) ?_
  refine GL_unit (PU_store (Lens.id Land.fl.len Land.fl.one) rfl rfl rfl sz34 rfl .head) ?_
  refine GL_step rfl (PS_assign rfl) ?_
  refine GL_step rfl (PS_assign rfl) ?_
  refine GL_nil ?_
  refine GQ_sub (.cons (k := 6) rfl (.cons (k := 7) rfl (.cons (k := 8) rfl (.nil _)))) ?_
  refine GQ_then ?_
  refine G_ret ?_
  refine GQ_block_ret ?_
  refine GQ_then_ret ?_
  refine GQ_ret rfl (.cell rfl (.head _) (.inl ⟨(by rw [Land.fl.len]; exact tya34), rfl⟩) (.tmp rfl (.tmp rfl .nil))) ?_
  intro w1 hS
  have hS := hS.own_nil 48 16
  have hS := (hS.perm (Pulls.perm (.cons .head .nil))).headL
  have hq : Turn.doR X b o = _ := ((if_f c1).trans (if_t c2))
  refine ⟨_, ⟨⟨none, 0, 0⟩, ?hv2, ?hl2, ?hB2⟩, hS⟩
  case hv2 => rw [hq]; rfl
  case hl2 => rw [hq]; rfl
  case hB2 => rw [hq]; rfl
 have c2p := kz c2
 refine G_seq ?_
 refine G_region ?_
 refine GL_step rfl (PS_fieldAddr fa36_0 rfl) ?_
 refine GL_step rfl (PS_load rfl tys3 (.tail _ (.head _)) Order.l0 rfl rfl) ?_
 refine GL_step rfl (PS_lss rfl rfl) ?_
 refine GL_step rfl (PS_move rfl) ?_
 refine GL_gf (t := 35) rfl rfl rfl (fun q => PS_fieldAddr fa36_0 rfl) ?_
 refine GL_gf (t := 35) rfl rfl rfl (fun q => PS_load (cvE rfl (by rw [q]; rfl)) tys3 (.tail _ (.head _)) Order.l0 rfl rfl) ?_
 refine GL_gf (t := 35) rfl rfl rfl (fun q => PS_gtr (cvE rfl (by rw [q]; rfl)) rfl) ?_
 refine GL_step rfl (PS_or rfl rfl (fun h => by rw [h]; rfl)) ?_
 refine GL_step rfl (PS_assign rfl) ?_
 refine GL_nil ?_
 refine GQ_sub (.cons (k := 1) rfl (.cons (k := 3) rfl (.cons (k := 5) rfl (.cons (k := 6) rfl (.cons (k := 31) rfl (.nil _)))))) ?_
 refine GQ_then ?_
 refine G_cond rfl (fun c3 => ?_) (fun c3 => ?_)
 ·
  have c3p := kz c3
  refine G_seq ?_
  refine G_region ?_
  refine GL_step rfl (PS_loadA rfl tya34 (.tail _ (.tail _ (.head _))) (Lens.id Land.fl.len Land.fl.one) rfl) ?_
  refine GL_unit (PU_store (Lens.id Land.fl.len Land.fl.one) rfl rfl rfl sz34 rfl .head) ?_
  refine GL_step rfl (PS_assign rfl) ?_
  refine GL_step rfl (PS_assign rfl) ?_
  refine GL_nil ?_
  refine GQ_sub (.cons (k := 6) rfl (.cons (k := 7) rfl (.cons (k := 8) rfl (.nil _)))) ?_
  refine GQ_then ?_
  refine G_ret ?_
  refine GQ_block_ret ?_
  refine GQ_then_ret ?_
  refine GQ_ret rfl (.cell rfl (.head _) (.inl ⟨(by rw [Land.fl.len]; exact tya34), rfl⟩) (.tmp rfl (.tmp rfl .nil))) ?_
  intro w1 hS
  have hS := hS.own_nil 48 16
  have hS := (hS.perm (Pulls.perm (.cons .head .nil))).headL
  have hq : Turn.doR X b o = _ := ((if_f c1).trans ((if_f c2).trans (if_t c3)))
  refine ⟨_, ⟨⟨none, 0, 0⟩, ?hv3, ?hl3, ?hB3⟩, hS⟩
  case hv3 => rw [hq]; rfl
  case hl3 => rw [hq]; rfl
  case hB3 => rw [hq]; rfl
 have c3p := kz c3
 have hF := Turn.start_fit hw c1 c2
 have hb := hF.b
 refine G_skip ?_
 refine GQ_sub (.cons (k := 1) rfl (.cons (k := 3) rfl (.cons (k := 5) rfl (.cons (k := 6) rfl (.nil _))))) ?_
 refine GQ_block ?_
 refine GQ_then ?_
 refine G_seq ?_
 refine G_region ?_
 refine GL_step rfl (PS_loadA rfl tya34 (.tail _ (.tail _ (.head _))) (Lens.id Land.fl.len Land.fl.one) rfl) ?_
 refine GL_step rfl (PS_move rfl) ?_
 refine GL_step rfl (PS_build pl55 zv55 rfl (.cons TurnV.l0 rfl rfl rfl (.cons TurnV.l1 rfl rfl rfl .nil))) ?_
 refine GL_box rfl rfl rfl (fun b4 => ?_)
 refine GL_step rfl (PS_assign rfl) ?_
 refine GL_nil ?_
 refine GQ_sub (.cons (k := 1) rfl (.cons (k := 5) rfl (.cons (k := 6) rfl (.cons (k := 9) rfl (.nil _))))) ?_
 refine GQ_then ?_
 refine G_seq ?_
 refine G_block ?_
 refine G_seq ?_
 refine G_region ?_
 refine GL_step rfl (PS_fieldAddr fa36_0 rfl) ?_
 refine GL_step rfl (PS_load rfl tys3 (.tail _ (.tail _ (.head _))) Order.l0 rfl rfl) ?_
 refine GL_step rfl (PS_lss rfl rfl) ?_
 refine GL_step rfl (PS_assign rfl) ?_
 refine GL_nil ?_
 refine GQ_sub (.cons (k := 1) rfl (.cons (k := 5) rfl (.cons (k := 6) rfl (.cons (k := 9) rfl (.cons (k := 48) rfl (.nil _)))))) ?_
 refine GQ_then ?_
 refine G_cond rfl (fun c4 => ?_) (fun c4 => ?_)
 ·
  have c4p := kz c4
  refine G_region ?_
  refine GL_step rfl (PS_move rfl) ?_
  refine GL_step rfl (PS_fieldAddr fa36_0 rfl) ?_
  refine GL_step rfl (PS_load rfl tys3 (.tail _ (.tail _ (.head _))) Order.l0 rfl rfl) ?_
  refine GL_nilF Ing.Event.enc 48 16 ?_
  refine GL_callR rfl cf13 (.cons rfl (.cons rfl .nil)) (.cons (.tail .head) (.cons .head .nil)) (rules_turn_walk_spec _ (⟨X, b, []⟩ : Turn) _ o.verb rfl hF (by omega) (Nat.zero_le _)) (fun w hS => gl0.pull gm0 hS (.cons (.tail .head) (.cons .head .nil))) (fun v5 B hv => ?_)
  obtain ⟨y6, rfl, y7, rfl⟩ := hv
  refine GL_nil ?_
  refine GQ_sub (.cons (k := 6) rfl (.cons (k := 9) rfl (.nil _))) ?_
  refine GQ_block ?_
  refine GQ_then ?_
  refine G_seq ?_
  refine G_planN (N := 11) [0, 1, 3, 7, 0, 16, 48, 112, 15, 511, 1023] mix (by kernel_rfl) rfl ?_
  refine Plan_float 0 rfl rfl (by kernel_rfl) (OK_s (EX_s (PS_move rfl))) ?_
  refine Plan_float 1 rfl rfl (by kernel_rfl) (OK_s (EX_s (PS_nilCheck rfl))) ?_
  refine Plan_float 2 rfl rfl (by kernel_rfl) (OK_s (EX_s (PS_fieldAddr fa55_0 rfl))) ?_
  refine Plan_float 3 rfl rfl (by kernel_rfl) (OK_s (EX_s (PS_loadA rfl tya34 (.head _) TurnV.l0 rfl))) ?_
  refine Plan_float 4 rfl rfl (by kernel_rfl) (OK_s (EX_s (PS_move rfl))) ?_
  refine Plan_float 5 rfl rfl (by kernel_rfl) (OK_s (EX_s (PS_nilCheck rfl))) ?_
  refine Plan_float 6 rfl rfl (by kernel_rfl) (OK_s (EX_s (PS_fieldAddr fa55_2 rfl))) ?_
  refine Plan_float 7 rfl rfl (by kernel_rfl) (OK_s (EX_s (PS_load rfl tys37 (.head _) TurnV.l2 rfl rfl))) ?_
  refine Plan_chain 8 rfl (by kernel_rfl) ?_
  refine GL_unit (PU_store (Lens.id Land.fl.len Land.fl.one) rfl rfl rfl sz34 rfl (.tail (.tail .head))) ?_
  refine GL_hand0 rfl ⟨?_, ?_⟩
  · exact (Pend_okv rfl (OK_s (EX_s (PS_load rfl tys37 (.head _) TurnV.l2 rfl rfl))) rfl rfl (Pend_okv rfl (OK_s (EX_s (PS_fieldAddr fa55_2 rfl))) rfl rfl (Pend_okv rfl (OK_s (EX_s (PS_nilCheck rfl))) rfl rfl (Pend_okv rfl (OK_s (EX_s (PS_move rfl))) rfl rfl (Pend_skip (by kernel_rfl) (Pend_skip (by kernel_rfl) (Pend_skip (by kernel_rfl) (Pend_skip (by kernel_rfl) Pend_nil))))))))
  refine Plan_float 9 rfl rfl (by kernel_rfl) (OK_s (EX_s (PS_assign rfl))) ?_
  refine Plan_float 10 rfl rfl (by kernel_rfl) (OK_s (EX_s (PS_assign rfl))) ?_
  refine Plan_end (by kernel_rfl) ?_
  refine GQ_sub (.cons (k := 6) rfl (.cons (k := 7) rfl (.cons (k := 8) rfl (.nil _)))) ?_
  refine GQ_then ?_
  refine G_ret ?_
  refine GQ_ret rfl (.cell rfl (.tail _ (.tail _ (.head _))) (.inl ⟨(by rw [Land.fl.len]; exact tya34), rfl⟩) (.tmp rfl (.tmp rfl .nil))) ?_
  intro w1 hS
  have hS := (hS.perm (Pulls.perm (.cons (.tail .head) .nil))).headL
  have ha : Turn.act (⟨X, b, []⟩ : Turn) o = _ := (if_t c4)
  have hq : Turn.doR X b o = ((Turn.act (⟨X, b, []⟩ : Turn) o).w, (Turn.act (⟨X, b, []⟩ : Turn) o).out, 0) := ((if_f c1).trans ((if_f c2).trans (if_f c3)))
  rw [ha] at hq
  refine ⟨_, ⟨?gq4, ?hv4, ?hl4, ?hB4⟩, hS⟩
  case hB4 => rw [hq]; (try rfl)
  case hv4 => rw [hq]; (try rfl)
  case hl4 => rw [hq]; (try dsimp only); exact y7
 have c4p := kz c4
 refine G_seq ?_
 refine G_region ?_
 refine GL_step rfl (PS_fieldAddr fa36_0 rfl) ?_
 refine GL_step rfl (PS_load rfl tys3 (.tail _ (.tail _ (.head _))) Order.l0 rfl rfl) ?_
 refine GL_step rfl (PS_eql rfl rfl) ?_
 refine GL_step rfl (PS_assign rfl) ?_
 refine GL_nil ?_
 refine GQ_sub (.cons (k := 1) rfl (.cons (k := 5) rfl (.cons (k := 6) rfl (.cons (k := 9) rfl (.cons (k := 56) rfl (.nil _)))))) ?_
 refine GQ_then ?_
 refine G_cond rfl (fun c5 => ?_) (fun c5 => ?_)
 ·
  have c5p := kz c5
  refine G_region ?_
  refine GL_step rfl (PS_move rfl) ?_
  refine GL_nilF Ing.Event.enc 48 16 ?_
  refine GL_callR rfl cf14 (.cons rfl .nil) (.cons (.tail .head) (.cons .head .nil)) (rules_turn_look_spec _ (⟨X, b, []⟩ : Turn) _ rfl hF.b hF.br (Nat.zero_le _)) (fun w hS => gl0.pull gm0 hS (.cons (.tail .head) (.cons .head .nil))) (fun v9 B hv => ?_)
  obtain ⟨y10, rfl, y11, rfl⟩ := hv
  refine GL_nil ?_
  refine GQ_sub (.cons (k := 6) rfl (.cons (k := 9) rfl (.nil _))) ?_
  refine GQ_block ?_
  refine GQ_then ?_
  refine G_seq ?_
  refine G_planN (N := 11) [0, 1, 3, 7, 0, 16, 48, 112, 15, 511, 1023] mix (by kernel_rfl) rfl ?_
  refine Plan_float 0 rfl rfl (by kernel_rfl) (OK_s (EX_s (PS_move rfl))) ?_
  refine Plan_float 1 rfl rfl (by kernel_rfl) (OK_s (EX_s (PS_nilCheck rfl))) ?_
  refine Plan_float 2 rfl rfl (by kernel_rfl) (OK_s (EX_s (PS_fieldAddr fa55_0 rfl))) ?_
  refine Plan_float 3 rfl rfl (by kernel_rfl) (OK_s (EX_s (PS_loadA rfl tya34 (.head _) TurnV.l0 rfl))) ?_
  refine Plan_float 4 rfl rfl (by kernel_rfl) (OK_s (EX_s (PS_move rfl))) ?_
  refine Plan_float 5 rfl rfl (by kernel_rfl) (OK_s (EX_s (PS_nilCheck rfl))) ?_
  refine Plan_float 6 rfl rfl (by kernel_rfl) (OK_s (EX_s (PS_fieldAddr fa55_2 rfl))) ?_
  refine Plan_float 7 rfl rfl (by kernel_rfl) (OK_s (EX_s (PS_load rfl tys37 (.head _) TurnV.l2 rfl rfl))) ?_
  refine Plan_chain 8 rfl (by kernel_rfl) ?_
  refine GL_unit (PU_store (Lens.id Land.fl.len Land.fl.one) rfl rfl rfl sz34 rfl (.tail (.tail .head))) ?_
  refine GL_hand0 rfl ⟨?_, ?_⟩
  · exact (Pend_okv rfl (OK_s (EX_s (PS_load rfl tys37 (.head _) TurnV.l2 rfl rfl))) rfl rfl (Pend_okv rfl (OK_s (EX_s (PS_fieldAddr fa55_2 rfl))) rfl rfl (Pend_okv rfl (OK_s (EX_s (PS_nilCheck rfl))) rfl rfl (Pend_okv rfl (OK_s (EX_s (PS_move rfl))) rfl rfl (Pend_skip (by kernel_rfl) (Pend_skip (by kernel_rfl) (Pend_skip (by kernel_rfl) (Pend_skip (by kernel_rfl) Pend_nil))))))))
  refine Plan_float 9 rfl rfl (by kernel_rfl) (OK_s (EX_s (PS_assign rfl))) ?_
  refine Plan_float 10 rfl rfl (by kernel_rfl) (OK_s (EX_s (PS_assign rfl))) ?_
  refine Plan_end (by kernel_rfl) ?_
  refine GQ_sub (.cons (k := 6) rfl (.cons (k := 7) rfl (.cons (k := 8) rfl (.nil _)))) ?_
  refine GQ_then ?_
  refine G_ret ?_
  refine GQ_ret rfl (.cell rfl (.tail _ (.tail _ (.head _))) (.inl ⟨(by rw [Land.fl.len]; exact tya34), rfl⟩) (.tmp rfl (.tmp rfl .nil))) ?_
  intro w1 hS
  have hS := (hS.perm (Pulls.perm (.cons (.tail .head) .nil))).headL
  have ha : Turn.act (⟨X, b, []⟩ : Turn) o = _ := ((if_f c4).trans (if_t c5))
  have hq : Turn.doR X b o = ((Turn.act (⟨X, b, []⟩ : Turn) o).w, (Turn.act (⟨X, b, []⟩ : Turn) o).out, 0) := ((if_f c1).trans ((if_f c2).trans (if_f c3)))
  rw [ha] at hq
  refine ⟨_, ⟨?gq5, ?hv5, ?hl5, ?hB5⟩, hS⟩
  case hB5 => rw [hq]; (try rfl)
  case hv5 => rw [hq]; (try rfl)
  case hl5 => rw [hq]; (try dsimp only); exact y11
 have c5p := kz c5
 refine G_seq ?_
 refine G_region ?_
 refine GL_step rfl (PS_fieldAddr fa36_0 rfl) ?_
 refine GL_step rfl (PS_load rfl tys3 (.tail _ (.tail _ (.head _))) Order.l0 rfl rfl) ?_
 refine GL_step rfl (PS_eql rfl rfl) ?_
 refine GL_step rfl (PS_assign rfl) ?_
 refine GL_nil ?_
 refine GQ_sub (.cons (k := 1) rfl (.cons (k := 5) rfl (.cons (k := 6) rfl (.cons (k := 9) rfl (.cons (k := 62) rfl (.nil _)))))) ?_
 refine GQ_then ?_
 refine G_cond rfl (fun c6 => ?_) (fun c6 => ?_)
 ·
  have c6p := kz c6
  refine G_region ?_
  refine GL_step rfl (PS_move rfl) ?_
  refine GL_step rfl (PS_move rfl) ?_
  refine GL_step rfl (PS_nilCheck rfl) ?_
  refine GL_step rfl (PS_fieldAddr fa55_0 rfl) ?_
  refine GL_step rfl (PS_loadA rfl tya34 (.head _) TurnV.l0 rfl) ?_
  refine GL_step rfl (PS_move rfl) ?_
  refine GL_callL rfl cf16 (.cons rfl (.cons rfl (.cons rfl .nil))) .nil (land_Has_spec _ _ _) (fun v12 B hv => ?_)
  obtain ⟨y13, rfl, y14, rfl⟩ := hv
  refine GL_nilF Ing.Event.enc 48 16 ?_
  refine GL_callL rfl cf15 (.cons rfl (.cons rfl (.cons rfl .nil))) (.cons (.tail (.tail .head)) (.cons .head (.cons .head .nil))) (rules_turn_list_spec _ (⟨X, b, []⟩ : Turn) _ [89, 111, 117, 32, 104, 97, 118, 101] _ (X.has 1 b) rfl hF.b (by assumption) (Land.has_le _ _ _) (fun i hi => Land.has_mem hi) hF.br (by decide) (Nat.zero_le _)) (fun v17 B hv => ?_)
  obtain ⟨y18, rfl, y19, rfl⟩ := hv
  refine GL_nil ?_
  refine GQ_sub (.cons (k := 6) rfl (.cons (k := 9) rfl (.nil _))) ?_
  refine GQ_block ?_
  refine GQ_then ?_
  refine G_seq ?_
  refine G_planN (N := 11) [0, 1, 3, 7, 0, 16, 48, 112, 15, 511, 1023] mix (by kernel_rfl) rfl ?_
  refine Plan_float 0 rfl rfl (by kernel_rfl) (OK_s (EX_s (PS_move rfl))) ?_
  refine Plan_float 1 rfl rfl (by kernel_rfl) (OK_s (EX_s (PS_nilCheck rfl))) ?_
  refine Plan_float 2 rfl rfl (by kernel_rfl) (OK_s (EX_s (PS_fieldAddr fa55_0 rfl))) ?_
  refine Plan_float 3 rfl rfl (by kernel_rfl) (OK_s (EX_s (PS_loadA rfl tya34 (.head _) TurnV.l0 rfl))) ?_
  refine Plan_float 4 rfl rfl (by kernel_rfl) (OK_s (EX_s (PS_move rfl))) ?_
  refine Plan_float 5 rfl rfl (by kernel_rfl) (OK_s (EX_s (PS_nilCheck rfl))) ?_
  refine Plan_float 6 rfl rfl (by kernel_rfl) (OK_s (EX_s (PS_fieldAddr fa55_2 rfl))) ?_
  refine Plan_float 7 rfl rfl (by kernel_rfl) (OK_s (EX_s (PS_load rfl tys37 (.head _) TurnV.l2 rfl rfl))) ?_
  refine Plan_chain 8 rfl (by kernel_rfl) ?_
  refine GL_unit (PU_store (Lens.id Land.fl.len Land.fl.one) rfl rfl rfl sz34 rfl (.tail (.tail (.tail .head)))) ?_
  refine GL_hand0 rfl ⟨?_, ?_⟩
  · exact (Pend_okv rfl (OK_s (EX_s (PS_load rfl tys37 (.head _) TurnV.l2 rfl rfl))) rfl rfl (Pend_okv rfl (OK_s (EX_s (PS_fieldAddr fa55_2 rfl))) rfl rfl (Pend_okv rfl (OK_s (EX_s (PS_nilCheck rfl))) rfl rfl (Pend_okv rfl (OK_s (EX_s (PS_move rfl))) rfl rfl (Pend_skip (by kernel_rfl) (Pend_skip (by kernel_rfl) (Pend_skip (by kernel_rfl) (Pend_skip (by kernel_rfl) Pend_nil))))))))
  refine Plan_float 9 rfl rfl (by kernel_rfl) (OK_s (EX_s (PS_assign rfl))) ?_
  refine Plan_float 10 rfl rfl (by kernel_rfl) (OK_s (EX_s (PS_assign rfl))) ?_
  refine Plan_end (by kernel_rfl) ?_
  refine GQ_sub (.cons (k := 6) rfl (.cons (k := 7) rfl (.cons (k := 8) rfl (.nil _)))) ?_
  refine GQ_then ?_
  refine G_ret ?_
  refine GQ_ret rfl (.cell rfl (.tail _ (.tail _ (.tail _ (.head _)))) (.inl ⟨(by rw [Land.fl.len]; exact tya34), rfl⟩) (.tmp rfl (.tmp rfl .nil))) ?_
  intro w1 hS
  have hS := (hS.perm (Pulls.perm (.cons (.tail .head) .nil))).headL
  have ha : Turn.act (⟨X, b, []⟩ : Turn) o = _ := ((if_f c4).trans ((if_f c5).trans (if_t c6)))
  have hq : Turn.doR X b o = ((Turn.act (⟨X, b, []⟩ : Turn) o).w, (Turn.act (⟨X, b, []⟩ : Turn) o).out, 0) := ((if_f c1).trans ((if_f c2).trans (if_f c3)))
  rw [ha] at hq
  refine ⟨_, ⟨?gq6, ?hv6, ?hl6, ?hB6⟩, hS⟩
  case hB6 => rw [hq]; (try rfl)
  case hv6 => rw [hq]; (try rfl)
  case hl6 => rw [hq]; (try dsimp only); exact y19
 have c6p := kz c6
 refine G_seq ?_
 refine G_region ?_
 refine GL_step rfl (PS_fieldAddr fa36_0 rfl) ?_
 refine GL_step rfl (PS_load rfl tys3 (.tail _ (.tail _ (.head _))) Order.l0 rfl rfl) ?_
 refine GL_step rfl (PS_eql rfl rfl) ?_
 refine GL_step rfl (PS_assign rfl) ?_
 refine GL_nil ?_
 refine GQ_sub (.cons (k := 5) rfl (.cons (k := 6) rfl (.cons (k := 9) rfl (.cons (k := 74) rfl (.nil _))))) ?_
 refine GQ_then ?_
 refine G_cond rfl (fun c7 => ?_) (fun c7 => ?_)
 ·
  have c7p := kz c7
  refine G_region ?_
  refine GL_step rfl (PS_move rfl) ?_
  refine GL_step rfl (PS_fieldAddr fa36_5 rfl) ?_
  refine GL_step rfl (PS_load rfl tys9 (.tail _ (.tail _ (.head _))) Order.l5 rfl rfl) ?_
  refine GL_step rfl (PS_build pl48 zv48 rfl (.cons Ing.Event.l0 rfl rfl rfl (.cons Ing.Event.l3 rfl rfl rfl (.cons Ing.Event.l9 rfl rfl rfl .nil)))) ?_
  refine GL_nilF Ing.Event.enc 48 16 ?_
  refine GL_callL rfl cf17 (.cons rfl (.cons rfl .nil)) (.cons (.tail .head) (.cons .head .nil)) (rules_turn_happens_spec _ (⟨X, b, []⟩ : Turn) _ { Turn.evk 7 with text := o.text } rfl hF.b (show (-1 : Int) < 6 by decide) (Nat.zero_le _)) (fun v21 B hv => ?_)
  obtain ⟨y22, rfl, y23, rfl⟩ := hv
  refine GL_nil ?_
  refine GQ_sub (.cons (k := 6) rfl (.cons (k := 9) rfl (.nil _))) ?_
  refine GQ_block ?_
  refine GQ_then ?_
  refine G_seq ?_
  refine G_planN (N := 11) [0, 1, 3, 7, 0, 16, 48, 112, 15, 511, 1023] mix (by kernel_rfl) rfl ?_
  refine Plan_float 0 rfl rfl (by kernel_rfl) (OK_s (EX_s (PS_move rfl))) ?_
  refine Plan_float 1 rfl rfl (by kernel_rfl) (OK_s (EX_s (PS_nilCheck rfl))) ?_
  refine Plan_float 2 rfl rfl (by kernel_rfl) (OK_s (EX_s (PS_fieldAddr fa55_0 rfl))) ?_
  refine Plan_float 3 rfl rfl (by kernel_rfl) (OK_s (EX_s (PS_loadA rfl tya34 (.head _) TurnV.l0 rfl))) ?_
  refine Plan_float 4 rfl rfl (by kernel_rfl) (OK_s (EX_s (PS_move rfl))) ?_
  refine Plan_float 5 rfl rfl (by kernel_rfl) (OK_s (EX_s (PS_nilCheck rfl))) ?_
  refine Plan_float 6 rfl rfl (by kernel_rfl) (OK_s (EX_s (PS_fieldAddr fa55_2 rfl))) ?_
  refine Plan_float 7 rfl rfl (by kernel_rfl) (OK_s (EX_s (PS_load rfl tys37 (.head _) TurnV.l2 rfl rfl))) ?_
  refine Plan_chain 8 rfl (by kernel_rfl) ?_
  refine GL_unit (PU_store (Lens.id Land.fl.len Land.fl.one) rfl rfl rfl sz34 rfl (.tail (.tail .head))) ?_
  refine GL_hand0 rfl ⟨?_, ?_⟩
  · exact (Pend_okv rfl (OK_s (EX_s (PS_load rfl tys37 (.head _) TurnV.l2 rfl rfl))) rfl rfl (Pend_okv rfl (OK_s (EX_s (PS_fieldAddr fa55_2 rfl))) rfl rfl (Pend_okv rfl (OK_s (EX_s (PS_nilCheck rfl))) rfl rfl (Pend_okv rfl (OK_s (EX_s (PS_move rfl))) rfl rfl (Pend_skip (by kernel_rfl) (Pend_skip (by kernel_rfl) (Pend_skip (by kernel_rfl) (Pend_skip (by kernel_rfl) Pend_nil))))))))
  refine Plan_float 9 rfl rfl (by kernel_rfl) (OK_s (EX_s (PS_assign rfl))) ?_
  refine Plan_float 10 rfl rfl (by kernel_rfl) (OK_s (EX_s (PS_assign rfl))) ?_
  refine Plan_end (by kernel_rfl) ?_
  refine GQ_sub (.cons (k := 6) rfl (.cons (k := 7) rfl (.cons (k := 8) rfl (.nil _)))) ?_
  refine GQ_then ?_
  refine G_ret ?_
  refine GQ_ret rfl (.cell rfl (.tail _ (.tail _ (.head _))) (.inl ⟨(by rw [Land.fl.len]; exact tya34), rfl⟩) (.tmp rfl (.tmp rfl .nil))) ?_
  intro w1 hS
  have hS := (hS.perm (Pulls.perm (.cons (.tail .head) .nil))).headL
  have ha : Turn.act (⟨X, b, []⟩ : Turn) o = _ := ((if_f c4).trans ((if_f c5).trans ((if_f c6).trans (if_t c7))))
  have hq : Turn.doR X b o = ((Turn.act (⟨X, b, []⟩ : Turn) o).w, (Turn.act (⟨X, b, []⟩ : Turn) o).out, 0) := ((if_f c1).trans ((if_f c2).trans (if_f c3)))
  rw [ha] at hq
  refine ⟨_, ⟨?gq7, ?hv7, ?hl7, ?hB7⟩, hS⟩
  case hB7 => rw [hq]; (try rfl)
  case hv7 => rw [hq]; (try rfl)
  case hl7 => rw [hq]; (try dsimp only); exact y23
 have c7p := kz c7
 refine G_seq ?_
 refine G_region ?_
 refine GL_step rfl (PS_fieldAddr fa36_0 rfl) ?_
 refine GL_step rfl (PS_load rfl tys3 (.tail _ (.tail _ (.head _))) Order.l0 rfl rfl) ?_
 refine GL_step rfl (PS_eql rfl rfl) ?_
 refine GL_step rfl (PS_assign rfl) ?_
 refine GL_nil ?_
 refine GQ_sub (.cons (k := 5) rfl (.cons (k := 6) rfl (.cons (k := 9) rfl (.cons (k := 83) rfl (.nil _))))) ?_
 refine GQ_then ?_
 refine G_cond rfl (fun c8 => ?_) (fun c8 => ?_)
 ·
  have c8p := kz c8
  refine G_region ?_
  refine GL_step rfl (PS_move rfl) ?_
  refine GL_nilF Ing.Event.enc 48 16 ?_
  refine GL_callL rfl cf18 (.cons rfl .nil) (.cons (.tail .head) (.cons .head .nil)) (rules_turn_fade_spec _ (⟨X, b, []⟩ : Turn) _ rfl hF (Nat.zero_le _)) (fun v25 B hv => ?_)
  obtain ⟨y26, rfl, y27, rfl⟩ := hv
  refine GL_nil ?_
  refine GQ_sub (.cons (k := 6) rfl (.cons (k := 9) rfl (.nil _))) ?_
  refine GQ_block ?_
  refine GQ_then ?_
  refine G_seq ?_
  refine G_planN (N := 11) [0, 1, 3, 7, 0, 16, 48, 112, 15, 511, 1023] mix (by kernel_rfl) rfl ?_
  refine Plan_float 0 rfl rfl (by kernel_rfl) (OK_s (EX_s (PS_move rfl))) ?_
  refine Plan_float 1 rfl rfl (by kernel_rfl) (OK_s (EX_s (PS_nilCheck rfl))) ?_
  refine Plan_float 2 rfl rfl (by kernel_rfl) (OK_s (EX_s (PS_fieldAddr fa55_0 rfl))) ?_
  refine Plan_float 3 rfl rfl (by kernel_rfl) (OK_s (EX_s (PS_loadA rfl tya34 (.head _) TurnV.l0 rfl))) ?_
  refine Plan_float 4 rfl rfl (by kernel_rfl) (OK_s (EX_s (PS_move rfl))) ?_
  refine Plan_float 5 rfl rfl (by kernel_rfl) (OK_s (EX_s (PS_nilCheck rfl))) ?_
  refine Plan_float 6 rfl rfl (by kernel_rfl) (OK_s (EX_s (PS_fieldAddr fa55_2 rfl))) ?_
  refine Plan_float 7 rfl rfl (by kernel_rfl) (OK_s (EX_s (PS_load rfl tys37 (.head _) TurnV.l2 rfl rfl))) ?_
  refine Plan_chain 8 rfl (by kernel_rfl) ?_
  refine GL_unit (PU_store (Lens.id Land.fl.len Land.fl.one) rfl rfl rfl sz34 rfl (.tail (.tail .head))) ?_
  refine GL_hand0 rfl ⟨?_, ?_⟩
  · exact (Pend_okv rfl (OK_s (EX_s (PS_load rfl tys37 (.head _) TurnV.l2 rfl rfl))) rfl rfl (Pend_okv rfl (OK_s (EX_s (PS_fieldAddr fa55_2 rfl))) rfl rfl (Pend_okv rfl (OK_s (EX_s (PS_nilCheck rfl))) rfl rfl (Pend_okv rfl (OK_s (EX_s (PS_move rfl))) rfl rfl (Pend_skip (by kernel_rfl) (Pend_skip (by kernel_rfl) (Pend_skip (by kernel_rfl) (Pend_skip (by kernel_rfl) Pend_nil))))))))
  refine Plan_float 9 rfl rfl (by kernel_rfl) (OK_s (EX_s (PS_assign rfl))) ?_
  refine Plan_float 10 rfl rfl (by kernel_rfl) (OK_s (EX_s (PS_assign rfl))) ?_
  refine Plan_end (by kernel_rfl) ?_
  refine GQ_sub (.cons (k := 6) rfl (.cons (k := 7) rfl (.cons (k := 8) rfl (.nil _)))) ?_
  refine GQ_then ?_
  refine G_ret ?_
  refine GQ_ret rfl (.cell rfl (.tail _ (.tail _ (.head _))) (.inl ⟨(by rw [Land.fl.len]; exact tya34), rfl⟩) (.tmp rfl (.tmp rfl .nil))) ?_
  intro w1 hS
  have hS := (hS.perm (Pulls.perm (.cons (.tail .head) .nil))).headL
  have ha : Turn.act (⟨X, b, []⟩ : Turn) o = _ := ((if_f c4).trans ((if_f c5).trans ((if_f c6).trans ((if_f c7).trans (if_t c8)))))
  have hq : Turn.doR X b o = ((Turn.act (⟨X, b, []⟩ : Turn) o).w, (Turn.act (⟨X, b, []⟩ : Turn) o).out, 0) := ((if_f c1).trans ((if_f c2).trans (if_f c3)))
  rw [ha] at hq
  refine ⟨_, ⟨?gq8, ?hv8, ?hl8, ?hB8⟩, hS⟩
  case hB8 => rw [hq]; (try rfl)
  case hv8 => rw [hq]; (try rfl)
  case hl8 => rw [hq]; (try dsimp only); exact y27
 have c8p := kz c8
 refine G_seq ?_
 refine G_region ?_
 refine GL_step rfl (PS_fieldAddr fa36_0 rfl) ?_
 refine GL_step rfl (PS_load rfl tys3 (.tail _ (.tail _ (.head _))) Order.l0 rfl rfl) ?_
 refine GL_step rfl (PS_eql rfl rfl) ?_
 refine GL_step rfl (PS_assign rfl) ?_
 refine GL_nil ?_
 refine GQ_sub (.cons (k := 5) rfl (.cons (k := 6) rfl (.cons (k := 9) rfl (.cons (k := 89) rfl (.nil _))))) ?_
 refine GQ_then ?_
 refine G_cond rfl (fun c9 => ?_) (fun c9 => ?_)
 ·
  have c9p := kz c9
  refine G_region ?_
  refine GL_step rfl (PS_move rfl) ?_
  refine GL_step rfl (PS_loadA rfl tya36 (.tail _ (.tail _ (.head _))) (Lens.id Order.fl.len Order.fl.one) rfl) ?_
  refine GL_nilF Ing.Event.enc 48 16 ?_
  refine GL_callR rfl cf19 (.cons rfl (.cons rfl .nil)) (.cons (.tail .head) (.cons .head .nil)) (rules_turn_fight_spec _ (⟨X, b, []⟩ : Turn) _ o rfl hF hm (Nat.zero_le _)) (fun w hS => ⟨gl1.pull gm1 hS (.cons (.tail .head) (.cons .head .nil)), gl2.pull gm2 hS (.cons (.tail .head) (.cons .head .nil))⟩) (fun v29 B hv => ?_)
  obtain ⟨y30, rfl, y31, rfl⟩ := hv
  refine GL_nil ?_
  refine GQ_sub (.cons (k := 6) rfl (.cons (k := 9) rfl (.nil _))) ?_
  refine GQ_block ?_
  refine GQ_then ?_
  refine G_seq ?_
  refine G_planN (N := 11) [0, 1, 3, 7, 0, 16, 48, 112, 15, 511, 1023] mix (by kernel_rfl) rfl ?_
  refine Plan_float 0 rfl rfl (by kernel_rfl) (OK_s (EX_s (PS_move rfl))) ?_
  refine Plan_float 1 rfl rfl (by kernel_rfl) (OK_s (EX_s (PS_nilCheck rfl))) ?_
  refine Plan_float 2 rfl rfl (by kernel_rfl) (OK_s (EX_s (PS_fieldAddr fa55_0 rfl))) ?_
  refine Plan_float 3 rfl rfl (by kernel_rfl) (OK_s (EX_s (PS_loadA rfl tya34 (.head _) TurnV.l0 rfl))) ?_
  refine Plan_float 4 rfl rfl (by kernel_rfl) (OK_s (EX_s (PS_move rfl))) ?_
  refine Plan_float 5 rfl rfl (by kernel_rfl) (OK_s (EX_s (PS_nilCheck rfl))) ?_
  refine Plan_float 6 rfl rfl (by kernel_rfl) (OK_s (EX_s (PS_fieldAddr fa55_2 rfl))) ?_
  refine Plan_float 7 rfl rfl (by kernel_rfl) (OK_s (EX_s (PS_load rfl tys37 (.head _) TurnV.l2 rfl rfl))) ?_
  refine Plan_chain 8 rfl (by kernel_rfl) ?_
  refine GL_unit (PU_store (Lens.id Land.fl.len Land.fl.one) rfl rfl rfl sz34 rfl (.tail (.tail .head))) ?_
  refine GL_hand0 rfl ⟨?_, ?_⟩
  · exact (Pend_okv rfl (OK_s (EX_s (PS_load rfl tys37 (.head _) TurnV.l2 rfl rfl))) rfl rfl (Pend_okv rfl (OK_s (EX_s (PS_fieldAddr fa55_2 rfl))) rfl rfl (Pend_okv rfl (OK_s (EX_s (PS_nilCheck rfl))) rfl rfl (Pend_okv rfl (OK_s (EX_s (PS_move rfl))) rfl rfl (Pend_skip (by kernel_rfl) (Pend_skip (by kernel_rfl) (Pend_skip (by kernel_rfl) (Pend_skip (by kernel_rfl) Pend_nil))))))))
  refine Plan_float 9 rfl rfl (by kernel_rfl) (OK_s (EX_s (PS_assign rfl))) ?_
  refine Plan_float 10 rfl rfl (by kernel_rfl) (OK_s (EX_s (PS_assign rfl))) ?_
  refine Plan_end (by kernel_rfl) ?_
  refine GQ_sub (.cons (k := 6) rfl (.cons (k := 7) rfl (.cons (k := 8) rfl (.nil _)))) ?_
  refine GQ_then ?_
  refine G_ret ?_
  refine GQ_ret rfl (.cell rfl (.tail _ (.tail _ (.head _))) (.inl ⟨(by rw [Land.fl.len]; exact tya34), rfl⟩) (.tmp rfl (.tmp rfl .nil))) ?_
  intro w1 hS
  have hS := (hS.perm (Pulls.perm (.cons (.tail .head) .nil))).headL
  have ha : Turn.act (⟨X, b, []⟩ : Turn) o = _ := ((if_f c4).trans ((if_f c5).trans ((if_f c6).trans ((if_f c7).trans ((if_f c8).trans (if_t c9))))))
  have hq : Turn.doR X b o = ((Turn.act (⟨X, b, []⟩ : Turn) o).w, (Turn.act (⟨X, b, []⟩ : Turn) o).out, 0) := ((if_f c1).trans ((if_f c2).trans (if_f c3)))
  rw [ha] at hq
  refine ⟨_, ⟨?gq9, ?hv9, ?hl9, ?hB9⟩, hS⟩
  case hB9 => rw [hq]; (try rfl)
  case hv9 => rw [hq]; (try rfl)
  case hl9 => rw [hq]; (try dsimp only); exact y31
 have c9p := kz c9
 refine G_seq ?_
 refine G_region ?_
 refine GL_step rfl (PS_fieldAddr fa36_0 rfl) ?_
 refine GL_step rfl (PS_load rfl tys3 (.tail _ (.tail _ (.head _))) Order.l0 rfl rfl) ?_
 refine GL_step rfl (PS_eql rfl rfl) ?_
 refine GL_step rfl (PS_assign rfl) ?_
 refine GL_nil ?_
 refine GQ_sub (.cons (k := 5) rfl (.cons (k := 6) rfl (.cons (k := 9) rfl (.cons (k := 96) rfl (.nil _))))) ?_
 refine GQ_then ?_
 refine G_cond rfl (fun c10 => ?_) (fun c10 => ?_)
 ·
  have c10p := kz c10
  refine G_region ?_
  refine GL_step rfl (PS_move rfl) ?_
  refine GL_step rfl (PS_loadA rfl tya36 (.tail _ (.tail _ (.head _))) (Lens.id Order.fl.len Order.fl.one) rfl) ?_
  refine GL_nilF Ing.Event.enc 48 16 ?_
  refine GL_callR rfl cf20 (.cons rfl (.cons rfl .nil)) (.cons (.tail .head) (.cons .head .nil)) (rules_turn_get_spec _ (⟨X, b, []⟩ : Turn) _ o rfl hF hu (Nat.zero_le _)) (fun w hS => ⟨gl1.pull gm1 hS (.cons (.tail .head) (.cons .head .nil)), gl2.pull gm2 hS (.cons (.tail .head) (.cons .head .nil))⟩) (fun v33 B hv => ?_)
  obtain ⟨y34, rfl, y35, rfl⟩ := hv
  refine GL_nil ?_
  refine GQ_sub (.cons (k := 6) rfl (.cons (k := 9) rfl (.nil _))) ?_
  refine GQ_block ?_
  refine GQ_then ?_
  refine G_seq ?_
  refine G_planN (N := 11) [0, 1, 3, 7, 0, 16, 48, 112, 15, 511, 1023] mix (by kernel_rfl) rfl ?_
  refine Plan_float 0 rfl rfl (by kernel_rfl) (OK_s (EX_s (PS_move rfl))) ?_
  refine Plan_float 1 rfl rfl (by kernel_rfl) (OK_s (EX_s (PS_nilCheck rfl))) ?_
  refine Plan_float 2 rfl rfl (by kernel_rfl) (OK_s (EX_s (PS_fieldAddr fa55_0 rfl))) ?_
  refine Plan_float 3 rfl rfl (by kernel_rfl) (OK_s (EX_s (PS_loadA rfl tya34 (.head _) TurnV.l0 rfl))) ?_
  refine Plan_float 4 rfl rfl (by kernel_rfl) (OK_s (EX_s (PS_move rfl))) ?_
  refine Plan_float 5 rfl rfl (by kernel_rfl) (OK_s (EX_s (PS_nilCheck rfl))) ?_
  refine Plan_float 6 rfl rfl (by kernel_rfl) (OK_s (EX_s (PS_fieldAddr fa55_2 rfl))) ?_
  refine Plan_float 7 rfl rfl (by kernel_rfl) (OK_s (EX_s (PS_load rfl tys37 (.head _) TurnV.l2 rfl rfl))) ?_
  refine Plan_chain 8 rfl (by kernel_rfl) ?_
  refine GL_unit (PU_store (Lens.id Land.fl.len Land.fl.one) rfl rfl rfl sz34 rfl (.tail (.tail .head))) ?_
  refine GL_hand0 rfl ⟨?_, ?_⟩
  · exact (Pend_okv rfl (OK_s (EX_s (PS_load rfl tys37 (.head _) TurnV.l2 rfl rfl))) rfl rfl (Pend_okv rfl (OK_s (EX_s (PS_fieldAddr fa55_2 rfl))) rfl rfl (Pend_okv rfl (OK_s (EX_s (PS_nilCheck rfl))) rfl rfl (Pend_okv rfl (OK_s (EX_s (PS_move rfl))) rfl rfl (Pend_skip (by kernel_rfl) (Pend_skip (by kernel_rfl) (Pend_skip (by kernel_rfl) (Pend_skip (by kernel_rfl) Pend_nil))))))))
  refine Plan_float 9 rfl rfl (by kernel_rfl) (OK_s (EX_s (PS_assign rfl))) ?_
  refine Plan_float 10 rfl rfl (by kernel_rfl) (OK_s (EX_s (PS_assign rfl))) ?_
  refine Plan_end (by kernel_rfl) ?_
  refine GQ_sub (.cons (k := 6) rfl (.cons (k := 7) rfl (.cons (k := 8) rfl (.nil _)))) ?_
  refine GQ_then ?_
  refine G_ret ?_
  refine GQ_ret rfl (.cell rfl (.tail _ (.tail _ (.head _))) (.inl ⟨(by rw [Land.fl.len]; exact tya34), rfl⟩) (.tmp rfl (.tmp rfl .nil))) ?_
  intro w1 hS
  have hS := (hS.perm (Pulls.perm (.cons (.tail .head) .nil))).headL
  have ha : Turn.act (⟨X, b, []⟩ : Turn) o = _ := ((if_f c4).trans ((if_f c5).trans ((if_f c6).trans ((if_f c7).trans ((if_f c8).trans ((if_f c9).trans (if_t c10)))))))
  have hq : Turn.doR X b o = ((Turn.act (⟨X, b, []⟩ : Turn) o).w, (Turn.act (⟨X, b, []⟩ : Turn) o).out, 0) := ((if_f c1).trans ((if_f c2).trans (if_f c3)))
  rw [ha] at hq
  refine ⟨_, ⟨?gq10, ?hv10, ?hl10, ?hB10⟩, hS⟩
  case hB10 => rw [hq]; (try rfl)
  case hv10 => rw [hq]; (try rfl)
  case hl10 => rw [hq]; (try dsimp only); exact y35
 have c10p := kz c10
 refine G_seq ?_
 refine G_region ?_
 refine GL_step rfl (PS_fieldAddr fa36_0 rfl) ?_
 refine GL_step rfl (PS_load rfl tys3 (.tail _ (.tail _ (.head _))) Order.l0 rfl rfl) ?_
 refine GL_step rfl (PS_eql rfl rfl) ?_
 refine GL_step rfl (PS_move rfl) ?_
 refine GL_gf (t := 107) rfl rfl rfl (fun q => PS_fieldAddr fa36_0 rfl) ?_
 refine GL_gf (t := 107) rfl rfl rfl (fun q => PS_load (cvE rfl (by rw [q]; rfl)) tys3 (.tail _ (.tail _ (.head _))) Order.l0 rfl rfl) ?_
 refine GL_gf (t := 107) rfl rfl rfl (fun q => PS_eql (cvE rfl (by rw [q]; rfl)) rfl) ?_
 refine GL_step rfl (PS_or rfl rfl (fun h => by rw [h]; rfl)) ?_
 refine GL_step rfl (PS_move rfl) ?_
 refine GL_gf (t := 112) rfl rfl rfl (fun q => PS_fieldAddr fa36_0 rfl) ?_
 refine GL_gf (t := 112) rfl rfl rfl (fun q => PS_load (cvE rfl (by rw [q]; rfl)) tys3 (.tail _ (.tail _ (.head _))) Order.l0 rfl rfl) ?_
 refine GL_gf (t := 112) rfl rfl rfl (fun q => PS_eql (cvE rfl (by rw [q]; rfl)) rfl) ?_
 refine GL_step rfl (PS_or rfl rfl (fun h => by rw [h]; rfl)) ?_
 refine GL_step rfl (PS_assign rfl) ?_
 refine GL_nil ?_
 refine GQ_sub (.cons (k := 5) rfl (.cons (k := 6) rfl (.cons (k := 9) rfl (.cons (k := 103) rfl (.nil _))))) ?_
 refine GQ_then ?_
 refine G_cond rfl (fun c11 => ?_) (fun c11 => ?_)
 ·
  have c11p := kz c11
  refine G_region ?_
  refine GL_step rfl (PS_move rfl) ?_
  refine GL_step rfl (PS_loadA rfl tya36 (.tail _ (.tail _ (.head _))) (Lens.id Order.fl.len Order.fl.one) rfl) ?_
  refine GL_nilF Ing.Event.enc 48 16 ?_
  refine GL_callR rfl cf21 (.cons rfl (.cons rfl .nil)) (.cons (.tail .head) (.cons .head .nil)) (rules_turn_let_spec _ (⟨X, b, []⟩ : Turn) _ o rfl hF (by omega) hu (Nat.zero_le _)) (fun w hS => ⟨gl1.pull gm1 hS (.cons (.tail .head) (.cons .head .nil)), gl2.pull gm2 hS (.cons (.tail .head) (.cons .head .nil))⟩) (fun v37 B hv => ?_)
  obtain ⟨y38, rfl, y39, rfl⟩ := hv
  refine GL_nil ?_
  refine GQ_sub (.cons (k := 6) rfl (.cons (k := 9) rfl (.nil _))) ?_
  refine GQ_block ?_
  refine GQ_then ?_
  refine G_seq ?_
  refine G_planN (N := 11) [0, 1, 3, 7, 0, 16, 48, 112, 15, 511, 1023] mix (by kernel_rfl) rfl ?_
  refine Plan_float 0 rfl rfl (by kernel_rfl) (OK_s (EX_s (PS_move rfl))) ?_
  refine Plan_float 1 rfl rfl (by kernel_rfl) (OK_s (EX_s (PS_nilCheck rfl))) ?_
  refine Plan_float 2 rfl rfl (by kernel_rfl) (OK_s (EX_s (PS_fieldAddr fa55_0 rfl))) ?_
  refine Plan_float 3 rfl rfl (by kernel_rfl) (OK_s (EX_s (PS_loadA rfl tya34 (.head _) TurnV.l0 rfl))) ?_
  refine Plan_float 4 rfl rfl (by kernel_rfl) (OK_s (EX_s (PS_move rfl))) ?_
  refine Plan_float 5 rfl rfl (by kernel_rfl) (OK_s (EX_s (PS_nilCheck rfl))) ?_
  refine Plan_float 6 rfl rfl (by kernel_rfl) (OK_s (EX_s (PS_fieldAddr fa55_2 rfl))) ?_
  refine Plan_float 7 rfl rfl (by kernel_rfl) (OK_s (EX_s (PS_load rfl tys37 (.head _) TurnV.l2 rfl rfl))) ?_
  refine Plan_chain 8 rfl (by kernel_rfl) ?_
  refine GL_unit (PU_store (Lens.id Land.fl.len Land.fl.one) rfl rfl rfl sz34 rfl (.tail (.tail .head))) ?_
  refine GL_hand0 rfl ⟨?_, ?_⟩
  · exact (Pend_okv rfl (OK_s (EX_s (PS_load rfl tys37 (.head _) TurnV.l2 rfl rfl))) rfl rfl (Pend_okv rfl (OK_s (EX_s (PS_fieldAddr fa55_2 rfl))) rfl rfl (Pend_okv rfl (OK_s (EX_s (PS_nilCheck rfl))) rfl rfl (Pend_okv rfl (OK_s (EX_s (PS_move rfl))) rfl rfl (Pend_skip (by kernel_rfl) (Pend_skip (by kernel_rfl) (Pend_skip (by kernel_rfl) (Pend_skip (by kernel_rfl) Pend_nil))))))))
  refine Plan_float 9 rfl rfl (by kernel_rfl) (OK_s (EX_s (PS_assign rfl))) ?_
  refine Plan_float 10 rfl rfl (by kernel_rfl) (OK_s (EX_s (PS_assign rfl))) ?_
  refine Plan_end (by kernel_rfl) ?_
  refine GQ_sub (.cons (k := 6) rfl (.cons (k := 7) rfl (.cons (k := 8) rfl (.nil _)))) ?_
  refine GQ_then ?_
  refine G_ret ?_
  refine GQ_ret rfl (.cell rfl (.tail _ (.tail _ (.head _))) (.inl ⟨(by rw [Land.fl.len]; exact tya34), rfl⟩) (.tmp rfl (.tmp rfl .nil))) ?_
  intro w1 hS
  have hS := (hS.perm (Pulls.perm (.cons (.tail .head) .nil))).headL
  have ha : Turn.act (⟨X, b, []⟩ : Turn) o = _ := ((if_f c4).trans ((if_f c5).trans ((if_f c6).trans ((if_f c7).trans ((if_f c8).trans ((if_f c9).trans ((if_f c10).trans (if_t c11))))))))
  have hq : Turn.doR X b o = ((Turn.act (⟨X, b, []⟩ : Turn) o).w, (Turn.act (⟨X, b, []⟩ : Turn) o).out, 0) := ((if_f c1).trans ((if_f c2).trans (if_f c3)))
  rw [ha] at hq
  refine ⟨_, ⟨?gq11, ?hv11, ?hl11, ?hB11⟩, hS⟩
  case hB11 => rw [hq]; (try rfl)
  case hv11 => rw [hq]; (try rfl)
  case hl11 => rw [hq]; (try dsimp only); exact y39
 have c11p := kz c11
 refine G_region ?_
 refine GL_step rfl (PS_move rfl) ?_
 refine GL_step rfl (PS_loadA rfl tya36 (.tail _ (.tail _ (.head _))) (Lens.id Order.fl.len Order.fl.one) rfl) ?_
 refine GL_nilF Ing.Event.enc 48 16 ?_
 refine GL_callR rfl cf22 (.cons rfl (.cons rfl .nil)) (.cons (.tail .head) (.cons .head .nil)) (rules_turn_set_spec _ (⟨X, b, []⟩ : Turn) _ o rfl hF (by omega) (Nat.zero_le _)) (fun w hS => gl0.pull gm0 hS (.cons (.tail .head) (.cons .head .nil))) (fun v41 B hv => ?_)
 obtain ⟨y42, rfl, y43, rfl⟩ := hv
 refine GL_nil ?_
 refine GQ_sub (.cons (k := 6) rfl (.cons (k := 9) rfl (.nil _))) ?_
 refine GQ_block ?_
 refine GQ_then ?_
 refine G_seq ?_
 refine G_planN (N := 11) [0, 1, 3, 7, 0, 16, 48, 112, 15, 511, 1023] mix (by kernel_rfl) rfl ?_
 refine Plan_float 0 rfl rfl (by kernel_rfl) (OK_s (EX_s (PS_move rfl))) ?_
 refine Plan_float 1 rfl rfl (by kernel_rfl) (OK_s (EX_s (PS_nilCheck rfl))) ?_
 refine Plan_float 2 rfl rfl (by kernel_rfl) (OK_s (EX_s (PS_fieldAddr fa55_0 rfl))) ?_
 refine Plan_float 3 rfl rfl (by kernel_rfl) (OK_s (EX_s (PS_loadA rfl tya34 (.head _) TurnV.l0 rfl))) ?_
 refine Plan_float 4 rfl rfl (by kernel_rfl) (OK_s (EX_s (PS_move rfl))) ?_
 refine Plan_float 5 rfl rfl (by kernel_rfl) (OK_s (EX_s (PS_nilCheck rfl))) ?_
 refine Plan_float 6 rfl rfl (by kernel_rfl) (OK_s (EX_s (PS_fieldAddr fa55_2 rfl))) ?_
 refine Plan_float 7 rfl rfl (by kernel_rfl) (OK_s (EX_s (PS_load rfl tys37 (.head _) TurnV.l2 rfl rfl))) ?_
 refine Plan_chain 8 rfl (by kernel_rfl) ?_
 refine GL_unit (PU_store (Lens.id Land.fl.len Land.fl.one) rfl rfl rfl sz34 rfl (.tail (.tail .head))) ?_
 refine GL_hand0 rfl ⟨?_, ?_⟩
 · exact (Pend_okv rfl (OK_s (EX_s (PS_load rfl tys37 (.head _) TurnV.l2 rfl rfl))) rfl rfl (Pend_okv rfl (OK_s (EX_s (PS_fieldAddr fa55_2 rfl))) rfl rfl (Pend_okv rfl (OK_s (EX_s (PS_nilCheck rfl))) rfl rfl (Pend_okv rfl (OK_s (EX_s (PS_move rfl))) rfl rfl (Pend_skip (by kernel_rfl) (Pend_skip (by kernel_rfl) (Pend_skip (by kernel_rfl) (Pend_skip (by kernel_rfl) Pend_nil))))))))
 refine Plan_float 9 rfl rfl (by kernel_rfl) (OK_s (EX_s (PS_assign rfl))) ?_
 refine Plan_float 10 rfl rfl (by kernel_rfl) (OK_s (EX_s (PS_assign rfl))) ?_
 refine Plan_end (by kernel_rfl) ?_
 refine GQ_sub (.cons (k := 6) rfl (.cons (k := 7) rfl (.cons (k := 8) rfl (.nil _)))) ?_
 refine GQ_then ?_
 refine G_ret ?_
 refine GQ_ret rfl (.cell rfl (.tail _ (.tail _ (.head _))) (.inl ⟨(by rw [Land.fl.len]; exact tya34), rfl⟩) (.tmp rfl (.tmp rfl .nil))) ?_
 intro w1 hS
 have hS := (hS.perm (Pulls.perm (.cons (.tail .head) .nil))).headL
 have ha : Turn.act (⟨X, b, []⟩ : Turn) o = _ := ((if_f c4).trans ((if_f c5).trans ((if_f c6).trans ((if_f c7).trans ((if_f c8).trans ((if_f c9).trans ((if_f c10).trans (if_f c11))))))))
 have hq : Turn.doR X b o = ((Turn.act (⟨X, b, []⟩ : Turn) o).w, (Turn.act (⟨X, b, []⟩ : Turn) o).out, 0) := ((if_f c1).trans ((if_f c2).trans (if_f c3)))
 rw [ha] at hq
 refine ⟨_, ⟨?gq12, ?hv12, ?hl12, ?hB12⟩, hS⟩
 case hB12 => rw [hq]; (try rfl)
 case hv12 => rw [hq]; (try rfl)
 case hl12 => rw [hq]; (try dsimp only); exact y43
theorem keep_acts_spec  (w : World) (gl0 : GV 0 Land.verbsV w) (gl1 : GVE 3 w) (gl2 : GVE 4 w) : Ret Tryd.prog 8 #[] w fun v w' => v = .bool true ∧ Keep w w' := by
 refine Ret_body [] [] Tryd.func8 rfl rfl rfl (St.start w []) ?_
 refine G_seq ?_
 refine G_region ?_
 refine GL_step rfl (PS_assign rfl) ?_
 refine GL_nil ?_
 refine GQ_sub (.nil _) ?_
 refine GQ_then ?_
 refine G_seq ?_
 refine G_region ?_
 refine GL_pure rfl cf23 .nil (fun w hS => land_New_spec w) ?_
 refine GL_step rfl (PS_build pl36 zv36 rfl (.cons Order.l0 rfl rfl rfl (.cons Order.l1 rfl rfl rfl (.cons Order.l3 rfl rfl rfl .nil)))) ?_
 refine GL_callR rfl cf7 (.cons rfl (.cons rfl (.cons rfl .nil))) .nil (rules_Do_spec Land.new 0 Turn.mugO Land.new_brief (by decide) (by decide)) (fun w hS => ⟨gl0.pull (by simp) hS .nil, gl1.pull (by simp) hS .nil, gl2.pull (by simp) hS .nil⟩) (fun v1 B hv => ?_)
 obtain ⟨y2, rfl, y3, rfl⟩ := hv
 refine GL_step rfl (PS_move rfl) ?_
 refine GL_step rfl (PS_extract rfl rfl) ?_
 refine GL_step rfl (PS_extract rfl rfl) ?_
 refine GL_step rfl (PS_extract rfl rfl) ?_
 refine GL_alloc rfl zv34 rfl (fun b1 => ?_)
 refine GL_unit (PU_store (Lens.id Land.fl.len Land.fl.one) rfl rfl rfl sz34 rfl .head) ?_
 refine GL_step rfl (PS_assign rfl) ?_
 refine GL_step rfl (PS_assign rfl) ?_
 refine GL_nil ?_
 refine GQ_sub (.cons (k := 1) rfl (.cons (k := 2) rfl (.cons (k := 3) rfl (.nil _)))) ?_
 refine GQ_then ?_
 refine G_seq ?_
 refine G_region ?_
 refine GL_step rfl (PS_move rfl) ?_
 refine GL_step rfl (PS_eql rfl rfl) ?_
 refine GL_step rfl (PS_move rfl) ?_
 refine GL_gt (t := 13) rfl rfl rfl (fun q => PS_move rfl) ?_
 refine GL_gt (t := 13) rfl rfl rfl (fun q => PS_len_slice rfl Tryd.underlying37 (cvE rfl q)) ?_
 refine GL_gt (t := 13) rfl rfl rfl (fun q => PS_eql (cvE rfl q) rfl) ?_
 refine GL_step rfl (PS_and rfl rfl (fun h => h)) ?_
 refine GL_step rfl (PS_move rfl) ?_
 refine GL_gt (t := 18) rfl rfl rfl (fun q => PS_move rfl) ?_
 refine GL_gt (t := 18) rfl rfl rfl (fun q => by have q1 := q; (try simp at q1); exact PS_idxS is37 (by decide) (Kn.own (.tail _ (.head _))) (cvE rfl q) rfl (by omega) (by omega)) ?_
 refine GL_gt (t := 18) rfl rfl rfl (fun q => PS_fldS fa48_0 (cvE rfl q)) ?_
 refine GL_gt (t := 18) rfl rfl rfl (fun q => by have q1 := q; (try simp at q1); exact PS_ldF (cvE rfl q) tys3 Ing.Event.fl Ing.Event.l0 (Kn.own (.tail _ (.head _))) (by omega) rfl) ?_
 refine GL_gt (t := 18) rfl rfl rfl (fun q => PS_eql (cvE rfl q) rfl) ?_
 refine GL_step rfl (PS_and rfl rfl (fun h => h)) ?_
 refine GL_step rfl (PS_move rfl) ?_
 refine GL_gt (t := 25) rfl rfl rfl (fun q => PS_fieldAddr fa34_1 rfl) ?_
 refine GL_gt (t := 25) rfl rfl rfl (fun q => PS_indexAddr ia29 (cvE rfl q) rfl (by decide) (by decide)) ?_
 refine GL_gt (t := 25) rfl rfl rfl (fun q => PS_fieldAddr fa28_2 (cvE rfl q)) ?_
 refine GL_gt (t := 25) rfl rfl rfl (fun q => PS_load (cvE rfl q) tys3 (.head _) ((Land.l1.comp (Lens.arr (n := 9) Thing.fl (by decide) (by decide))).comp Thing.l2) rfl rfl) ?_
 refine GL_gt (t := 25) rfl rfl rfl (fun q => PS_eql (cvE rfl q) rfl) ?_
 refine GL_step rfl (PS_and rfl rfl (fun h => h)) ?_
 refine GL_step rfl (PS_assign rfl) ?_
 refine GL_nil ?_
 refine GQ_sub (.cons (k := 0) rfl (.nil _)) ?_
 refine GQ_then ?_
 refine G_ret ?_
 refine GQ_ret rfl (.tmp rfl .nil) ?_
 intro w1 hS; refine ⟨?_, hS.toKeep⟩; exact congrArg Value.bool (by rw [y3, Turn.mug_0, Turn.mug_1, show (Turn.doR Land.new 0 Turn.mugO).2.1.getD (Int.toNat 0) default = (Turn.doR Land.new 0 Turn.mugO).2.1.getD 0 default from rfl, Turn.mug_2, Turn.mug_3]; rfl)
end Go.Proofs.YthaobbemigbcgaaDoor
