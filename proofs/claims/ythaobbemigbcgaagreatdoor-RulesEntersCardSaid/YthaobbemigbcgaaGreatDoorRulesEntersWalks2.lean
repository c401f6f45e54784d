/- What the functions that the law RulesEnters reaches compute: walks, part 2. No condition. -/
import Derived.Test.YthaobbemigbcgaaGreatDoorCards
import Derived.Test.YthaobbemigbcgaaGreatDoorTie
import Derived.Deep.DeepHandedRow
import Derived.Test.YthaobbemigbcgaaGreatDoorRows
import Derived.Test.YthaobbemigbcgaaGreatDoorRulesEntersEc3
import Derived.Test.YthaobbemigbcgaaGreatDoorRulesEntersRa1
import Derived.Test.YthaobbemigbcgaaGreatDoorRulesEntersRb1
import Derived.Test.YthaobbemigbcgaaGreatDoorRulesEntersWalks
set_option linter.unusedSimpArgs false
set_option linter.unusedVariables false
set_option maxRecDepth 100000
set_option maxHeartbeats 1000000
namespace Go.Proofs.YthaobbemigbcgaaGreatDoor
open Go Go.Ing Go.RowKit Go.ChangeShapes Go.WideShapes Go.ChangeAt
theorem ref_GoodLand_spec (X : Land) (w : World) : Ret Tryz.prog 19 #[.agg X.enc.toArray] w fun v w' => v = .bool X.refGood ∧ Keep w w' := by
 refine Ret_body [] [] Tryz.func19 rfl rfl rfl (St.start w []) ?_
 refine G_seq ?_
 refine G_region ?_
 refine GL_box rfl rfl rfl (fun b1 => ?_)
 refine GL_step rfl (PS_assign rfl) ?_
 refine GL_nil ?_
 refine GQ_sub (.cons (k := 1) rfl (.nil _)) ?_
 refine GQ_then ?_
 refine G_seq ?_
 refine G_seq ?_
 refine G_region ?_
 refine GL_step rfl (PS_fieldAddr fa34_0 rfl) ?_
 refine GL_step rfl (PS_loadA rfl tya26 (.head _) Land.l0 rfl) ?_
 refine GL_step rfl (PS_move rfl) ?_
 refine GL_nil ?_
 refine GQ_sub (.cons (k := 1) rfl (.cons (k := 15) rfl (.cons (k := 16) rfl (.nil _)))) ?_
 refine GQ_then ?_
 refine G_block ?_
 refine G_subF (.cons (k := 16) rfl (.cons (k := 1) rfl (.cons (k := 15) rfl (.nil _)))) ?_
 refine G_loop1_ (fun (k : Int) => 0 ≤ k ∧ k ≤ 6 ∧ X.refGood = (allFrom 6 X.refRoom (6 - k).toNat && (allFrom 6 (fun k => !Land.refBadBeing (X.beings.at k)) 6 && allFrom 9 X.refThing 9))) (fun (k : Int) => (6 - k).toNat) (fun (k : Int) => [(16, .int .i64 k)]) (fun (k : Int) => []) (0) ?_ rfl rfl (fun k hI1 => ?_)
 · exact ⟨Int.le_refl _, by omega, rfl⟩
 obtain ⟨hI11, hI12, hI13⟩ := hI1
 refine G_seq ?_
 refine G_region ?_
 refine GL_step rfl (PS_lss rfl rfl) ?_
 refine GL_nil ?_
 refine GQ_then ?_
 refine G_seq ?_
 refine G_cond rfl (fun c1 => ?_) (fun c1 => ?_)
 ·
  have c1p := kz c1
  try dsimp only at c1p
  rw [allFrom_step _ (by omega)] at hI13
  refine G_skip ?_
  refine GQ_sub (.cons (k := 1) rfl (.cons (k := 15) rfl (.cons (k := 16) rfl (.nil _)))) ?_
  refine GQ_then ?_
  refine G_seq ?_
  refine G_block ?_
  refine G_seq ?_
  refine G_region ?_
  refine GL_step rfl (PS_indexAA Room.fl Tryz.underlying26 tya25 rfl rfl (by omega) (by omega)) ?_
  refine GL_alloc rfl zv25 rfl (fun b2 => ?_)
  refine GL_unit (PU_store (Lens.id Room.fl.len Room.fl.one) rfl rfl rfl sz25 rfl .head) ?_
  refine GL_nil ?_
  refine GQ_sub (.cons (k := 1) rfl (.cons (k := 4) rfl (.cons (k := 15) rfl (.cons (k := 16) rfl (.nil _))))) ?_
  refine GQ_then ?_
  refine G_seq ?_
  refine G_region ?_
  refine GL_step rfl (PS_move rfl) ?_
  refine GL_nil ?_
  refine GQ_then ?_
  refine G_block ?_
  refine G_subF (.cons (k := 19) rfl (.cons (k := 1) rfl (.cons (k := 4) rfl (.cons (k := 15) rfl (.cons (k := 16) rfl (.nil _)))))) ?_
  refine G_loop1_ (fun (d : Int) => 0 ≤ d ∧ d ≤ 6 ∧ X.refRoom k = allFrom 6 (fun d => !Land.refBadExit (X.rooms.at k) d) (6 - d).toNat) (fun (d : Int) => (6 - d).toNat) (fun (d : Int) => [(19, .int .i64 d)]) (fun (d : Int) => []) (0) ?_ rfl rfl (fun d hI2 => ?_)
  · exact ⟨Int.le_refl _, by omega, rfl⟩
  obtain ⟨hI21, hI22, hI23⟩ := hI2
  refine G_seq ?_
  refine G_region ?_
  refine GL_step rfl (PS_lss rfl rfl) ?_
  refine GL_nil ?_
  refine GQ_then ?_
  refine G_seq ?_
  refine G_cond rfl (fun c2 => ?_) (fun c2 => ?_)
  ·
   have c2p := kz c2
   try dsimp only at c2p
   rw [allFrom_step _ (by omega)] at hI23
   refine G_skip ?_
   refine GQ_sub (.cons (k := 1) rfl (.cons (k := 4) rfl (.cons (k := 15) rfl (.cons (k := 16) rfl (.cons (k := 19) rfl (.nil _)))))) ?_
   refine GQ_then ?_
   refine G_seq ?_
   refine G_block ?_
   refine G_seq ?_
   refine G_region ?_
   refine GL_step rfl (PS_move rfl) ?_
   refine GL_step rfl (PS_assign rfl) ?_
   refine GL_nil ?_
   refine GQ_sub (.cons (k := 1) rfl (.cons (k := 4) rfl (.cons (k := 5) rfl (.cons (k := 15) rfl (.cons (k := 16) rfl (.cons (k := 19) rfl (.nil _))))))) ?_
   refine GQ_then ?_
   refine G_seq ?_
   refine G_region ?_
   refine GL_step rfl (PS_move rfl) ?_
   refine GL_step rfl (PS_fieldAddr fa25_2 rfl) ?_
   refine GL_step rfl (PS_indexAddr ia22 rfl rfl (by omega) (by omega)) ?_
   refine GL_step rfl (PS_load rfl tys3 (.head _) (Room.l2.comp (Lens.arr (n := 6) flI (by omega) (by omega))) rfl rfl) ?_
   refine GL_step rfl (PS_lss rfl rfl) ?_
   refine GL_step rfl (PS_move rfl) ?_
   refine GL_gf (t := 27) rfl rfl rfl (fun q => PS_move rfl) ?_
   refine GL_gf (t := 27) rfl rfl rfl (fun q => PS_fieldAddr fa25_2 rfl) ?_
   refine GL_gf (t := 27) rfl rfl rfl (fun q => by have q1 := q; (try simp at q1); exact PS_indexAddr ia22 (cvE rfl (by rw [q]; rfl)) (cvE rfl (by rw [q]; rfl)) (by omega) (by omega)) ?_
   refine GL_gf (t := 27) rfl rfl rfl (fun q => by have q1 := q; (try simp at q1); exact PS_load (cvE rfl (by rw [q]; rfl)) tys3 (.head _) (Room.l2.comp (Lens.arr (n := 6) flI (by omega) (by omega))) rfl rfl) ?_
   refine GL_gf (t := 27) rfl rfl rfl (fun q => PS_gtr (cvE rfl (by rw [q]; rfl)) rfl) ?_
   refine GL_step rfl (PS_or rfl rfl (fun h => by rw [h]; rfl)) ?_
   refine GL_step rfl (PS_move rfl) ?_
   refine GL_gf (t := 34) rfl rfl rfl (fun q => PS_move rfl) ?_
   refine GL_gf (t := 34) rfl rfl rfl (fun q => PS_fieldAddr fa25_3 rfl) ?_
   refine GL_gf (t := 34) rfl rfl rfl (fun q => by have q1 := q; (try simp at q1); exact PS_indexAddr ia23 (cvE rfl (by rw [q]; rfl)) (cvE rfl (by rw [q]; rfl)) (by omega) (by omega)) ?_
   refine GL_gf (t := 34) rfl rfl rfl (fun q => by have q1 := q; (try simp at q1); exact PS_load (cvE rfl (by rw [q]; rfl)) tys4 (.head _) (Room.l3.comp (Lens.arr (n := 6) flB (by omega) (by omega))) rfl rfl) ?_
   refine GL_gf (t := 34) rfl rfl rfl (fun q => PS_move (cvE rfl (by rw [q]; rfl))) ?_
   refine GL_gtc (t := 39) rfl rfl rfl (fun qc q => PS_move rfl) ?_
   refine GL_gtc (t := 39) rfl rfl rfl (fun qc q => PS_fieldAddr fa25_2 rfl) ?_
   refine GL_gtc (t := 39) rfl rfl rfl (fun qc q => by have q1 := q; have qc1 := qc; (try simp at q1 qc1); exact PS_indexAddr ia22 (cvE rfl (by rw [qc, q]; rfl)) (cvE rfl (by rw [qc, q]; rfl)) (by omega) (by omega)) ?_
   refine GL_gtc (t := 39) rfl rfl rfl (fun qc q => by have q1 := q; have qc1 := qc; (try simp at q1 qc1); exact PS_load (cvE rfl (by rw [qc, q]; rfl)) tys3 (.head _) (Room.l2.comp (Lens.arr (n := 6) flI (by omega) (by omega))) rfl rfl) ?_
   refine GL_gtc (t := 39) rfl rfl rfl (fun qc q => PS_eql (cvE rfl (by rw [qc, q]; rfl)) rfl) ?_
   refine GL_gf (t := 34) rfl rfl rfl (fun q => PS_and (cvE rfl (by rw [q]; rfl)) rfl (fun h => by rw [q, h]; rfl)) ?_
   refine GL_step rfl (PS_or rfl rfl (fun h => by rw [h]; rfl)) ?_
   refine GL_nil ?_
   refine GQ_sub (.cons (k := 1) rfl (.cons (k := 4) rfl (.cons (k := 15) rfl (.cons (k := 16) rfl (.cons (k := 19) rfl (.cons (k := 46) rfl (.nil _))))))) ?_
   refine GQ_then ?_
   refine G_cond rfl (fun c3 => ?_) (fun c3 => ?_)
   ·
    have c3p := kz c3
    try dsimp only at c3p
    refine G_seq ?_
    refine G_region ?_
    refine GL_step rfl (PS_assign rfl) ?_
    refine GL_nil ?_
    refine GQ_sub (.cons (k := 2) rfl (.nil _)) ?_
    refine GQ_then ?_
    refine G_ret ?_
    refine GQ_block_ret ?_
    refine GQ_then_ret ?_
    refine GQ_then_ret ?_
    refine GQ_block_ret ?_
    refine GQ_block_ret ?_
    refine GQ_then_ret ?_
    refine GQ_then_ret ?_
    refine GQ_block_ret ?_
    refine GQ_then_ret ?_
    refine GQ_ret rfl (.tmp rfl .nil) ?_
    intro w1 hS; refine ⟨congrArg Value.bool ?_, hS.toKeep⟩; rw [hI13, hI23, Land.refBadExit, c3]; rfl
   have c3p := kz c3
   try dsimp only at c3p
   refine G_skip ?_
   refine GQ_sub (.cons (k := 1) rfl (.cons (k := 4) rfl (.cons (k := 15) rfl (.cons (k := 16) rfl (.cons (k := 19) rfl (.nil _)))))) ?_
   refine GQ_block ?_
   refine GQ_then ?_
   refine G_region ?_
   refine GL_step rfl (PS_add rfl rfl (IntWalk.i64_in _ (by omega))) ?_
   refine GL_step rfl (PS_move rfl) ?_
   refine GL_nil ?_
   refine GQ_sub (.cons (k := 1) rfl (.cons (k := 4) rfl (.cons (k := 15) rfl (.cons (k := 16) rfl (.cons (k := 19) rfl (.nil _)))))) ?_
   refine GQ_next1_ (d + 1) ?_ ?_ (.cons (k := 19) rfl (.cons (k := 1) rfl (.cons (k := 4) rfl (.cons (k := 15) rfl (.cons (k := 16) rfl (.nil _)))))) (.refl _)
   · exact ⟨by omega, by omega, by rw [hI23, Land.refBadExit, c3]; rfl⟩
   · omega
  have c2p := kz c2
  try dsimp only at c2p
  obtain rfl : d = 6 := by omega
  refine G_exit ?_
  refine GQ_then_exit ?_
  refine GQ_then_exit ?_
  refine GQ_block_exit ?_
  refine GQ_sub (.cons (k := 1) rfl (.cons (k := 15) rfl (.cons (k := 16) rfl (.nil _)))) ?_
  refine GQ_block ?_
  refine GQ_then ?_
  refine G_region ?_
  refine GL_step rfl (PS_add rfl rfl (IntWalk.i64_in _ (by omega))) ?_
  refine GL_step rfl (PS_move rfl) ?_
  refine GL_nil ?_
  refine GQ_sub (.cons (k := 1) rfl (.cons (k := 15) rfl (.cons (k := 16) rfl (.nil _)))) ?_
  refine GQ_next1_ (k + 1) ?_ ?_ (.cons (k := 16) rfl (.cons (k := 1) rfl (.cons (k := 15) rfl (.nil _)))) (.cons _ (.refl _))
  · exact ⟨by omega, by omega, by rw [hI13, hI23]; rfl⟩
  · omega
 have c1p := kz c1
 try dsimp only at c1p
 obtain rfl : k = 6 := by omega
 refine G_exit ?_
 refine GQ_then_exit ?_
 refine GQ_then_exit ?_
 refine GQ_block_exit ?_
 refine GQ_sub (.cons (k := 1) rfl (.nil _)) ?_
 refine GQ_then ?_
 refine G_seq ?_
 refine G_seq ?_
 refine G_region ?_
 refine GL_step rfl (PS_fieldAddr fa34_2 rfl) ?_
 refine GL_step rfl (PS_loadA rfl tya32 (.head _) Land.l2 rfl) ?_
 refine GL_step rfl (PS_move rfl) ?_
 refine GL_nil ?_
 refine GQ_sub (.cons (k := 1) rfl (.cons (k := 50) rfl (.cons (k := 51) rfl (.nil _)))) ?_
 refine GQ_then ?_
 refine G_block ?_
 refine G_subF (.cons (k := 51) rfl (.cons (k := 1) rfl (.cons (k := 50) rfl (.nil _)))) ?_
 refine G_loop1_ (fun (b : Int) => 0 ≤ b ∧ b ≤ 6 ∧ X.refGood = (allFrom 6 (fun k => !Land.refBadBeing (X.beings.at k)) (6 - b).toNat && allFrom 9 X.refThing 9)) (fun (b : Int) => (6 - b).toNat) (fun (b : Int) => [(51, .int .i64 b)]) (fun (b : Int) => []) (0) ?_ rfl rfl (fun b hI3 => ?_)
 · exact ⟨Int.le_refl _, by omega, hI13⟩
 obtain ⟨hI31, hI32, hI33⟩ := hI3
 refine G_seq ?_
 refine G_region ?_
 refine GL_step rfl (PS_lss rfl rfl) ?_
 refine GL_nil ?_
 refine GQ_then ?_
 refine G_seq ?_
 refine G_cond rfl (fun c4 => ?_) (fun c4 => ?_)
 ·
  have c4p := kz c4
  try dsimp only at c4p
  rw [allFrom_step _ (by omega)] at hI33
  refine G_skip ?_
  refine GQ_sub (.cons (k := 1) rfl (.cons (k := 50) rfl (.cons (k := 51) rfl (.nil _)))) ?_
  refine GQ_then ?_
  refine G_seq ?_
  refine G_block ?_
  refine G_seq ?_
  refine G_region ?_
  refine GL_step rfl (PS_indexAA Being.fl Tryz.underlying32 tya31 rfl rfl (by omega) (by omega)) ?_
  refine GL_alloc rfl zv31 rfl (fun b3 => ?_)
  refine GL_unit (PU_store (Lens.id Being.fl.len Being.fl.one) rfl rfl rfl sz31 rfl .head) ?_
  refine GL_nil ?_
  refine GQ_sub (.cons (k := 1) rfl (.cons (k := 7) rfl (.cons (k := 50) rfl (.cons (k := 51) rfl (.nil _))))) ?_
  refine GQ_then ?_
  refine G_seq ?_
  refine G_region ?_
  refine GL_step rfl (PS_fieldAddr fa31_3 rfl) ?_
  refine GL_step rfl (PS_load rfl tys3 (.head _) Being.l3 rfl rfl) ?_
  refine GL_step rfl (PS_lss rfl rfl) ?_
  refine GL_step rfl (PS_move rfl) ?_
  refine GL_gf (t := 57) rfl rfl rfl (fun q => PS_fieldAddr fa31_3 rfl) ?_
  refine GL_gf (t := 57) rfl rfl rfl (fun q => PS_load (cvE rfl (by rw [q]; rfl)) tys3 (.head _) Being.l3 rfl rfl) ?_
  refine GL_gf (t := 57) rfl rfl rfl (fun q => PS_gtr (cvE rfl (by rw [q]; rfl)) rfl) ?_
  refine GL_step rfl (PS_or rfl rfl (fun h => by rw [h]; rfl)) ?_
  refine GL_step rfl (PS_move rfl) ?_
  refine GL_gf (t := 62) rfl rfl rfl (fun q => PS_fieldAddr fa31_4 rfl) ?_
  refine GL_gf (t := 62) rfl rfl rfl (fun q => PS_load (cvE rfl (by rw [q]; rfl)) tys3 (.head _) Being.l4 rfl rfl) ?_
  refine GL_gf (t := 62) rfl rfl rfl (fun q => PS_lss (cvE rfl (by rw [q]; rfl)) rfl) ?_
  refine GL_step rfl (PS_or rfl rfl (fun h => by rw [h]; rfl)) ?_
  refine GL_step rfl (PS_move rfl) ?_
  refine GL_gf (t := 67) rfl rfl rfl (fun q => PS_fieldAddr fa31_4 rfl) ?_
  refine GL_gf (t := 67) rfl rfl rfl (fun q => PS_load (cvE rfl (by rw [q]; rfl)) tys3 (.head _) Being.l4 rfl rfl) ?_
  refine GL_gf (t := 67) rfl rfl rfl (fun q => PS_gtr (cvE rfl (by rw [q]; rfl)) rfl) ?_
  refine GL_step rfl (PS_or rfl rfl (fun h => by rw [h]; rfl)) ?_
  refine GL_step rfl (PS_move rfl) ?_
  refine GL_gf (t := 72) rfl rfl rfl (fun q => PS_fieldAddr fa31_5 rfl) ?_
  refine GL_gf (t := 72) rfl rfl rfl (fun q => PS_load (cvE rfl (by rw [q]; rfl)) tys3 (.head _) Being.l5 rfl rfl) ?_
  refine GL_gf (t := 72) rfl rfl rfl (fun q => PS_lss (cvE rfl (by rw [q]; rfl)) rfl) ?_
  refine GL_step rfl (PS_or rfl rfl (fun h => by rw [h]; rfl)) ?_
  refine GL_step rfl (PS_move rfl) ?_
  refine GL_gf (t := 77) rfl rfl rfl (fun q => PS_fieldAddr fa31_5 rfl) ?_
  refine GL_gf (t := 77) rfl rfl rfl (fun q => PS_load (cvE rfl (by rw [q]; rfl)) tys3 (.head _) Being.l5 rfl rfl) ?_
  refine GL_gf (t := 77) rfl rfl rfl (fun q => PS_gtr (cvE rfl (by rw [q]; rfl)) rfl) ?_
  refine GL_step rfl (PS_or rfl rfl (fun h => by rw [h]; rfl)) ?_
  refine GL_step rfl (PS_move rfl) ?_
  refine GL_gf (t := 82) rfl rfl rfl (fun q => PS_fieldAddr fa31_1 rfl) ?_
  refine GL_gf (t := 82) rfl rfl rfl (fun q => PS_load (cvE rfl (by rw [q]; rfl)) tys4 (.head _) Being.l1 rfl rfl) ?_
  refine GL_gf (t := 82) rfl rfl rfl (fun q => PS_fieldAddr fa31_4 rfl) ?_
  refine GL_gf (t := 82) rfl rfl rfl (fun q => PS_load (cvE rfl (by rw [q]; rfl)) tys3 (.head _) Being.l4 rfl rfl) ?_
  refine GL_gf (t := 82) rfl rfl rfl (fun q => PS_neq (cvE rfl (by rw [q]; rfl)) rfl) ?_
  refine GL_gf (t := 82) rfl rfl rfl (fun q => PS_neq_bool Tryz.underlying4 (cvE rfl (by rw [q]; rfl)) (cvE rfl (by rw [q]; rfl))) ?_
  refine GL_step rfl (PS_or rfl rfl (fun h => by rw [h]; rfl)) ?_
  refine GL_step rfl (PS_move rfl) ?_
  refine GL_gf (t := 90) rfl rfl rfl (fun q => PS_fieldAddr fa31_1 rfl) ?_
  refine GL_gf (t := 90) rfl rfl rfl (fun q => PS_load (cvE rfl (by rw [q]; rfl)) tys4 (.head _) Being.l1 rfl rfl) ?_
  refine GL_gf (t := 90) rfl rfl rfl (fun q => PS_not (cvE rfl (by rw [q]; rfl))) ?_
  refine GL_gf (t := 90) rfl rfl rfl (fun q => PS_move (cvE rfl (by rw [q]; rfl))) ?_
  refine GL_gtc (t := 94) rfl rfl rfl (fun qc q => PS_fieldAddr fa31_5 rfl) ?_
  refine GL_gtc (t := 94) rfl rfl rfl (fun qc q => PS_load (cvE rfl (by rw [qc, q]; rfl)) tys3 (.head _) Being.l5 rfl rfl) ?_
  refine GL_gtc (t := 94) rfl rfl rfl (fun qc q => PS_neq (cvE rfl (by rw [qc, q]; rfl)) rfl) ?_
  refine GL_gf (t := 90) rfl rfl rfl (fun q => PS_and (cvE rfl (by rw [q]; rfl)) rfl (fun h => by rw [q, h]; rfl)) ?_
  refine GL_step rfl (PS_or rfl rfl (fun h => by rw [h]; rfl)) ?_
  refine GL_nil ?_
  refine GQ_sub (.cons (k := 1) rfl (.cons (k := 50) rfl (.cons (k := 51) rfl (.cons (k := 99) rfl (.nil _))))) ?_
  refine GQ_then ?_
  refine G_cond rfl (fun c5 => ?_) (fun c5 => ?_)
  ·
   have c5p := kz c5
   try dsimp only at c5p
   refine G_seq ?_
   refine G_region ?_
   refine GL_step rfl (PS_assign rfl) ?_
   refine GL_nil ?_
   refine GQ_sub (.cons (k := 2) rfl (.nil _)) ?_
   refine GQ_then ?_
   refine G_ret ?_
   refine GQ_block_ret ?_
   refine GQ_then_ret ?_
   refine GQ_then_ret ?_
   refine GQ_block_ret ?_
   refine GQ_then_ret ?_
   refine GQ_ret rfl (.tmp rfl .nil) ?_
   intro w1 hS; refine ⟨congrArg Value.bool ?_, hS.toKeep⟩; rw [hI33, Land.refBadBeing, c5]; rfl
  have c5p := kz c5
  try dsimp only at c5p
  refine G_skip ?_
  refine GQ_sub (.cons (k := 1) rfl (.cons (k := 50) rfl (.cons (k := 51) rfl (.nil _)))) ?_
  refine GQ_block ?_
  refine GQ_then ?_
  refine G_region ?_
  refine GL_step rfl (PS_add rfl rfl (IntWalk.i64_in _ (by omega))) ?_
  refine GL_step rfl (PS_move rfl) ?_
  refine GL_nil ?_
  refine GQ_sub (.cons (k := 1) rfl (.cons (k := 50) rfl (.cons (k := 51) rfl (.nil _)))) ?_
  refine GQ_next1_ (b + 1) ?_ ?_ (.cons (k := 51) rfl (.cons (k := 1) rfl (.cons (k := 50) rfl (.nil _)))) (.cons _ (.refl _))
  · exact ⟨by omega, by omega, by rw [hI33, Land.refBadBeing, c5]; rfl⟩
  · omega
 have c4p := kz c4
 try dsimp only at c4p
 obtain rfl : b = 6 := by omega
 refine G_exit ?_
 refine GQ_then_exit ?_
 refine GQ_then_exit ?_
 refine GQ_block_exit ?_
 refine GQ_sub (.cons (k := 1) rfl (.nil _)) ?_
 refine GQ_then ?_
 refine G_seq ?_
 refine G_seq ?_
 refine G_region ?_
 refine GL_step rfl (PS_fieldAddr fa34_1 rfl) ?_
 refine GL_step rfl (PS_loadA rfl tya29 (.head _) Land.l1 rfl) ?_
 refine GL_step rfl (PS_move rfl) ?_
 refine GL_nil ?_
 refine GQ_sub (.cons (k := 1) rfl (.cons (k := 102) rfl (.cons (k := 103) rfl (.nil _)))) ?_
 refine GQ_then ?_
 refine G_block ?_
 refine G_subF (.cons (k := 103) rfl (.cons (k := 1) rfl (.cons (k := 102) rfl (.nil _)))) ?_
 refine G_loop1_ (fun (t : Int) => 0 ≤ t ∧ t ≤ 9 ∧ X.refGood = allFrom 9 X.refThing (9 - t).toNat) (fun (t : Int) => (9 - t).toNat) (fun (t : Int) => [(103, .int .i64 t)]) (fun (t : Int) => []) (0) ?_ rfl rfl (fun t hI4 => ?_)
 · exact ⟨Int.le_refl _, by omega, hI33⟩
 obtain ⟨hI41, hI42, hI43⟩ := hI4
 refine G_seq ?_
 refine G_region ?_
 refine GL_step rfl (PS_lss rfl rfl) ?_
 refine GL_nil ?_
 refine GQ_then ?_
 refine G_seq ?_
 refine G_cond rfl (fun c6 => ?_) (fun c6 => ?_)
 ·
  have c6p := kz c6
  try dsimp only at c6p
  rw [allFrom_step _ (by omega)] at hI43
  refine G_skip ?_
  refine GQ_sub (.cons (k := 1) rfl (.cons (k := 102) rfl (.cons (k := 103) rfl (.nil _)))) ?_
  refine GQ_then ?_
  refine G_seq ?_
  refine G_block ?_
  refine G_seq ?_
  refine G_region ?_
  refine GL_step rfl (PS_move rfl) ?_
  refine GL_step rfl (PS_indexAA Thing.fl Tryz.underlying29 tya28 rfl rfl (by omega) (by omega)) ?_
  refine GL_alloc rfl zv28 rfl (fun b4 => ?_)
  refine GL_step rfl (PS_assign rfl) ?_
  refine GL_unit (PU_store (Lens.id Thing.fl.len Thing.fl.one) rfl rfl rfl sz28 rfl .head) ?_
  refine GL_nil ?_
  refine GQ_sub (.cons (k := 1) rfl (.cons (k := 8) rfl (.cons (k := 9) rfl (.cons (k := 102) rfl (.cons (k := 103) rfl (.nil _)))))) ?_
  refine GQ_then ?_
  refine G_seq ?_
  refine G_seq ?_
  refine G_region ?_
  refine GL_step rfl (PS_fieldAddr fa28_1 rfl) ?_
  refine GL_step rfl (PS_load rfl tys3 (.head _) Thing.l1 rfl rfl) ?_
  refine GL_step rfl (PS_lss rfl rfl) ?_
  refine GL_step rfl (PS_move rfl) ?_
  refine GL_gf (t := 110) rfl rfl rfl (fun q => PS_fieldAddr fa28_1 rfl) ?_
  refine GL_gf (t := 110) rfl rfl rfl (fun q => PS_load (cvE rfl (by rw [q]; rfl)) tys3 (.head _) Thing.l1 rfl rfl) ?_
  refine GL_gf (t := 110) rfl rfl rfl (fun q => PS_gtr (cvE rfl (by rw [q]; rfl)) rfl) ?_
  refine GL_step rfl (PS_or rfl rfl (fun h => by rw [h]; rfl)) ?_
  refine GL_step rfl (PS_move rfl) ?_
  refine GL_gf (t := 115) rfl rfl rfl (fun q => PS_fieldAddr fa28_1 rfl) ?_
  refine GL_gf (t := 115) rfl rfl rfl (fun q => PS_load (cvE rfl (by rw [q]; rfl)) tys3 (.head _) Thing.l1 rfl rfl) ?_
  refine GL_gf (t := 115) rfl rfl rfl (fun q => PS_eql (cvE rfl (by rw [q]; rfl)) rfl) ?_
  refine GL_gf (t := 115) rfl rfl rfl (fun q => PS_move (cvE rfl (by rw [q]; rfl))) ?_
  refine GL_gtc (t := 119) rfl rfl rfl (fun qc q => PS_fieldAddr fa28_4 rfl) ?_
  refine GL_gtc (t := 119) rfl rfl rfl (fun qc q => PS_load (cvE rfl (by rw [qc, q]; rfl)) tys4 (.head _) Thing.l4 rfl rfl) ?_
  refine GL_gf (t := 115) rfl rfl rfl (fun q => PS_and (cvE rfl (by rw [q]; rfl)) rfl (fun h => by rw [q, h]; rfl)) ?_
  refine GL_step rfl (PS_or rfl rfl (fun h => by rw [h]; rfl)) ?_
  refine GL_step rfl (PS_move rfl) ?_
  refine GL_gf (t := 124) rfl rfl rfl (fun q => PS_fieldAddr fa28_1 rfl) ?_
  refine GL_gf (t := 124) rfl rfl rfl (fun q => PS_load (cvE rfl (by rw [q]; rfl)) tys3 (.head _) Thing.l1 rfl rfl) ?_
  refine GL_gf (t := 124) rfl rfl rfl (fun q => PS_eql (cvE rfl (by rw [q]; rfl)) rfl) ?_
  refine GL_gf (t := 124) rfl rfl rfl (fun q => PS_move (cvE rfl (by rw [q]; rfl))) ?_
  refine GL_gtc (t := 128) rfl rfl rfl (fun qc q => PS_fieldAddr fa28_4 rfl) ?_
  refine GL_gtc (t := 128) rfl rfl rfl (fun qc q => PS_load (cvE rfl (by rw [qc, q]; rfl)) tys4 (.head _) Thing.l4 rfl rfl) ?_
  refine GL_gf (t := 124) rfl rfl rfl (fun q => PS_and (cvE rfl (by rw [q]; rfl)) rfl (fun h => by rw [q, h]; rfl)) ?_
  refine GL_gf (t := 124) rfl rfl rfl (fun q => PS_move (cvE rfl (by rw [q]; rfl))) ?_
  refine GL_gtc (t := 132) rfl rfl rfl (fun qc q => PS_fieldAddr fa28_2 rfl) ?_
  refine GL_gtc (t := 132) rfl rfl rfl (fun qc q => PS_load (cvE rfl (by rw [qc, q]; rfl)) tys3 (.head _) Thing.l2 rfl rfl) ?_
  refine GL_gtc (t := 132) rfl rfl rfl (fun qc q => PS_neq (cvE rfl (by rw [qc, q]; rfl)) rfl) ?_
  refine GL_gf (t := 124) rfl rfl rfl (fun q => PS_and (cvE rfl (by rw [q]; rfl)) rfl (fun h => by rw [q, h]; rfl)) ?_
  refine GL_step rfl (PS_or rfl rfl (fun h => by rw [h]; rfl)) ?_
  refine GL_step rfl (PS_move rfl) ?_
  refine GL_gf (t := 138) rfl rfl rfl (fun q => PS_fieldAddr fa28_2 rfl) ?_
  refine GL_gf (t := 138) rfl rfl rfl (fun q => PS_load (cvE rfl (by rw [q]; rfl)) tys3 (.head _) Thing.l2 rfl rfl) ?_
  refine GL_gf (t := 138) rfl rfl rfl (fun q => PS_eql (cvE rfl (by rw [q]; rfl)) rfl) ?_
  refine GL_gf (t := 138) rfl rfl rfl (fun q => PS_move (cvE rfl (by rw [q]; rfl))) ?_
  refine GL_gtc (t := 142) rfl rfl rfl (fun qc q => PS_fieldAddr fa28_3 rfl) ?_
  refine GL_gtc (t := 142) rfl rfl rfl (fun qc q => PS_load (cvE rfl (by rw [qc, q]; rfl)) tys3 (.head _) Thing.l3 rfl rfl) ?_
  refine GL_gtc (t := 142) rfl rfl rfl (fun qc q => PS_lss (cvE rfl (by rw [qc, q]; rfl)) rfl) ?_
  refine GL_gtc (t := 142) rfl rfl rfl (fun qc q => PS_move (cvE rfl (by rw [qc, q]; rfl))) ?_
  refine GL_gfc (t := 146) rfl rfl rfl (fun qc q => PS_fieldAddr fa28_3 rfl) ?_
  refine GL_gfc (t := 146) rfl rfl rfl (fun qc q => PS_load (cvE rfl (by rw [qc, q]; rfl)) tys3 (.head _) Thing.l3 rfl rfl) ?_
  refine GL_gfc (t := 146) rfl rfl rfl (fun qc q => PS_gtr (cvE rfl (by rw [qc, q]; rfl)) rfl) ?_
  refine GL_gtc (t := 142) rfl rfl rfl (fun qc q => PS_or (cvE rfl (by rw [qc, q]; rfl)) rfl (fun h => by rw [qc, q, h]; rfl)) ?_
  refine GL_gtc (t := 142) rfl rfl rfl (fun qc q => PS_move (cvE rfl (by rw [qc, q]; rfl))) ?_
  refine GL_gfc (t := 151) rfl rfl rfl (fun qc q => PS_fieldAddr fa28_3 rfl) ?_
  refine GL_gfc (t := 151) rfl rfl rfl (fun qc q => PS_load (cvE rfl (by rw [qc, q]; rfl)) tys3 (.head _) Thing.l3 rfl rfl) ?_
  refine GL_gfc (t := 151) rfl rfl rfl (fun qc q => PS_fieldAddr fa34_1 rfl) ?_
  refine GL_gfc (t := 151) rfl rfl rfl (fun qc q => by have q1 := q; have qc1 := qc; (try simp at q1 qc1); exact PS_indexAddr ia29 (cvE rfl (by rw [qc, q]; rfl)) (cvE rfl (by rw [qc, q]; rfl)) (by omega) (by omega)) ?_
  refine GL_gfc (t := 151) rfl rfl rfl (fun qc q => PS_fieldAddr fa28_1 (cvE rfl (by rw [qc, q]; rfl))) ?_
  refine GL_gfc (t := 151) rfl rfl rfl (fun qc q => by have q1 := q; have qc1 := qc; (try simp at q1 qc1); exact PS_load (cvE rfl (by rw [qc, q]; rfl)) tys3 (.tail _ (.head _)) ((Land.l1.comp (Lens.arr (n := 9) Thing.fl (by omega) (by omega))).comp Thing.l1) rfl rfl) ?_
  refine GL_gfc (t := 151) rfl rfl rfl (fun qc q => PS_neq (cvE rfl (by rw [qc, q]; rfl)) rfl) ?_
  refine GL_gtc (t := 142) rfl rfl rfl (fun qc q => PS_or (cvE rfl (by rw [qc, q]; rfl)) rfl (fun h => by rw [qc, q, h]; rfl)) ?_
  refine GL_gf (t := 138) rfl rfl rfl (fun q => PS_and (cvE rfl (by rw [q]; rfl)) rfl (fun h => by rw [q, h]; rfl)) ?_
  refine GL_step rfl (PS_or rfl rfl (fun h => by rw [h]; rfl)) ?_
  refine GL_nil ?_
  refine GQ_sub (.cons (k := 1) rfl (.cons (k := 8) rfl (.cons (k := 102) rfl (.cons (k := 103) rfl (.cons (k := 161) rfl (.nil _)))))) ?_
  refine GQ_then ?_
  refine G_cond rfl (fun c7 => ?_) (fun c7 => ?_)
  ·
   have c7p := kz c7
   try dsimp only at c7p
   refine G_seq ?_
   refine G_region ?_
   refine GL_step rfl (PS_assign rfl) ?_
   refine GL_nil ?_
   refine GQ_sub (.cons (k := 2) rfl (.nil _)) ?_
   refine GQ_then ?_
   refine G_ret ?_
   refine GQ_then_ret ?_
   refine GQ_block_ret ?_
   refine GQ_then_ret ?_
   refine GQ_then_ret ?_
   refine GQ_block_ret ?_
   refine GQ_then_ret ?_
   refine GQ_ret rfl (.tmp rfl .nil) ?_
   intro w1 hS; refine ⟨congrArg Value.bool ?_, hS.toKeep⟩; rw [hI43, Land.refThing, show X.refBadA (X.things.at t) = true from c7]; rfl
  have c7p := kz c7
  try dsimp only at c7p
  refine G_skip ?_
  refine GQ_sub (.cons (k := 1) rfl (.cons (k := 8) rfl (.cons (k := 102) rfl (.cons (k := 103) rfl (.nil _))))) ?_
  refine GQ_then ?_
  refine G_seq ?_
  refine G_region ?_
  refine GL_step rfl (PS_loadA rfl tya34 (.tail _ (.head _)) (Lens.id Land.fl.len Land.fl.one) rfl) ?_
  refine GL_step rfl (PS_move rfl) ?_
  refine GL_pure rfl cf48 (.cons rfl (.cons rfl .nil)) (fun w hS => ref_root_spec _ _ w) ?_
  refine GL_step rfl (PS_move rfl) ?_
  refine GL_step rfl (PS_extract rfl rfl) ?_
  refine GL_step rfl (PS_extract rfl rfl) ?_
  refine GL_step rfl (PS_extract rfl rfl) ?_
  refine GL_step rfl (PS_extract rfl rfl) ?_
  refine GL_step rfl (PS_assign rfl) ?_
  refine GL_step rfl (PS_assign rfl) ?_
  refine GL_step rfl (PS_assign rfl) ?_
  refine GL_step rfl (PS_assign rfl) ?_
  refine GL_nil ?_
  refine GQ_sub (.cons (k := 1) rfl (.cons (k := 10) rfl (.cons (k := 11) rfl (.cons (k := 13) rfl (.cons (k := 102) rfl (.cons (k := 103) rfl (.nil _))))))) ?_
  refine GQ_then ?_
  refine G_seq ?_
  refine G_region ?_
  refine GL_step rfl (PS_move rfl) ?_
  refine GL_step rfl (PS_not rfl) ?_
  refine GL_step rfl (PS_move rfl) ?_
  refine GL_gf (t := 172) rfl rfl rfl (fun q => PS_move rfl) ?_
  refine GL_gf (t := 172) rfl rfl rfl (fun q => PS_eql (cvE rfl (by rw [q]; rfl)) rfl) ?_
  refine GL_gf (t := 172) rfl rfl rfl (fun q => PS_move (cvE rfl (by rw [q]; rfl))) ?_
  refine GL_gtc (t := 175) rfl rfl rfl (fun qc q => PS_move rfl) ?_
  refine GL_gtc (t := 175) rfl rfl rfl (fun qc q => PS_lss (cvE rfl (by rw [qc, q]; rfl)) rfl) ?_
  refine GL_gtc (t := 175) rfl rfl rfl (fun qc q => PS_move (cvE rfl (by rw [qc, q]; rfl))) ?_
  refine GL_gfc (t := 178) rfl rfl rfl (fun qc q => PS_move rfl) ?_
  refine GL_gfc (t := 178) rfl rfl rfl (fun qc q => PS_gtr (cvE rfl (by rw [qc, q]; rfl)) rfl) ?_
  refine GL_gtc (t := 175) rfl rfl rfl (fun qc q => PS_or (cvE rfl (by rw [qc, q]; rfl)) rfl (fun h => by rw [qc, q, h]; rfl)) ?_
  refine GL_gf (t := 172) rfl rfl rfl (fun q => PS_and (cvE rfl (by rw [q]; rfl)) rfl (fun h => by rw [q, h]; rfl)) ?_
  refine GL_step rfl (PS_or rfl rfl (fun h => by rw [h]; rfl)) ?_
  refine GL_step rfl (PS_move rfl) ?_
  refine GL_gf (t := 184) rfl rfl rfl (fun q => PS_move rfl) ?_
  refine GL_gf (t := 184) rfl rfl rfl (fun q => PS_eql (cvE rfl (by rw [q]; rfl)) rfl) ?_
  refine GL_gf (t := 184) rfl rfl rfl (fun q => PS_move (cvE rfl (by rw [q]; rfl))) ?_
  refine GL_gtc (t := 187) rfl rfl rfl (fun qc q => PS_move rfl) ?_
  refine GL_gtc (t := 187) rfl rfl rfl (fun qc q => PS_lss (cvE rfl (by rw [qc, q]; rfl)) rfl) ?_
  refine GL_gtc (t := 187) rfl rfl rfl (fun qc q => PS_move (cvE rfl (by rw [qc, q]; rfl))) ?_
  refine GL_gfc (t := 190) rfl rfl rfl (fun qc q => PS_move rfl) ?_
  refine GL_gfc (t := 190) rfl rfl rfl (fun qc q => PS_gtr (cvE rfl (by rw [qc, q]; rfl)) rfl) ?_
  refine GL_gtc (t := 187) rfl rfl rfl (fun qc q => PS_or (cvE rfl (by rw [qc, q]; rfl)) rfl (fun h => by rw [qc, q, h]; rfl)) ?_
  refine GL_gtc (t := 187) rfl rfl rfl (fun qc q => PS_move (cvE rfl (by rw [qc, q]; rfl))) ?_
  refine GL_gfc (t := 194) rfl rfl rfl (fun qc q => PS_move rfl) ?_
  refine GL_gfc (t := 194) rfl rfl rfl (fun qc q => PS_fieldAddr fa34_2 rfl) ?_
  refine GL_gfc (t := 194) rfl rfl rfl (fun qc q => by have q1 := q; have qc1 := qc; (try simp at q1 qc1); exact PS_indexAddr ia32 (cvE rfl (by rw [qc, q]; rfl)) (cvE rfl (by rw [qc, q]; rfl)) (by omega) (by omega)) ?_
  refine GL_gfc (t := 194) rfl rfl rfl (fun qc q => PS_fieldAddr fa31_1 (cvE rfl (by rw [qc, q]; rfl))) ?_
  refine GL_gfc (t := 194) rfl rfl rfl (fun qc q => by have q1 := q; have qc1 := qc; (try simp at q1 qc1); exact PS_load (cvE rfl (by rw [qc, q]; rfl)) tys4 (.tail _ (.head _)) ((Land.l2.comp (Lens.arr (n := 6) Being.fl (by omega) (by omega))).comp Being.l1) rfl rfl) ?_
  refine GL_gfc (t := 194) rfl rfl rfl (fun qc q => PS_not (cvE rfl (by rw [qc, q]; rfl))) ?_
  refine GL_gtc (t := 187) rfl rfl rfl (fun qc q => PS_or (cvE rfl (by rw [qc, q]; rfl)) rfl (fun h => by rw [qc, q, h]; rfl)) ?_
  refine GL_gf (t := 184) rfl rfl rfl (fun q => PS_and (cvE rfl (by rw [q]; rfl)) rfl (fun h => by rw [q, h]; rfl)) ?_
  refine GL_step rfl (PS_or rfl rfl (fun h => by rw [h]; rfl)) ?_
  refine GL_nil ?_
  refine GQ_sub (.cons (k := 1) rfl (.cons (k := 102) rfl (.cons (k := 103) rfl (.cons (k := 203) rfl (.nil _))))) ?_
  refine GQ_then ?_
  refine G_cond rfl (fun c8 => ?_) (fun c8 => ?_)
  ·
   have c8p := kz c8
   try dsimp only at c8p
   refine G_seq ?_
   refine G_region ?_
   refine GL_step rfl (PS_assign rfl) ?_
   refine GL_nil ?_
   refine GQ_sub (.cons (k := 2) rfl (.nil _)) ?_
   refine GQ_then ?_
   refine G_ret ?_
   refine GQ_block_ret ?_
   refine GQ_then_ret ?_
   refine GQ_then_ret ?_
   refine GQ_block_ret ?_
   refine GQ_then_ret ?_
   refine GQ_ret rfl (.tmp rfl .nil) ?_
   intro w1 hS; refine ⟨congrArg Value.bool ?_, hS.toKeep⟩; rw [hI43, Land.refThing, show X.refBadB (X.root t) = true from c8, Bool.not_true, Bool.and_false]; rfl
  have c8p := kz c8
  try dsimp only at c8p
  refine G_skip ?_
  refine GQ_sub (.cons (k := 1) rfl (.cons (k := 102) rfl (.cons (k := 103) rfl (.nil _)))) ?_
  refine GQ_block ?_
  refine GQ_then ?_
  refine G_region ?_
  refine GL_step rfl (PS_add rfl rfl (IntWalk.i64_in _ (by omega))) ?_
  refine GL_step rfl (PS_move rfl) ?_
  refine GL_nil ?_
  refine GQ_sub (.cons (k := 1) rfl (.cons (k := 102) rfl (.cons (k := 103) rfl (.nil _)))) ?_
  refine GQ_next1_ (t + 1) ?_ ?_ (.cons (k := 103) rfl (.cons (k := 1) rfl (.cons (k := 102) rfl (.nil _)))) (.cons _ (.refl _))
  · exact ⟨by omega, by omega, by rw [hI43, Land.refThing, show X.refBadA (X.things.at t) = false from c7, show X.refBadB (X.root t) = false from c8]; rfl⟩
  · omega
 have c6p := kz c6
 try dsimp only at c6p
 obtain rfl : t = 9 := by omega
 refine G_exit ?_
 refine GQ_then_exit ?_
 refine GQ_then_exit ?_
 refine GQ_block_exit ?_
 refine GQ_sub (.nil _) ?_
 refine GQ_then ?_
 refine G_seq ?_
 refine G_region ?_
 refine GL_step rfl (PS_assign rfl) ?_
 refine GL_nil ?_
 refine GQ_then ?_
 refine G_ret ?_
 refine GQ_ret rfl (.tmp rfl .nil) ?_
 intro w1 hS; refine ⟨congrArg Value.bool ?_, hS.toKeep⟩; rw [hI43]; rfl
theorem ref_IsNamed_spec (s : Str) (hs : s.length ≤ 140737488351232) (w : World) : Ret Tryz.prog 10 #[vstr s] w fun v w' => v = .bool (Turn.namedOk s) ∧ Keep w w' := by
 refine Ret_body [] [] Tryz.func10 rfl rfl rfl (St.start w []) ?_
 refine G_seq ?_
 refine G_region ?_
 refine GL_step rfl (PS_assign rfl) ?_
 refine GL_nil ?_
 refine GQ_sub (.cons (k := 0) rfl (.nil _)) ?_
 refine GQ_then ?_
 refine G_seq ?_
 refine G_seq ?_
 refine G_region ?_
 refine GL_step rfl (PS_move rfl) ?_
 refine GL_step rfl (PS_eql_str rfl rfl) ?_
 refine GL_step rfl (PS_move rfl) ?_
 refine GL_gf (t := 7) rfl rfl rfl (fun q => PS_move rfl) ?_
 refine GL_gf (t := 7) rfl rfl rfl (fun q => PS_eql_str (cvE rfl (by rw [q]; rfl)) rfl) ?_
 refine GL_step rfl (PS_or rfl rfl (fun h => by rw [h]; rfl)) ?_
 refine GL_step rfl (PS_move rfl) ?_
 refine GL_gf (t := 11) rfl rfl rfl (fun q => PS_move rfl) ?_
 refine GL_gf (t := 11) rfl rfl rfl (fun q => PS_eql_str (cvE rfl (by rw [q]; rfl)) rfl) ?_
 refine GL_step rfl (PS_or rfl rfl (fun h => by rw [h]; rfl)) ?_
 refine GL_step rfl (PS_move rfl) ?_
 refine GL_gf (t := 15) rfl rfl rfl (fun q => PS_move rfl) ?_
 refine GL_gf (t := 15) rfl rfl rfl (fun q => PS_len_str rfl Tryz.underlying9 (cvE rfl (by rw [q]; rfl))) ?_
 refine GL_gf (t := 15) rfl rfl rfl (fun q => PS_gtr (cvE rfl (by rw [q]; rfl)) rfl) ?_
 refine GL_step rfl (PS_or rfl rfl (fun h => by rw [h]; rfl)) ?_
 refine GL_nil ?_
 refine GQ_sub (.cons (k := 0) rfl (.cons (k := 19) rfl (.nil _))) ?_
 refine GQ_then ?_
 refine G_cond rfl (fun c1 => ?_) (fun c1 => ?_)
 ·
  have c1p := kz c1
  try dsimp only at c1p
  refine G_seq ?_
  refine G_region ?_
  refine GL_step rfl (PS_assign rfl) ?_
  refine GL_nil ?_
  refine GQ_sub (.cons (k := 2) rfl (.nil _)) ?_
  refine GQ_then ?_
  refine G_ret ?_
  refine GQ_then_ret ?_
  refine GQ_ret rfl (.tmp rfl .nil) ?_
  intro w1 hS; refine ⟨?_, hS.toKeep⟩; exact congrArg Value.bool (by rw [← Turn.namedR'_eq, show Turn.namedR' s = _ from if_t c1])
 have c1p := kz c1
 try dsimp only at c1p
 refine G_skip ?_
 refine GQ_sub (.cons (k := 0) rfl (.nil _)) ?_
 refine GQ_then ?_
 refine G_seq ?_
 refine G_seq ?_
 refine G_region ?_
 refine GL_step rfl (PS_move rfl) ?_
 refine GL_bytes rfl Tryz.underlying9 Tryz.underlying61 Tryz.underlying5 rfl (fun h1 h1l => ?_)
 refine GL_step rfl (PS_len_slice rfl Tryz.underlying61 rfl) ?_
 refine GL_step rfl (PS_move rfl) ?_
 refine GL_nil ?_
 refine GQ_sub (.cons (k := 21) rfl (.cons (k := 22) rfl (.cons (k := 23) rfl (.nil _)))) ?_
 refine GQ_then ?_
 refine G_block ?_
 refine G_subF (.cons (k := 23) rfl (.cons (k := 21) rfl (.cons (k := 22) rfl (.nil _)))) ?_
 refine G_loop1_ (fun (k : Int) => 0 ≤ k ∧ k ≤ (s.length : Int) ∧ Turn.lowK s 0 = Turn.lowK s k.toNat) (fun (k : Int) => ((s.length : Int) - k).toNat) (fun (k : Int) => [(23, .int .i64 k)]) (fun (k : Int) => []) (0) ?_ rfl rfl (fun k hI1 => ?_)
 · exact ⟨by omega, by omega, rfl⟩
 obtain ⟨hI11, hI12, hI13⟩ := hI1
 refine G_seq ?_
 refine G_region ?_
 refine GL_step rfl (PS_lss rfl rfl) ?_
 refine GL_nil ?_
 refine GQ_then ?_
 refine G_seq ?_
 refine G_cond rfl (fun c2 => ?_) (fun c2 => ?_)
 ·
  have c2p := kz c2
  try dsimp only at c2p
  have hst := Turn.lowK_step (s := s) hI11 (by omega)
  refine G_skip ?_
  refine GQ_sub (.cons (k := 21) rfl (.cons (k := 22) rfl (.cons (k := 23) rfl (.nil _)))) ?_
  refine GQ_then ?_
  refine G_seq ?_
  refine G_block ?_
  refine G_seq ?_
  refine G_region ?_
  refine GL_step rfl (PS_idxS is61 (by decide) (Kn.own (.head _)) rfl rfl (by omega) (by omega)) ?_
  refine GL_step rfl (PS_ldY rfl tys5 (Kn.own (.head _)) (by omega)) ?_
  refine GL_step rfl (PS_assign rfl) ?_
  refine GL_nil ?_
  refine GQ_sub (.cons (k := 4) rfl (.cons (k := 21) rfl (.cons (k := 22) rfl (.cons (k := 23) rfl (.nil _))))) ?_
  refine GQ_then ?_
  refine G_seq ?_
  refine G_region ?_
  refine GL_step rfl (PS_move rfl) ?_
  refine GL_step rfl (PS_lss rfl rfl) ?_
  refine GL_step rfl (PS_move rfl) ?_
  refine GL_gf (t := 29) rfl rfl rfl (fun q => PS_move rfl) ?_
  refine GL_gf (t := 29) rfl rfl rfl (fun q => PS_gtr (cvE rfl (by rw [q]; rfl)) rfl) ?_
  refine GL_step rfl (PS_or rfl rfl (fun h => by rw [h]; rfl)) ?_
  refine GL_nil ?_
  refine GQ_sub (.cons (k := 21) rfl (.cons (k := 22) rfl (.cons (k := 23) rfl (.cons (k := 32) rfl (.nil _))))) ?_
  refine GQ_then ?_
  refine G_cond rfl (fun c3 => ?_) (fun c3 => ?_)
  ·
   have c3p := kz c3
   try dsimp only at c3p
   rw [show Turn.low (s.getD k.toNat 0) = true from c3] at hst
   refine G_seq ?_
   refine G_region ?_
   refine GL_step rfl (PS_assign rfl) ?_
   refine GL_nil ?_
   refine GQ_sub (.cons (k := 2) rfl (.nil _)) ?_
   refine GQ_then ?_
   refine G_ret ?_
   refine GQ_block_ret ?_
   refine GQ_then_ret ?_
   refine GQ_then_ret ?_
   refine GQ_block_ret ?_
   refine GQ_then_ret ?_
   refine GQ_ret rfl (.tmp rfl .nil) ?_
   intro w1 hS; refine ⟨?_, hS.toKeep⟩; exact congrArg Value.bool (by rw [← Turn.namedR'_eq, show Turn.namedR' s = _ from if_f c1, hI13, hst]; rfl)
  have c3p := kz c3
  try dsimp only at c3p
  rw [show Turn.low (s.getD k.toNat 0) = false from c3] at hst
  refine G_skip ?_
  refine GQ_sub (.cons (k := 21) rfl (.cons (k := 22) rfl (.cons (k := 23) rfl (.nil _)))) ?_
  refine GQ_block ?_
  refine GQ_then ?_
  refine G_region ?_
  refine GL_step rfl (PS_add rfl rfl (IntWalk.i64_in _ (by omega))) ?_
  refine GL_step rfl (PS_move rfl) ?_
  refine GL_nil ?_
  refine GQ_sub (.cons (k := 21) rfl (.cons (k := 22) rfl (.cons (k := 23) rfl (.nil _)))) ?_
  refine GQ_next1_ (k + 1) ?_ ?_ (.cons (k := 23) rfl (.cons (k := 21) rfl (.cons (k := 22) rfl (.nil _)))) (.refl _)
  · exact ⟨by omega, by omega, by rw [hI13, hst]; rfl⟩
  · omega
 have c2p := kz c2
 try dsimp only at c2p
 obtain rfl : k = (s.length : Int) := by omega
 rw [Turn.lowK_end] at hI13
 refine G_exit ?_
 refine GQ_then_exit ?_
 refine GQ_then_exit ?_
 refine GQ_block_exit ?_
 refine GQ_sub (.nil _) ?_
 refine GQ_then ?_
 refine G_seq ?_
 refine G_region ?_
 refine GL_step rfl (PS_assign rfl) ?_
 refine GL_nil ?_
 refine GQ_then ?_
 refine G_ret ?_
 refine GQ_ret rfl (.tmp rfl .nil) ?_
 intro w1 hS; refine ⟨?_, hS.toKeep⟩; exact congrArg Value.bool (by rw [← Turn.namedR'_eq, show Turn.namedR' s = _ from if_f c1, hI13])
theorem ref_about_spec (X : Land) (b : Int) (w : World) : Ret Tryz.prog 25 #[.agg X.enc.toArray, .int .i64 b] w fun v w' => v = .bool (X.being b) ∧ Keep w w' := by
 refine Ret_body [] [] Tryz.func25 rfl rfl rfl (St.start w []) ?_
 refine G_seq ?_
 refine G_region ?_
 refine GL_box rfl rfl rfl (fun b1 => ?_)
 refine GL_step rfl (PS_assign rfl) ?_
 refine GL_nil ?_
 refine GQ_sub (.cons (k := 1) rfl (.cons (k := 2) rfl (.nil _))) ?_
 refine GQ_then ?_
 refine G_seq ?_
 refine G_region ?_
 refine GL_step rfl (PS_move rfl) ?_
 refine GL_step rfl (PS_geq rfl rfl) ?_
 refine GL_step rfl (PS_move rfl) ?_
 refine GL_gt (t := 7) rfl rfl rfl (fun q => PS_move rfl) ?_
 refine GL_gt (t := 7) rfl rfl rfl (fun q => PS_lss (cvE rfl q) rfl) ?_
 refine GL_step rfl (PS_and rfl rfl (fun h => h)) ?_
 refine GL_step rfl (PS_move rfl) ?_
 refine GL_gt (t := 11) rfl rfl rfl (fun q => PS_move rfl) ?_
 refine GL_gt (t := 11) rfl rfl rfl (fun q => PS_fieldAddr fa34_2 rfl) ?_
 refine GL_gt (t := 11) rfl rfl rfl (fun q => by have q1 := q; (try simp at q1); exact PS_indexAddr ia32 (cvE rfl q) (cvE rfl q) (by omega) (by omega)) ?_
 refine GL_gt (t := 11) rfl rfl rfl (fun q => PS_fieldAddr fa31_1 (cvE rfl q)) ?_
 refine GL_gt (t := 11) rfl rfl rfl (fun q => by have q1 := q; (try simp at q1); exact PS_load (cvE rfl q) tys4 (.head _) ((Land.l2.comp (Lens.arr (n := 6) Being.fl (by omega) (by omega))).comp Being.l1) rfl rfl) ?_
 refine GL_step rfl (PS_and rfl rfl (fun h => h)) ?_
 refine GL_step rfl (PS_assign rfl) ?_
 refine GL_nil ?_
 refine GQ_sub (.cons (k := 4) rfl (.nil _)) ?_
 refine GQ_then ?_
 refine G_ret ?_
 refine GQ_ret rfl (.tmp rfl .nil) ?_
 intro w1 hS; refine ⟨?_, hS.toKeep⟩; rfl
theorem ref_RoomOf_spec (X : Land) (i : Int) (w : World) : Ret Tryz.prog 77 #[.agg X.enc.toArray, .int .i64 i] w fun v w' => v = .tuple #[.int .i64 (X.room i).1, .bool (X.room i).2] ∧ Keep w w' := by
 refine Ret_body [] [] Tryz.func77 rfl rfl rfl (St.start w []) ?_
 refine G_seq ?_
 refine G_region ?_
 refine GL_box rfl rfl rfl (fun b1 => ?_)
 refine GL_step rfl (PS_assign rfl) ?_
 refine GL_step rfl (PS_assign rfl) ?_
 refine GL_nil ?_
 refine GQ_sub (.cons (k := 1) rfl (.cons (k := 2) rfl (.nil _))) ?_
 refine GQ_then ?_
 refine G_seq ?_
 refine G_region ?_
 refine GL_step rfl (PS_loadA rfl tya34 (.head _) (Lens.id Land.fl.len Land.fl.one) rfl) ?_
 refine GL_step rfl (PS_move rfl) ?_
 refine GL_pure rfl cf48 (.cons rfl (.cons rfl .nil)) (fun w hS => ref_root_spec _ _ w) ?_
 refine GL_step rfl (PS_move rfl) ?_
 refine GL_step rfl (PS_extract rfl rfl) ?_
 refine GL_step rfl (PS_extract rfl rfl) ?_
 refine GL_step rfl (PS_extract rfl rfl) ?_
 refine GL_step rfl (PS_extract rfl rfl) ?_
 refine GL_step rfl (PS_assign rfl) ?_
 refine GL_step rfl (PS_assign rfl) ?_
 refine GL_step rfl (PS_assign rfl) ?_
 refine GL_step rfl (PS_assign rfl) ?_
 refine GL_nil ?_
 refine GQ_sub (.cons (k := 2) rfl (.cons (k := 6) rfl (.cons (k := 7) rfl (.cons (k := 8) rfl (.cons (k := 9) rfl (.nil _)))))) ?_
 refine GQ_then ?_
 refine G_seq ?_
 refine G_seq ?_
 refine G_region ?_
 refine GL_step rfl (PS_move rfl) ?_
 refine GL_step rfl (PS_move rfl) ?_
 refine GL_gt (t := 19) rfl rfl rfl (fun q => PS_move rfl) ?_
 refine GL_gt (t := 19) rfl rfl rfl (fun q => PS_eql (cvE rfl q) rfl) ?_
 refine GL_step rfl (PS_and rfl rfl (fun h => h)) ?_
 refine GL_nil ?_
 refine GQ_sub (.cons (k := 2) rfl (.cons (k := 7) rfl (.cons (k := 8) rfl (.cons (k := 9) rfl (.cons (k := 22) rfl (.nil _)))))) ?_
 refine GQ_then ?_
 refine G_cond rfl (fun c1 => ?_) (fun c1 => ?_)
 ·
  have c1p := kz c1
  try dsimp only at c1p
  refine G_seq ?_
  refine G_seq ?_
  refine G_region ?_
  refine GL_step rfl (PS_move rfl) ?_
  refine GL_step rfl (PS_lss rfl rfl) ?_
  refine GL_step rfl (PS_move rfl) ?_
  refine GL_gf (t := 25) rfl rfl rfl (fun q => PS_move rfl) ?_
  refine GL_gf (t := 25) rfl rfl rfl (fun q => PS_gtr (cvE rfl (by rw [q]; rfl)) rfl) ?_
  refine GL_step rfl (PS_or rfl rfl (fun h => by rw [h]; rfl)) ?_
  refine GL_nil ?_
  refine GQ_sub (.cons (k := 2) rfl (.cons (k := 7) rfl (.cons (k := 8) rfl (.cons (k := 28) rfl (.nil _))))) ?_
  refine GQ_then ?_
  refine G_cond rfl (fun c2 => ?_) (fun c2 => ?_)
  ·
   have c2p := kz c2
   try dsimp only at c2p
   refine G_seq ?_
   refine G_region ?_
   refine GL_step rfl (PS_assign rfl) ?_
   refine GL_step rfl (PS_assign rfl) ?_
   refine GL_nil ?_
   refine GQ_sub (.cons (k := 4) rfl (.cons (k := 5) rfl (.nil _))) ?_
   refine GQ_then ?_
   refine G_ret ?_
   refine GQ_then_ret ?_
   refine GQ_then_ret ?_
   refine GQ_ret rfl (.tmp rfl (.tmp rfl .nil)) ?_
   intro w1 hS; refine ⟨?_, hS.toKeep⟩; rw [← Land.roomOf, show Land.conv X (Land.root X i) = _ from ((if_t c1).trans (if_t c2))]; rfl
  have c2p := kz c2
  try dsimp only at c2p
  have hat : 0 ≤ (Land.root X i).2.1 ∧ (Land.root X i).2.1 ≤ 5 := by simp at c2; omega
  refine G_skip ?_
  refine GQ_sub (.cons (k := 2) rfl (.cons (k := 7) rfl (.cons (k := 8) rfl (.nil _)))) ?_
  refine GQ_then ?_
  refine G_seq ?_
  refine G_region ?_
  refine GL_step rfl (PS_move rfl) ?_
  refine GL_step rfl (PS_fieldAddr fa34_2 rfl) ?_
  refine GL_step rfl (PS_indexAddr ia32 rfl rfl (by omega) (by omega)) ?_
  refine GL_step rfl (PS_fieldAddr fa31_3 rfl) ?_
  refine GL_step rfl (PS_load rfl tys3 (.head _) ((Land.l2.comp (Lens.arr (n := 6) Being.fl (by omega) (by omega))).comp Being.l3) rfl rfl) ?_
  refine GL_step rfl (PS_move rfl) ?_
  refine GL_step rfl (PS_assign rfl) ?_
  refine GL_step rfl (PS_assign rfl) ?_
  refine GL_nil ?_
  refine GQ_sub (.cons (k := 4) rfl (.cons (k := 5) rfl (.nil _))) ?_
  refine GQ_then ?_
  refine G_ret ?_
  refine GQ_then_ret ?_
  refine GQ_ret rfl (.tmp rfl (.tmp rfl .nil)) ?_
  intro w1 hS; refine ⟨?_, hS.toKeep⟩; rw [← Land.roomOf, show Land.conv X (Land.root X i) = _ from ((if_t c1).trans (if_f c2))]; rfl
 have c1p := kz c1
 try dsimp only at c1p
 refine G_skip ?_
 refine GQ_sub (.cons (k := 7) rfl (.cons (k := 8) rfl (.cons (k := 9) rfl (.nil _)))) ?_
 refine GQ_then ?_
 refine G_seq ?_
 refine G_seq ?_
 refine G_region ?_
 refine GL_step rfl (PS_move rfl) ?_
 refine GL_step rfl (PS_not rfl) ?_
 refine GL_nil ?_
 refine GQ_sub (.cons (k := 7) rfl (.cons (k := 8) rfl (.cons (k := 36) rfl (.nil _)))) ?_
 refine GQ_then ?_
 refine G_cond rfl (fun c3 => ?_) (fun c3 => ?_)
 ·
  have c3p := kz c3
  try dsimp only at c3p
  refine G_seq ?_
  refine G_region ?_
  refine GL_step rfl (PS_assign rfl) ?_
  refine GL_step rfl (PS_assign rfl) ?_
  refine GL_nil ?_
  refine GQ_sub (.cons (k := 4) rfl (.cons (k := 5) rfl (.nil _))) ?_
  refine GQ_then ?_
  refine G_ret ?_
  refine GQ_then_ret ?_
  refine GQ_ret rfl (.tmp rfl (.tmp rfl .nil)) ?_
  intro w1 hS; refine ⟨?_, hS.toKeep⟩; rw [← Land.roomOf, show Land.conv X (Land.root X i) = _ from ((if_f c1).trans (if_t c3))]; rfl
 have c3p := kz c3
 try dsimp only at c3p
 refine G_skip ?_
 refine GQ_sub (.cons (k := 7) rfl (.cons (k := 8) rfl (.nil _))) ?_
 refine GQ_then ?_
 refine G_seq ?_
 refine G_region ?_
 refine GL_step rfl (PS_move rfl) ?_
 refine GL_step rfl (PS_move rfl) ?_
 refine GL_step rfl (PS_assign rfl) ?_
 refine GL_step rfl (PS_assign rfl) ?_
 refine GL_nil ?_
 refine GQ_sub (.cons (k := 4) rfl (.cons (k := 5) rfl (.nil _))) ?_
 refine GQ_then ?_
 refine G_ret ?_
 refine GQ_ret rfl (.tmp rfl (.tmp rfl .nil)) ?_
 intro w1 hS; refine ⟨?_, hS.toKeep⟩; rw [← Land.roomOf, show Land.conv X (Land.root X i) = _ from ((if_f c1).trans (if_f c3))]; rfl
theorem ref_IsBright_spec (X : Land) (r : Int) (w : World) : Ret Tryz.prog 50 #[.agg X.enc.toArray, .int .i64 r] w fun v w' => v = .bool (X.bright r) ∧ Keep w w' := by
 refine Ret_body [] [] Tryz.func50 rfl rfl rfl (St.start w []) ?_
 refine G_seq ?_
 refine G_region ?_
 refine GL_box rfl rfl rfl (fun b1 => ?_)
 refine GL_step rfl (PS_assign rfl) ?_
 refine GL_nil ?_
 refine GQ_sub (.cons (k := 1) rfl (.cons (k := 2) rfl (.nil _))) ?_
 refine GQ_then ?_
 refine G_seq ?_
 refine G_seq ?_
 refine G_region ?_
 refine GL_step rfl (PS_move rfl) ?_
 refine GL_step rfl (PS_lss rfl rfl) ?_
 refine GL_step rfl (PS_move rfl) ?_
 refine GL_gf (t := 12) rfl rfl rfl (fun q => PS_move rfl) ?_
 refine GL_gf (t := 12) rfl rfl rfl (fun q => PS_gtr (cvE rfl (by rw [q]; rfl)) rfl) ?_
 refine GL_step rfl (PS_or rfl rfl (fun h => by rw [h]; rfl)) ?_
 refine GL_nil ?_
 refine GQ_sub (.cons (k := 1) rfl (.cons (k := 2) rfl (.cons (k := 15) rfl (.nil _)))) ?_
 refine GQ_then ?_
 refine G_cond rfl (fun c1 => ?_) (fun c1 => ?_)
 ·
  have c1p := kz c1
  try dsimp only at c1p
  refine G_seq ?_
  refine G_region ?_
  refine GL_step rfl (PS_assign rfl) ?_
  refine GL_nil ?_
  refine GQ_sub (.cons (k := 4) rfl (.nil _)) ?_
  refine GQ_then ?_
  refine G_ret ?_
  refine GQ_then_ret ?_
  refine GQ_ret rfl (.tmp rfl .nil) ?_
  intro w1 hS; refine ⟨congrArg Value.bool ?_, hS.toKeep⟩; rw [Land.bright_out c1]
 have c1p := kz c1
 try dsimp only at c1p
 have hr : 0 ≤ r ∧ r < 6 := by simp at c1; omega
 refine G_skip ?_
 refine GQ_sub (.cons (k := 1) rfl (.cons (k := 2) rfl (.nil _))) ?_
 refine GQ_then ?_
 refine G_seq ?_
 refine G_region ?_
 refine GL_step rfl (PS_move rfl) ?_
 refine GL_step rfl (PS_fieldAddr fa34_0 rfl) ?_
 refine GL_step rfl (PS_indexAddr ia26 rfl rfl (by omega) (by omega)) ?_
 refine GL_step rfl (PS_fieldAddr fa25_1 rfl) ?_
 refine GL_step rfl (PS_load rfl tys4 (.head _) ((Land.l0.comp (Lens.arr (n := 6) Room.fl (by omega) (by omega))).comp Room.l1) rfl rfl) ?_
 refine GL_step rfl (PS_not rfl) ?_
 refine GL_step rfl (PS_assign rfl) ?_
 refine GL_nil ?_
 refine GQ_sub (.cons (k := 1) rfl (.cons (k := 2) rfl (.cons (k := 5) rfl (.nil _)))) ?_
 refine GQ_then ?_
 refine G_seq ?_
 refine G_seq ?_
 refine G_region ?_
 refine GL_step rfl (PS_fieldAddr fa34_1 rfl) ?_
 refine GL_step rfl (PS_loadA rfl tya29 (.head _) Land.l1 rfl) ?_
 refine GL_step rfl (PS_move rfl) ?_
 refine GL_nil ?_
 refine GQ_sub (.cons (k := 1) rfl (.cons (k := 2) rfl (.cons (k := 5) rfl (.cons (k := 23) rfl (.cons (k := 24) rfl (.nil _)))))) ?_
 refine GQ_then ?_
 refine G_block ?_
 refine G_subF (.cons (k := 5) rfl (.cons (k := 24) rfl (.cons (k := 1) rfl (.cons (k := 2) rfl (.cons (k := 23) rfl (.nil _)))))) ?_
 refine G_loop2_ (fun (k : Int) (c : Bool) => 0 ≤ k ∧ k ≤ 9 ∧ (!(X.rooms.at r).dark || !(allFrom 9 (fun i => !X.lit r i) 9)) = (c || !(allFrom 9 (fun i => !X.lit r i) (9 - k).toNat))) (fun (k : Int) (c : Bool) => (9 - k).toNat) (fun (k : Int) (c : Bool) => [(5, .bool c), (24, .int .i64 k)]) (fun (k : Int) (c : Bool) => []) (0) (!(X.rooms.at r).dark) ?_ rfl rfl (fun k c hI1 => ?_)
 · exact ⟨by omega, by omega, rfl⟩
 obtain ⟨hI11, hI12, hI13⟩ := hI1
 refine G_seq ?_
 refine G_region ?_
 refine GL_step rfl (PS_lss rfl rfl) ?_
 refine GL_nil ?_
 refine GQ_then ?_
 refine G_seq ?_
 refine G_cond rfl (fun c2 => ?_) (fun c2 => ?_)
 ·
  have c2p := kz c2
  try dsimp only at c2p
  rw [allFrom_step (k := k) _ (by omega), Land.bright_step] at hI13
  refine G_skip ?_
  refine GQ_sub (.cons (k := 1) rfl (.cons (k := 2) rfl (.cons (k := 5) rfl (.cons (k := 23) rfl (.cons (k := 24) rfl (.nil _)))))) ?_
  refine GQ_then ?_
  refine G_seq ?_
  refine G_block ?_
  refine G_seq ?_
  refine G_region ?_
  refine GL_step rfl (PS_move rfl) ?_
  refine GL_step rfl (PS_indexAA Thing.fl Tryz.underlying29 tya28 rfl rfl (by omega) (by omega)) ?_
  refine GL_alloc rfl zv28 rfl (fun b2 => ?_)
  refine GL_step rfl (PS_assign rfl) ?_
  refine GL_unit (PU_store (Lens.id Thing.fl.len Thing.fl.one) rfl rfl rfl sz28 rfl .head) ?_
  refine GL_nil ?_
  refine GQ_sub (.cons (k := 1) rfl (.cons (k := 2) rfl (.cons (k := 5) rfl (.cons (k := 6) rfl (.cons (k := 7) rfl (.cons (k := 23) rfl (.cons (k := 24) rfl (.nil _)))))))) ?_
  refine GQ_then ?_
  refine G_seq ?_
  refine G_region ?_
  refine GL_step rfl (PS_loadA rfl tya34 (.tail _ (.head _)) (Lens.id Land.fl.len Land.fl.one) rfl) ?_
  refine GL_step rfl (PS_move rfl) ?_
  refine GL_pure rfl cf77 (.cons rfl (.cons rfl .nil)) (fun w hS => ref_RoomOf_spec _ _ w) ?_
  refine GL_step rfl (PS_move rfl) ?_
  refine GL_step rfl (PS_extract rfl rfl) ?_
  refine GL_step rfl (PS_extract rfl rfl) ?_
  refine GL_step rfl (PS_assign rfl) ?_
  refine GL_step rfl (PS_assign rfl) ?_
  refine GL_nil ?_
  refine GQ_sub (.cons (k := 1) rfl (.cons (k := 2) rfl (.cons (k := 5) rfl (.cons (k := 7) rfl (.cons (k := 8) rfl (.cons (k := 9) rfl (.cons (k := 23) rfl (.cons (k := 24) rfl (.nil _))))))))) ?_
  refine GQ_then ?_
  refine G_region ?_
  refine GL_step rfl (PS_move rfl) ?_
  refine GL_step rfl (PS_move rfl) ?_
  refine GL_gf (t := 35) rfl rfl rfl (fun q => PS_fieldAddr fa28_1 rfl) ?_
  refine GL_gf (t := 35) rfl rfl rfl (fun q => PS_load (cvE rfl (by rw [q]; rfl)) tys3 (.head _) Thing.l1 rfl rfl) ?_
  refine GL_gf (t := 35) rfl rfl rfl (fun q => PS_eql (cvE rfl (by rw [q]; rfl)) rfl) ?_
  refine GL_gf (t := 35) rfl rfl rfl (fun q => PS_move (cvE rfl (by rw [q]; rfl))) ?_
  refine GL_gtc (t := 39) rfl rfl rfl (fun qc q => PS_fieldAddr fa28_4 rfl) ?_
  refine GL_gtc (t := 39) rfl rfl rfl (fun qc q => PS_load (cvE rfl (by rw [qc, q]; rfl)) tys4 (.head _) Thing.l4 rfl rfl) ?_
  refine GL_gf (t := 35) rfl rfl rfl (fun q => PS_and (cvE rfl (by rw [q]; rfl)) rfl (fun h => by rw [q, h]; rfl)) ?_
  refine GL_gf (t := 35) rfl rfl rfl (fun q => PS_move (cvE rfl (by rw [q]; rfl))) ?_
  refine GL_gtc (t := 43) rfl rfl rfl (fun qc q => PS_move rfl) ?_
  refine GL_gf (t := 35) rfl rfl rfl (fun q => PS_and (cvE rfl (by rw [q]; rfl)) rfl (fun h => by rw [q, h]; rfl)) ?_
  refine GL_gf (t := 35) rfl rfl rfl (fun q => PS_move (cvE rfl (by rw [q]; rfl))) ?_
  refine GL_gtc (t := 46) rfl rfl rfl (fun qc q => PS_move rfl) ?_
  refine GL_gtc (t := 46) rfl rfl rfl (fun qc q => PS_move rfl) ?_
  refine GL_gtc (t := 46) rfl rfl rfl (fun qc q => PS_eql (cvE rfl (by rw [qc, q]; rfl)) (cvE rfl (by rw [qc, q]; rfl))) ?_
  refine GL_gf (t := 35) rfl rfl rfl (fun q => PS_and (cvE rfl (by rw [q]; rfl)) rfl (fun h => by rw [q, h]; rfl)) ?_
  refine GL_step rfl (PS_or rfl rfl (fun h => by rw [h]; rfl)) ?_
  refine GL_step rfl (PS_assign rfl) ?_
  refine GL_nil ?_
  refine GQ_sub (.cons (k := 1) rfl (.cons (k := 2) rfl (.cons (k := 5) rfl (.cons (k := 23) rfl (.cons (k := 24) rfl (.nil _)))))) ?_
  refine GQ_block ?_
  refine GQ_then ?_
  refine G_region ?_
  refine GL_step rfl (PS_add rfl rfl (IntWalk.i64_in _ (by omega))) ?_
  refine GL_step rfl (PS_move rfl) ?_
  refine GL_nil ?_
  refine GQ_sub (.cons (k := 1) rfl (.cons (k := 2) rfl (.cons (k := 5) rfl (.cons (k := 23) rfl (.cons (k := 24) rfl (.nil _)))))) ?_
  refine GQ_next2_ (k + 1) _ ?_ ?_ (.cons (k := 5) rfl (.cons (k := 24) rfl (.cons (k := 1) rfl (.cons (k := 2) rfl (.cons (k := 23) rfl (.nil _)))))) (.cons _ (.refl _))
  · exact ⟨by omega, by omega, hI13⟩
  · omega
 have c2p := kz c2
 try dsimp only at c2p
 obtain rfl : k = 9 := by omega
 refine G_exit ?_
 refine GQ_then_exit ?_
 refine GQ_then_exit ?_
 refine GQ_block_exit ?_
 refine GQ_sub (.cons (k := 5) rfl (.nil _)) ?_
 refine GQ_then ?_
 refine G_seq ?_
 refine G_region ?_
 refine GL_step rfl (PS_move rfl) ?_
 refine GL_step rfl (PS_assign rfl) ?_
 refine GL_nil ?_
 refine GQ_sub (.cons (k := 4) rfl (.nil _)) ?_
 refine GQ_then ?_
 refine G_ret ?_
 refine GQ_ret rfl (.tmp rfl .nil) ?_
 intro w1 hS; refine ⟨congrArg Value.bool ?_, hS.toKeep⟩; rw [Land.bright_eq c1, hI13]; show c = (c || !true); simp
theorem ref_IsHidden_spec (X : Land) (b : Int) (w : World) : Ret Tryz.prog 78 #[.agg X.enc.toArray, .int .i64 b] w fun v w' => v = .bool (X.hidden b) ∧ Keep w w' := by
 refine Ret_body [] [] Tryz.func78 rfl rfl rfl (St.start w []) ?_
 refine G_seq ?_
 refine G_region ?_
 refine GL_box rfl rfl rfl (fun b1 => ?_)
 refine GL_step rfl (PS_assign rfl) ?_
 refine GL_nil ?_
 refine GQ_sub (.cons (k := 1) rfl (.cons (k := 2) rfl (.nil _))) ?_
 refine GQ_then ?_
 refine G_seq ?_
 refine G_seq ?_
 refine G_region ?_
 refine GL_step rfl (PS_fieldAddr fa34_1 rfl) ?_
 refine GL_step rfl (PS_loadA rfl tya29 (.head _) Land.l1 rfl) ?_
 refine GL_step rfl (PS_move rfl) ?_
 refine GL_nil ?_
 refine GQ_sub (.cons (k := 1) rfl (.cons (k := 8) rfl (.cons (k := 9) rfl (.nil _)))) ?_
 refine GQ_then ?_
 refine G_block ?_
 refine G_subF (.cons (k := 9) rfl (.cons (k := 1) rfl (.cons (k := 8) rfl (.nil _)))) ?_
 refine G_loop1_ (fun (k : Int) => 0 ≤ k ∧ k ≤ 9 ∧ allFrom 9 (fun i => !X.cloaked b i) 9 = allFrom 9 (fun i => !X.cloaked b i) (9 - k).toNat) (fun (k : Int) => (9 - k).toNat) (fun (k : Int) => [(9, .int .i64 k)]) (fun (k : Int) => []) (0) ?_ rfl rfl (fun k hI1 => ?_)
 · exact ⟨by omega, by omega, rfl⟩
 obtain ⟨hI11, hI12, hI13⟩ := hI1
 refine G_seq ?_
 refine G_region ?_
 refine GL_step rfl (PS_lss rfl rfl) ?_
 refine GL_nil ?_
 refine GQ_then ?_
 refine G_seq ?_
 refine G_cond rfl (fun c1 => ?_) (fun c1 => ?_)
 ·
  have c1p := kz c1
  try dsimp only at c1p
  rw [allFrom_step _ (by omega)] at hI13
  refine G_skip ?_
  refine GQ_sub (.cons (k := 1) rfl (.cons (k := 8) rfl (.cons (k := 9) rfl (.nil _)))) ?_
  refine GQ_then ?_
  refine G_seq ?_
  refine G_block ?_
  refine G_seq ?_
  refine G_region ?_
  refine GL_step rfl (PS_indexAA Thing.fl Tryz.underlying29 tya28 rfl rfl (by omega) (by omega)) ?_
  refine GL_alloc rfl zv28 rfl (fun b2 => ?_)
  refine GL_unit (PU_store (Lens.id Thing.fl.len Thing.fl.one) rfl rfl rfl sz28 rfl .head) ?_
  refine GL_nil ?_
  refine GQ_sub (.cons (k := 1) rfl (.cons (k := 6) rfl (.cons (k := 8) rfl (.cons (k := 9) rfl (.nil _))))) ?_
  refine GQ_then ?_
  refine G_seq ?_
  refine G_region ?_
  refine GL_step rfl (PS_fieldAddr fa28_2 rfl) ?_
  refine GL_step rfl (PS_load rfl tys3 (.head _) Thing.l2 rfl rfl) ?_
  refine GL_step rfl (PS_eql rfl rfl) ?_
  refine GL_step rfl (PS_move rfl) ?_
  refine GL_gt (t := 15) rfl rfl rfl (fun q => PS_fieldAddr fa28_3 rfl) ?_
  refine GL_gt (t := 15) rfl rfl rfl (fun q => PS_load (cvE rfl q) tys3 (.head _) Thing.l3 rfl rfl) ?_
  refine GL_gt (t := 15) rfl rfl rfl (fun q => PS_move rfl) ?_
  refine GL_gt (t := 15) rfl rfl rfl (fun q => PS_eql (cvE rfl q) (cvE rfl q)) ?_
  refine GL_step rfl (PS_and rfl rfl (fun h => h)) ?_
  refine GL_step rfl (PS_move rfl) ?_
  refine GL_gt (t := 21) rfl rfl rfl (fun q => PS_fieldAddr fa28_1 rfl) ?_
  refine GL_gt (t := 21) rfl rfl rfl (fun q => PS_load (cvE rfl q) tys3 (.head _) Thing.l1 rfl rfl) ?_
  refine GL_gt (t := 21) rfl rfl rfl (fun q => PS_eql (cvE rfl q) rfl) ?_
  refine GL_step rfl (PS_and rfl rfl (fun h => h)) ?_
  refine GL_step rfl (PS_move rfl) ?_
  refine GL_gt (t := 26) rfl rfl rfl (fun q => PS_fieldAddr fa28_4 rfl) ?_
  refine GL_gt (t := 26) rfl rfl rfl (fun q => PS_load (cvE rfl q) tys4 (.head _) Thing.l4 rfl rfl) ?_
  refine GL_step rfl (PS_and rfl rfl (fun h => h)) ?_
  refine GL_nil ?_
  refine GQ_sub (.cons (k := 1) rfl (.cons (k := 8) rfl (.cons (k := 9) rfl (.cons (k := 29) rfl (.nil _))))) ?_
  refine GQ_then ?_
  refine G_cond rfl (fun c2 => ?_) (fun c2 => ?_)
  ·
   have c2p := kz c2
   try dsimp only at c2p
   refine G_seq ?_
   refine G_region ?_
   refine GL_step rfl (PS_assign rfl) ?_
   refine GL_nil ?_
   refine GQ_sub (.cons (k := 4) rfl (.nil _)) ?_
   refine GQ_then ?_
   refine G_ret ?_
   refine GQ_block_ret ?_
   refine GQ_then_ret ?_
   refine GQ_then_ret ?_
   refine GQ_block_ret ?_
   refine GQ_then_ret ?_
   refine GQ_ret rfl (.tmp rfl .nil) ?_
   intro w1 hS; refine ⟨congrArg Value.bool ?_, hS.toKeep⟩; rw [Land.hidden, hI13, show X.cloaked b k = true from (Land.cloaked_eq _ _ _).trans c2]; rfl
  have c2p := kz c2
  try dsimp only at c2p
  refine G_skip ?_
  refine GQ_sub (.cons (k := 1) rfl (.cons (k := 8) rfl (.cons (k := 9) rfl (.nil _)))) ?_
  refine GQ_block ?_
  refine GQ_then ?_
  refine G_region ?_
  refine GL_step rfl (PS_add rfl rfl (IntWalk.i64_in _ (by omega))) ?_
  refine GL_step rfl (PS_move rfl) ?_
  refine GL_nil ?_
  refine GQ_sub (.cons (k := 1) rfl (.cons (k := 8) rfl (.cons (k := 9) rfl (.nil _)))) ?_
  refine GQ_next1_ (k + 1) ?_ ?_ (.cons (k := 9) rfl (.cons (k := 1) rfl (.cons (k := 8) rfl (.nil _)))) (.cons _ (.refl _))
  · exact ⟨by omega, by omega, by rw [hI13, show X.cloaked b k = false from (Land.cloaked_eq _ _ _).trans c2]; rfl⟩
  · omega
 have c1p := kz c1
 try dsimp only at c1p
 obtain rfl : k = 9 := by omega
 refine G_exit ?_
 refine GQ_then_exit ?_
 refine GQ_then_exit ?_
 refine GQ_block_exit ?_
 refine GQ_sub (.nil _) ?_
 refine GQ_then ?_
 refine G_seq ?_
 refine G_region ?_
 refine GL_step rfl (PS_assign rfl) ?_
 refine GL_nil ?_
 refine GQ_then ?_
 refine G_ret ?_
 refine GQ_ret rfl (.tmp rfl .nil) ?_
 intro w1 hS; refine ⟨congrArg Value.bool ?_, hS.toKeep⟩; rw [Land.hidden, hI13]; rfl
theorem ref_IsSeen_spec (X : Land) (a b : Int) (w : World) : Ret Tryz.prog 53 #[.agg X.enc.toArray, .int .i64 a, .int .i64 b] w fun v w' => v = .bool (X.sees a b) ∧ Keep w w' := by
 refine Ret_body [] [] Tryz.func53 rfl rfl rfl (St.start w []) ?_
 refine G_seq ?_
 refine G_region ?_
 refine GL_box rfl rfl rfl (fun b1 => ?_)
 refine GL_step rfl (PS_assign rfl) ?_
 refine GL_nil ?_
 refine GQ_sub (.cons (k := 1) rfl (.cons (k := 2) rfl (.cons (k := 3) rfl (.nil _)))) ?_
 refine GQ_then ?_
 refine G_seq ?_
 refine G_seq ?_
 refine G_region ?_
 refine GL_step rfl (PS_loadA rfl tya34 (.head _) (Lens.id Land.fl.len Land.fl.one) rfl) ?_
 refine GL_step rfl (PS_move rfl) ?_
 refine GL_pure rfl cf25 (.cons rfl (.cons rfl .nil)) (fun w hS => ref_about_spec _ _ w) ?_
 refine GL_step rfl (PS_not rfl) ?_
 refine GL_step rfl (PS_move rfl) ?_
 refine GL_gf (t := 11) rfl rfl rfl (fun q => PS_loadA rfl tya34 (.head _) (Lens.id Land.fl.len Land.fl.one) rfl) ?_
 refine GL_gf (t := 11) rfl rfl rfl (fun q => PS_move rfl) ?_
 refine GL_pgf (t := 11) rfl rfl rfl (fun q => by have q1 := q; (try simp at q1); exact PC_of cf25 (.cons (cvE rfl (by rw [q]; rfl)) (.cons (cvE rfl (by rw [q]; rfl)) .nil)) (fun w hS => ref_about_spec _ _ w)) ?_
 refine GL_gf (t := 11) rfl rfl rfl (fun q => PS_not (cvE rfl (by rw [q]; rfl))) ?_
 refine GL_step rfl (PS_or rfl rfl (fun h => by rw [h]; rfl)) ?_
 refine GL_nil ?_
 refine GQ_sub (.cons (k := 1) rfl (.cons (k := 2) rfl (.cons (k := 3) rfl (.cons (k := 16) rfl (.nil _))))) ?_
 refine GQ_then ?_
 refine G_cond rfl (fun c1 => ?_) (fun c1 => ?_)
 ·
  have c1p := kz c1
  try dsimp only at c1p
  refine G_seq ?_
  refine G_region ?_
  refine GL_step rfl (PS_assign rfl) ?_
  refine GL_nil ?_
  refine GQ_sub (.cons (k := 6) rfl (.nil _)) ?_
  refine GQ_then ?_
  refine G_ret ?_
  refine GQ_then_ret ?_
  refine GQ_ret rfl (.tmp rfl .nil) ?_
  intro w1 hS; refine ⟨congrArg Value.bool ?_, hS.toKeep⟩; rw [Land.sees_out c1]
 have c1p := kz c1
 try dsimp only at c1p
 have hr : (0 ≤ a ∧ a < 6) ∧ 0 ≤ b ∧ b < 6 := by simp at c1; have h1 := Land.being_rng c1.1; have h2 := Land.being_rng c1.2; omega
 refine G_skip ?_
 refine GQ_sub (.cons (k := 1) rfl (.cons (k := 2) rfl (.cons (k := 3) rfl (.nil _)))) ?_
 refine GQ_then ?_
 refine G_seq ?_
 refine G_planN (N := 39) [0, 0, 3, 7, 15, 15, 63, 127, 255, 15, 15, 1551, 3599, 7695, 16383, 32767, 65535, 65535, 65535, 458751, 983039, 2031615, 4194303, 8388607, 16777215, 33554431, 33554431, 134217727, 268435455, 536870911, 1073741823, 1073741823, 4294967295, 8589934591, 17179869183, 34359738367, 68719476735, 137438953471, 274877906943] mix (by kernel_rfl) rfl ?_
 refine Plan_float 0 rfl rfl (by kernel_rfl) (OK_s (EX_s (PS_move rfl))) ?_
 refine Plan_float 1 rfl rfl (by kernel_rfl) (OK_s (EX_s (PS_move rfl))) ?_
 refine Plan_float 2 rfl rfl (by kernel_rfl) (OK_s (EX_s (PS_eql rfl rfl))) ?_
 refine Plan_float 3 rfl rfl (by kernel_rfl) (OK_s (EX_s (PS_move rfl))) ?_
 refine Plan_float 4 rfl rfl (by kernel_rfl) (OK_gf (t := 20) rfl rfl (fun q => EX_s (PS_move rfl))) ?_
 refine Plan_float 5 rfl rfl (by kernel_rfl) (OK_gf (t := 20) rfl rfl (fun q => EX_s (PS_fieldAddr fa34_2 rfl))) ?_
 refine Plan_float 6 rfl rfl (by kernel_rfl) (OK_gf (t := 20) rfl rfl (fun q => by have q1 := q; (try simp at q1); exact EX_s (PS_indexAddr ia32 (cvE rfl (by rw [q]; rfl)) (cvE rfl (by rw [q]; rfl)) (by omega) (by omega)))) ?_
 refine Plan_float 7 rfl rfl (by kernel_rfl) (OK_gf (t := 20) rfl rfl (fun q => EX_s (PS_fieldAddr fa31_3 (cvE rfl (by rw [q]; rfl))))) ?_
 refine Plan_float 8 rfl rfl (by kernel_rfl) (OK_gf (t := 20) rfl rfl (fun q => by have q1 := q; (try simp at q1); exact EX_s (PS_load (cvE rfl (by rw [q]; rfl)) tys3 (.head _) ((Land.l2.comp (Lens.arr (n := 6) Being.fl (by omega) (by omega))).comp Being.l3) rfl rfl))) ?_
 refine Plan_float 9 rfl rfl (by kernel_rfl) (OK_gf (t := 20) rfl rfl (fun q => EX_s (PS_move rfl))) ?_
 refine Plan_float 10 rfl rfl (by kernel_rfl) (OK_gf (t := 20) rfl rfl (fun q => EX_s (PS_fieldAddr fa34_2 rfl))) ?_
 refine Plan_float 11 rfl rfl (by kernel_rfl) (OK_gf (t := 20) rfl rfl (fun q => by have q1 := q; (try simp at q1); exact EX_s (PS_indexAddr ia32 (cvE rfl (by rw [q]; rfl)) (cvE rfl (by rw [q]; rfl)) (by omega) (by omega)))) ?_
 refine Plan_float 12 rfl rfl (by kernel_rfl) (OK_gf (t := 20) rfl rfl (fun q => EX_s (PS_fieldAddr fa31_3 (cvE rfl (by rw [q]; rfl))))) ?_
 refine Plan_float 13 rfl rfl (by kernel_rfl) (OK_gf (t := 20) rfl rfl (fun q => by have q1 := q; (try simp at q1); exact EX_s (PS_load (cvE rfl (by rw [q]; rfl)) tys3 (.head _) ((Land.l2.comp (Lens.arr (n := 6) Being.fl (by omega) (by omega))).comp Being.l3) rfl rfl))) ?_
 refine Plan_float 14 rfl rfl (by kernel_rfl) (OK_gf (t := 20) rfl rfl (fun q => EX_s (PS_eql (cvE rfl (by rw [q]; rfl)) (cvE rfl (by rw [q]; rfl))))) ?_
 refine Plan_float 15 rfl rfl (by kernel_rfl) (OK_gf (t := 20) rfl rfl (fun q => EX_s (PS_move (cvE rfl (by rw [q]; rfl))))) ?_
 refine Plan_float 16 rfl rfl (by kernel_rfl) (OK_gtc (t := 32) rfl rfl (fun qc q => EX_s (PS_loadA rfl tya34 (.head _) (Lens.id Land.fl.len Land.fl.one) rfl))) ?_
 refine Plan_float 17 rfl rfl (by kernel_rfl) (OK_gtc (t := 32) rfl rfl (fun qc q => EX_s (PS_move rfl))) ?_
 refine Plan_float 18 rfl rfl (by kernel_rfl) (OK_gtc (t := 32) rfl rfl (fun qc q => EX_s (PS_fieldAddr fa34_2 rfl))) ?_
 refine Plan_float 19 rfl rfl (by kernel_rfl) (OK_gtc (t := 32) rfl rfl (fun qc q => by have q1 := q; have qc1 := qc; (try simp at q1 qc1); exact EX_s (PS_indexAddr ia32 (cvE rfl (by rw [qc, q]; rfl)) (cvE rfl (by rw [qc, q]; rfl)) (by omega) (by omega)))) ?_
 refine Plan_float 20 rfl rfl (by kernel_rfl) (OK_gtc (t := 32) rfl rfl (fun qc q => EX_s (PS_fieldAddr fa31_3 (cvE rfl (by rw [qc, q]; rfl))))) ?_
 refine Plan_float 21 rfl rfl (by kernel_rfl) (OK_gtc (t := 32) rfl rfl (fun qc q => by have q1 := q; have qc1 := qc; (try simp at q1 qc1); exact EX_s (PS_load (cvE rfl (by rw [qc, q]; rfl)) tys3 (.head _) ((Land.l2.comp (Lens.arr (n := 6) Being.fl (by omega) (by omega))).comp Being.l3) rfl rfl))) ?_
 refine Plan_float 22 rfl rfl (by kernel_rfl) (OK_gtc (t := 32) rfl rfl (fun qc q => by have q1 := q; have qc1 := qc; (try simp at q1 qc1); exact EX_c (PC_of cf50 (.cons (cvE rfl (by rw [qc, q]; rfl)) (.cons (cvE rfl (by rw [qc, q]; rfl)) .nil)) (fun w hS => ref_IsBright_spec _ _ w)))) ?_
 refine Plan_float 23 rfl rfl (by kernel_rfl) (OK_gf (t := 20) rfl rfl (fun q => EX_s (PS_and (cvE rfl (by rw [q]; rfl)) rfl (fun h => by rw [q, h]; rfl)))) ?_
 refine Plan_float 24 rfl rfl (by kernel_rfl) (OK_gf (t := 20) rfl rfl (fun q => EX_s (PS_move (cvE rfl (by rw [q]; rfl))))) ?_
 refine Plan_float 25 rfl rfl (by kernel_rfl) (OK_gtc (t := 41) rfl rfl (fun qc q => EX_s (PS_loadA rfl tya34 (.head _) (Lens.id Land.fl.len Land.fl.one) rfl))) ?_
 refine Plan_float 26 rfl rfl (by kernel_rfl) (OK_gtc (t := 41) rfl rfl (fun qc q => EX_s (PS_move rfl))) ?_
 refine Plan_float 27 rfl rfl (by kernel_rfl) (OK_gtc (t := 41) rfl rfl (fun qc q => by have q1 := q; have qc1 := qc; (try simp at q1 qc1); exact EX_c (PC_of cf78 (.cons (cvE rfl (by rw [qc, q]; rfl)) (.cons (cvE rfl (by rw [qc, q]; rfl)) .nil)) (fun w hS => ref_IsHidden_spec _ _ w)))) ?_
 refine Plan_float 28 rfl rfl (by kernel_rfl) (OK_gtc (t := 41) rfl rfl (fun qc q => EX_s (PS_not (cvE rfl (by rw [qc, q]; rfl))))) ?_
 refine Plan_float 29 rfl rfl (by kernel_rfl) (OK_gtc (t := 41) rfl rfl (fun qc q => EX_s (PS_move (cvE rfl (by rw [qc, q]; rfl))))) ?_
 refine Plan_float 30 rfl rfl (by kernel_rfl) (OK_gfc (t := 46) rfl rfl (fun qc q => EX_s (PS_move rfl))) ?_
 refine Plan_float 31 rfl rfl (by kernel_rfl) (OK_gfc (t := 46) rfl rfl (fun qc q => EX_s (PS_fieldAddr fa34_2 rfl))) ?_
 refine Plan_float 32 rfl rfl (by kernel_rfl) (OK_gfc (t := 46) rfl rfl (fun qc q => by have q1 := q; have qc1 := qc; (try simp at q1 qc1); exact EX_s (PS_indexAddr ia32 (cvE rfl (by rw [qc, q]; rfl)) (cvE rfl (by rw [qc, q]; rfl)) (by omega) (by omega)))) ?_
 refine Plan_float 33 rfl rfl (by kernel_rfl) (OK_gfc (t := 46) rfl rfl (fun qc q => EX_s (PS_fieldAddr fa31_2 (cvE rfl (by rw [qc, q]; rfl))))) ?_
 refine Plan_float 34 rfl rfl (by kernel_rfl) (OK_gfc (t := 46) rfl rfl (fun qc q => by have q1 := q; have qc1 := qc; (try simp at q1 qc1); exact EX_s (PS_load (cvE rfl (by rw [qc, q]; rfl)) tys4 (.head _) ((Land.l2.comp (Lens.arr (n := 6) Being.fl (by omega) (by omega))).comp Being.l2) rfl rfl))) ?_
 refine Plan_float 35 rfl rfl (by kernel_rfl) (OK_gtc (t := 41) rfl rfl (fun qc q => EX_s (PS_or (cvE rfl (by rw [qc, q]; rfl)) rfl (fun h => by rw [qc, q, h]; rfl)))) ?_
 refine Plan_float 36 rfl rfl (by kernel_rfl) (OK_gf (t := 20) rfl rfl (fun q => EX_s (PS_and (cvE rfl (by rw [q]; rfl)) rfl (fun h => by rw [q, h]; rfl)))) ?_
 refine Plan_float 37 rfl rfl (by kernel_rfl) (OK_s (EX_s (PS_or rfl rfl (fun h => by rw [h]; rfl)))) ?_
 refine Plan_float 38 rfl rfl (by kernel_rfl) (OK_s (EX_s (PS_assign rfl))) ?_
 refine Plan_end (by kernel_rfl) ?_
 refine GQ_sub (.cons (k := 6) rfl (.nil _)) ?_
 refine GQ_then ?_
 refine G_ret ?_
 refine GQ_ret rfl (.tmp rfl .nil) ?_
 intro w1 hS; refine ⟨congrArg Value.bool ?_, hS.toKeep⟩; rw [Land.sees_eq c1]
theorem ref_Perceived_spec (X : Land) (b : Int) (e : Ing.Event) (w : World) : Ret Tryz.prog 76 #[.agg X.enc.toArray, .int .i64 b, .agg e.enc.toArray] w fun v w' => v = .int .i64 (X.perceives b e) ∧ Keep w w' := by
 refine Ret_body [] [] Tryz.func76 rfl rfl rfl (St.start w []) ?_
 refine G_seq ?_
 refine G_region ?_
 refine GL_box rfl rfl rfl (fun b1 => ?_)
 refine GL_box rfl rfl rfl (fun b2 => ?_)
 refine GL_step rfl (PS_assign rfl) ?_
 refine GL_nil ?_
 refine GQ_sub (.cons (k := 1) rfl (.cons (k := 3) rfl (.cons (k := 5) rfl (.nil _)))) ?_
 refine GQ_then ?_
 refine G_seq ?_
 refine G_seq ?_
 refine G_region ?_
 refine GL_step rfl (PS_loadA rfl tya34 (.tail _ (.head _)) (Lens.id Land.fl.len Land.fl.one) rfl) ?_
 refine GL_step rfl (PS_move rfl) ?_
 refine GL_pure rfl cf25 (.cons rfl (.cons rfl .nil)) (fun w hS => ref_about_spec _ _ w) ?_
 refine GL_step rfl (PS_not rfl) ?_
 refine GL_nil ?_
 refine GQ_sub (.cons (k := 1) rfl (.cons (k := 3) rfl (.cons (k := 5) rfl (.cons (k := 12) rfl (.nil _))))) ?_
 refine GQ_then ?_
 refine G_cond rfl (fun c1 => ?_) (fun c1 => ?_)
 ·
  have c1p := kz c1
  try dsimp only at c1p
  refine G_seq ?_
  refine G_region ?_
  refine GL_step rfl (PS_assign rfl) ?_
  refine GL_nil ?_
  refine GQ_sub (.cons (k := 6) rfl (.nil _)) ?_
  refine GQ_then ?_
  refine G_ret ?_
  refine GQ_then_ret ?_
  refine GQ_ret rfl (.tmp rfl .nil) ?_
  intro w1 hS; refine ⟨?_, hS.toKeep⟩; rw [← Land.perceivesR_eq, show X.perceivesR b e = _ from (if_t c1)]; rfl
 have c1p := kz c1
 try dsimp only at c1p
 have hr : 0 ≤ b ∧ b < 6 := by simp at c1; have h1 := Land.being_rng c1; omega
 refine G_skip ?_
 refine GQ_sub (.cons (k := 1) rfl (.cons (k := 3) rfl (.cons (k := 5) rfl (.nil _)))) ?_
 refine GQ_then ?_
 refine G_seq ?_
 refine G_region ?_
 refine GL_step rfl (PS_move rfl) ?_
 refine GL_step rfl (PS_fieldAddr fa60_2 rfl) ?_
 refine GL_step rfl (PS_load rfl tys3 (.head _) Ing.Event.l2 rfl rfl) ?_
 refine GL_step rfl (PS_eql rfl rfl) ?_
 refine GL_step rfl (PS_assign rfl) ?_
 refine GL_nil ?_
 refine GQ_sub (.cons (k := 1) rfl (.cons (k := 3) rfl (.cons (k := 5) rfl (.cons (k := 7) rfl (.nil _))))) ?_
 refine GQ_then ?_
 refine G_seq ?_
 refine G_seq ?_
 refine G_planN (N := 17) [0, 1, 3, 7, 15, 31, 63, 127, 127, 511, 1023, 2047, 127, 4223, 16383, 32767, 65535] mix (by kernel_rfl) rfl ?_
 refine Plan_float 0 rfl rfl (by kernel_rfl) (OK_s (EX_s (PS_move rfl))) ?_
 refine Plan_float 1 rfl rfl (by kernel_rfl) (OK_s (EX_s (PS_not rfl))) ?_
 refine Plan_float 2 rfl rfl (by kernel_rfl) (OK_s (EX_s (PS_move rfl))) ?_
 refine Plan_float 3 rfl rfl (by kernel_rfl) (OK_gt (t := 19) rfl rfl (fun q => EX_s (PS_fieldAddr fa60_0 rfl))) ?_
 refine Plan_float 4 rfl rfl (by kernel_rfl) (OK_gt (t := 19) rfl rfl (fun q => EX_s (PS_load (cvE rfl q) tys3 (.head _) Ing.Event.l0 rfl rfl))) ?_
 refine Plan_float 5 rfl rfl (by kernel_rfl) (OK_gt (t := 19) rfl rfl (fun q => EX_s (PS_eql (cvE rfl q) rfl))) ?_
 refine Plan_float 6 rfl rfl (by kernel_rfl) (OK_gt (t := 19) rfl rfl (fun q => EX_s (PS_move (cvE rfl q)))) ?_
 refine Plan_float 7 rfl rfl (by kernel_rfl) (OK_gfc (t := 23) rfl rfl (fun qc q => EX_s (PS_move rfl))) ?_
 refine Plan_float 8 rfl rfl (by kernel_rfl) (OK_gfc (t := 23) rfl rfl (fun qc q => EX_s (PS_fieldAddr fa34_2 rfl))) ?_
 refine Plan_float 9 rfl rfl (by kernel_rfl) (OK_gfc (t := 23) rfl rfl (fun qc q => by have q1 := q; have qc1 := qc; (try simp at q1 qc1); exact EX_s (PS_indexAddr ia32 (cvE rfl (by rw [qc, q]; rfl)) (cvE rfl (by rw [qc, q]; rfl)) (by omega) (by omega)))) ?_
 refine Plan_float 10 rfl rfl (by kernel_rfl) (OK_gfc (t := 23) rfl rfl (fun qc q => EX_s (PS_fieldAddr fa31_3 (cvE rfl (by rw [qc, q]; rfl))))) ?_
 refine Plan_float 11 rfl rfl (by kernel_rfl) (OK_gfc (t := 23) rfl rfl (fun qc q => by have q1 := q; have qc1 := qc; (try simp at q1 qc1); exact EX_s (PS_load (cvE rfl (by rw [qc, q]; rfl)) tys3 (.tail _ (.head _)) ((Land.l2.comp (Lens.arr (n := 6) Being.fl (by omega) (by omega))).comp Being.l3) rfl rfl))) ?_
 refine Plan_float 12 rfl rfl (by kernel_rfl) (OK_gfc (t := 23) rfl rfl (fun qc q => EX_s (PS_fieldAddr fa60_1 rfl))) ?_
 refine Plan_float 13 rfl rfl (by kernel_rfl) (OK_gfc (t := 23) rfl rfl (fun qc q => EX_s (PS_load (cvE rfl (by rw [qc, q]; rfl)) tys3 (.head _) Ing.Event.l1 rfl rfl))) ?_
 refine Plan_float 14 rfl rfl (by kernel_rfl) (OK_gfc (t := 23) rfl rfl (fun qc q => EX_s (PS_neq (cvE rfl (by rw [qc, q]; rfl)) (cvE rfl (by rw [qc, q]; rfl))))) ?_
 refine Plan_float 15 rfl rfl (by kernel_rfl) (OK_gt (t := 19) rfl rfl (fun q => EX_s (PS_or (cvE rfl q) rfl (fun h => by rw [q, h]; rfl)))) ?_
 refine Plan_float 16 rfl rfl (by kernel_rfl) (OK_s (EX_s (PS_and rfl rfl (fun h => h)))) ?_
 refine Plan_end (by kernel_rfl) ?_
 refine GQ_sub (.cons (k := 1) rfl (.cons (k := 3) rfl (.cons (k := 5) rfl (.cons (k := 7) rfl (.cons (k := 33) rfl (.nil _)))))) ?_
 refine GQ_then ?_
 refine G_cond rfl (fun c2 => ?_) (fun c2 => ?_)
 ·
  have c2p := kz c2
  try dsimp only at c2p
  refine G_seq ?_
  refine G_region ?_
  refine GL_step rfl (PS_assign rfl) ?_
  refine GL_nil ?_
  refine GQ_sub (.cons (k := 6) rfl (.nil _)) ?_
  refine GQ_then ?_
  refine G_ret ?_
  refine GQ_then_ret ?_
  refine GQ_ret rfl (.tmp rfl .nil) ?_
  intro w1 hS; refine ⟨?_, hS.toKeep⟩; rw [← Land.perceivesR_eq, show X.perceivesR b e = _ from ((if_f c1).trans (if_t c2))]; rfl
 have c2p := kz c2
 try dsimp only at c2p
 refine G_skip ?_
 refine GQ_sub (.cons (k := 1) rfl (.cons (k := 3) rfl (.cons (k := 5) rfl (.cons (k := 7) rfl (.nil _))))) ?_
 refine GQ_then ?_
 refine G_seq ?_
 refine G_region ?_
 refine GL_step rfl (PS_assign rfl) ?_
 refine GL_nil ?_
 refine GQ_then ?_
 refine G_seq ?_
 refine G_seq ?_
 refine G_region ?_
 refine GL_step rfl (PS_move rfl) ?_
 refine GL_step rfl (PS_not rfl) ?_
 refine GL_step rfl (PS_move rfl) ?_
 refine GL_gt (t := 36) rfl rfl rfl (fun q => PS_loadA rfl tya34 (.tail _ (.head _)) (Lens.id Land.fl.len Land.fl.one) rfl) ?_
 refine GL_gt (t := 36) rfl rfl rfl (fun q => PS_move rfl) ?_
 refine GL_gt (t := 36) rfl rfl rfl (fun q => PS_fieldAddr fa60_2 rfl) ?_
 refine GL_gt (t := 36) rfl rfl rfl (fun q => PS_load (cvE rfl q) tys3 (.head _) Ing.Event.l2 rfl rfl) ?_
 refine GL_pgt (t := 36) rfl rfl rfl (fun q => PC_of cf53 (.cons (cvE rfl q) (.cons (cvE rfl q) (.cons (cvE rfl q) .nil))) (fun w hS => ref_IsSeen_spec _ _ _ w)) ?_
 refine GL_gt (t := 36) rfl rfl rfl (fun q => PS_not (cvE rfl q)) ?_
 refine GL_step rfl (PS_and rfl rfl (fun h => h)) ?_
 refine GL_nil ?_
 refine GQ_sub (.cons (k := 1) rfl (.cons (k := 3) rfl (.cons (k := 5) rfl (.cons (k := 8) rfl (.cons (k := 43) rfl (.nil _)))))) ?_
 refine GQ_then ?_
 refine G_cond rfl (fun c3 => ?_) (fun c3 => ?_)
 ·
  have c3p := kz c3
  try dsimp only at c3p
  refine G_seq ?_
  refine G_seq ?_
  refine G_region ?_
  refine GL_step rfl (PS_fieldAddr fa60_0 rfl) ?_
  refine GL_step rfl (PS_load rfl tys3 (.head _) Ing.Event.l0 rfl rfl) ?_
  refine GL_step rfl (PS_neq rfl rfl) ?_
  refine GL_step rfl (PS_move rfl) ?_
  refine GL_gt (t := 47) rfl rfl rfl (fun q => PS_fieldAddr fa60_0 rfl) ?_
  refine GL_gt (t := 47) rfl rfl rfl (fun q => PS_load (cvE rfl q) tys3 (.head _) Ing.Event.l0 rfl rfl) ?_
  refine GL_gt (t := 47) rfl rfl rfl (fun q => PS_neq (cvE rfl q) rfl) ?_
  refine GL_step rfl (PS_and rfl rfl (fun h => h)) ?_
  refine GL_step rfl (PS_move rfl) ?_
  refine GL_gt (t := 52) rfl rfl rfl (fun q => PS_fieldAddr fa60_0 rfl) ?_
  refine GL_gt (t := 52) rfl rfl rfl (fun q => PS_load (cvE rfl q) tys3 (.head _) Ing.Event.l0 rfl rfl) ?_
  refine GL_gt (t := 52) rfl rfl rfl (fun q => PS_neq (cvE rfl q) rfl) ?_
  refine GL_step rfl (PS_and rfl rfl (fun h => h)) ?_
  refine GL_nil ?_
  refine GQ_sub (.cons (k := 1) rfl (.cons (k := 3) rfl (.cons (k := 5) rfl (.cons (k := 56) rfl (.nil _))))) ?_
  refine GQ_then ?_
  refine G_cond rfl (fun c4 => ?_) (fun c4 => ?_)
  ·
   have c4p := kz c4
   try dsimp only at c4p
   refine G_seq ?_
   refine G_region ?_
   refine GL_step rfl (PS_assign rfl) ?_
   refine GL_nil ?_
   refine GQ_sub (.cons (k := 6) rfl (.nil _)) ?_
   refine GQ_then ?_
   refine G_ret ?_
   refine GQ_then_ret ?_
   refine GQ_then_ret ?_
   refine GQ_ret rfl (.tmp rfl .nil) ?_
   intro w1 hS; refine ⟨?_, hS.toKeep⟩; rw [← Land.perceivesR_eq, show X.perceivesR b e = _ from ((if_f c1).trans ((if_f c2).trans ((if_t c3).trans (if_t c4))))]; rfl
  have c4p := kz c4
  try dsimp only at c4p
  refine G_skip ?_
  refine GQ_sub (.cons (k := 1) rfl (.cons (k := 3) rfl (.cons (k := 5) rfl (.nil _)))) ?_
  refine GQ_then ?_
  refine G_region ?_
  refine GL_step rfl (PS_assign rfl) ?_
  refine GL_nil ?_
  refine GQ_then ?_
  refine G_seq ?_
  refine G_seq ?_
  refine G_region ?_
  refine GL_step rfl (PS_fieldAddr fa60_3 rfl) ?_
  refine GL_step rfl (PS_load rfl tys3 (.head _) Ing.Event.l3 rfl rfl) ?_
  refine GL_step rfl (PS_geq rfl rfl) ?_
  refine GL_step rfl (PS_move rfl) ?_
  refine GL_gt (t := 60) rfl rfl rfl (fun q => PS_fieldAddr fa60_3 rfl) ?_
  refine GL_gt (t := 60) rfl rfl rfl (fun q => PS_load (cvE rfl q) tys3 (.head _) Ing.Event.l3 rfl rfl) ?_
  refine GL_gt (t := 60) rfl rfl rfl (fun q => PS_lss (cvE rfl q) rfl) ?_
  refine GL_step rfl (PS_and rfl rfl (fun h => h)) ?_
  refine GL_step rfl (PS_move rfl) ?_
  refine GL_gt (t := 65) rfl rfl rfl (fun q => PS_loadA rfl tya34 (.tail _ (.head _)) (Lens.id Land.fl.len Land.fl.one) rfl) ?_
  refine GL_gt (t := 65) rfl rfl rfl (fun q => PS_move rfl) ?_
  refine GL_gt (t := 65) rfl rfl rfl (fun q => PS_fieldAddr fa60_3 rfl) ?_
  refine GL_gt (t := 65) rfl rfl rfl (fun q => PS_load (cvE rfl q) tys3 (.head _) Ing.Event.l3 rfl rfl) ?_
  refine GL_pgt (t := 65) rfl rfl rfl (fun q => PC_of cf53 (.cons (cvE rfl q) (.cons (cvE rfl q) (.cons (cvE rfl q) .nil))) (fun w hS => ref_IsSeen_spec _ _ _ w)) ?_
  refine GL_gt (t := 65) rfl rfl rfl (fun q => PS_not (cvE rfl q)) ?_
  refine GL_step rfl (PS_and rfl rfl (fun h => h)) ?_
  refine GL_nil ?_
  refine GQ_sub (.cons (k := 8) rfl (.cons (k := 72) rfl (.nil _))) ?_
  refine GQ_then ?_
  refine G_cond rfl (fun c5 => ?_) (fun c5 => ?_)
  ·
   have c5p := kz c5
   try dsimp only at c5p
   refine G_region ?_
   refine GL_step rfl (PS_move rfl) ?_
   refine GL_step rfl (PS_add rfl rfl (IntWalk.i64_in _ (by omega))) ?_
   refine GL_step rfl (PS_assign rfl) ?_
   refine GL_nil ?_
   refine GQ_sub (.cons (k := 8) rfl (.nil _)) ?_
   refine GQ_then ?_
   refine G_seq ?_
   refine G_region ?_
   refine GL_step rfl (PS_move rfl) ?_
   refine GL_step rfl (PS_assign rfl) ?_
   refine GL_nil ?_
   refine GQ_sub (.cons (k := 6) rfl (.nil _)) ?_
   refine GQ_then ?_
   refine G_ret ?_
   refine GQ_ret rfl (.tmp rfl .nil) ?_
   intro w1 hS; refine ⟨?_, hS.toKeep⟩; rw [← Land.perceivesR_eq, show X.perceivesR b e = _ from ((if_f c1).trans ((if_f c2).trans ((if_t c3).trans ((if_f c4).trans (if_t c5)))))]; rfl
  have c5p := kz c5
  try dsimp only at c5p
  refine G_skip ?_
  refine GQ_sub (.cons (k := 8) rfl (.nil _)) ?_
  refine GQ_then ?_
  refine G_seq ?_
  refine G_region ?_
  refine GL_step rfl (PS_move rfl) ?_
  refine GL_step rfl (PS_assign rfl) ?_
  refine GL_nil ?_
  refine GQ_sub (.cons (k := 6) rfl (.nil _)) ?_
  refine GQ_then ?_
  refine G_ret ?_
  refine GQ_ret rfl (.tmp rfl .nil) ?_
  intro w1 hS; refine ⟨?_, hS.toKeep⟩; rw [← Land.perceivesR_eq, show X.perceivesR b e = _ from ((if_f c1).trans ((if_f c2).trans ((if_t c3).trans ((if_f c4).trans (if_f c5)))))]; rfl
 have c3p := kz c3
 try dsimp only at c3p
 refine G_skip ?_
 refine GQ_sub (.cons (k := 1) rfl (.cons (k := 3) rfl (.cons (k := 5) rfl (.cons (k := 8) rfl (.nil _))))) ?_
 refine GQ_then ?_
 refine G_seq ?_
 refine G_seq ?_
 refine G_region ?_
 refine GL_step rfl (PS_fieldAddr fa60_3 rfl) ?_
 refine GL_step rfl (PS_load rfl tys3 (.head _) Ing.Event.l3 rfl rfl) ?_
 refine GL_step rfl (PS_geq rfl rfl) ?_
 refine GL_step rfl (PS_move rfl) ?_
 refine GL_gt (t := 60) rfl rfl rfl (fun q => PS_fieldAddr fa60_3 rfl) ?_
 refine GL_gt (t := 60) rfl rfl rfl (fun q => PS_load (cvE rfl q) tys3 (.head _) Ing.Event.l3 rfl rfl) ?_
 refine GL_gt (t := 60) rfl rfl rfl (fun q => PS_lss (cvE rfl q) rfl) ?_
 refine GL_step rfl (PS_and rfl rfl (fun h => h)) ?_
 refine GL_step rfl (PS_move rfl) ?_
 refine GL_gt (t := 65) rfl rfl rfl (fun q => PS_loadA rfl tya34 (.tail _ (.head _)) (Lens.id Land.fl.len Land.fl.one) rfl) ?_
 refine GL_gt (t := 65) rfl rfl rfl (fun q => PS_move rfl) ?_
 refine GL_gt (t := 65) rfl rfl rfl (fun q => PS_fieldAddr fa60_3 rfl) ?_
 refine GL_gt (t := 65) rfl rfl rfl (fun q => PS_load (cvE rfl q) tys3 (.head _) Ing.Event.l3 rfl rfl) ?_
 refine GL_pgt (t := 65) rfl rfl rfl (fun q => PC_of cf53 (.cons (cvE rfl q) (.cons (cvE rfl q) (.cons (cvE rfl q) .nil))) (fun w hS => ref_IsSeen_spec _ _ _ w)) ?_
 refine GL_gt (t := 65) rfl rfl rfl (fun q => PS_not (cvE rfl q)) ?_
 refine GL_step rfl (PS_and rfl rfl (fun h => h)) ?_
 refine GL_nil ?_
 refine GQ_sub (.cons (k := 8) rfl (.cons (k := 72) rfl (.nil _))) ?_
 refine GQ_then ?_
 refine G_cond rfl (fun c6 => ?_) (fun c6 => ?_)
 ·
  have c6p := kz c6
  try dsimp only at c6p
  refine G_region ?_
  refine GL_step rfl (PS_move rfl) ?_
  refine GL_step rfl (PS_add rfl rfl (IntWalk.i64_in _ (by omega))) ?_
  refine GL_step rfl (PS_assign rfl) ?_
  refine GL_nil ?_
  refine GQ_sub (.cons (k := 8) rfl (.nil _)) ?_
  refine GQ_then ?_
  refine G_seq ?_
  refine G_region ?_
  refine GL_step rfl (PS_move rfl) ?_
  refine GL_step rfl (PS_assign rfl) ?_
  refine GL_nil ?_
  refine GQ_sub (.cons (k := 6) rfl (.nil _)) ?_
  refine GQ_then ?_
  refine G_ret ?_
  refine GQ_ret rfl (.tmp rfl .nil) ?_
  intro w1 hS; refine ⟨?_, hS.toKeep⟩; rw [← Land.perceivesR_eq, show X.perceivesR b e = _ from ((if_f c1).trans ((if_f c2).trans ((if_f c3).trans (if_t c6))))]; rfl
 have c6p := kz c6
 try dsimp only at c6p
 refine G_skip ?_
 refine GQ_sub (.cons (k := 8) rfl (.nil _)) ?_
 refine GQ_then ?_
 refine G_seq ?_
 refine G_region ?_
 refine GL_step rfl (PS_move rfl) ?_
 refine GL_step rfl (PS_assign rfl) ?_
 refine GL_nil ?_
 refine GQ_sub (.cons (k := 6) rfl (.nil _)) ?_
 refine GQ_then ?_
 refine G_ret ?_
 refine GQ_ret rfl (.tmp rfl .nil) ?_
 intro w1 hS; refine ⟨?_, hS.toKeep⟩; rw [← Land.perceivesR_eq, show X.perceivesR b e = _ from ((if_f c1).trans ((if_f c2).trans ((if_f c3).trans (if_f c6))))]; rfl
theorem ref_Everybody_spec (X : Land) (e : Ing.Event) (w : World) : Ret Tryz.prog 49 #[.agg X.enc.toArray, .agg e.enc.toArray] w fun v w' => v = .agg (X.allN e 6).enc.toArray ∧ Keep w w' := by
 refine Ret_body [] [] Tryz.func49 rfl rfl rfl (St.start w []) ?_
 refine G_seq ?_
 refine G_region ?_
 refine GL_box rfl rfl rfl (fun b1 => ?_)
 refine GL_box rfl rfl rfl (fun b2 => ?_)
 refine GL_alloc rfl zv60 rfl (fun b3 => ?_)
 refine GL_nil ?_
 refine GQ_sub (.cons (k := 2) rfl (.cons (k := 3) rfl (.cons (k := 4) rfl (.nil _)))) ?_
 refine GQ_then ?_
 refine G_seq ?_
 refine G_seq ?_
 refine G_region ?_
 refine GL_step rfl (PS_move rfl) ?_
 refine GL_nil ?_
 refine GQ_then ?_
 refine G_block ?_
 refine G_subF (.cons (k := 6) rfl (.cons (k := 2) rfl (.cons (k := 3) rfl (.cons (k := 4) rfl (.nil _))))) ?_
 refine G_pull (.tail .head) ?_
 refine G_loop1_ (fun (k : Int) => 0 ≤ k ∧ k ≤ 6) (fun (k : Int) => (6 - k).toNat) (fun (k : Int) => [(6, .int .i64 k)]) (fun (k : Int) => [Res.box b2 60 (Ing.Event.enc (X.allN e k.toNat))]) (0) ?_ rfl rfl (fun k hI1 => ?_)
 · exact ⟨Int.le_refl _, by omega⟩
 obtain ⟨hI11, hI12⟩ := hI1
 refine G_seq ?_
 refine G_region ?_
 refine GL_step rfl (PS_lss rfl rfl) ?_
 refine GL_nil ?_
 refine GQ_then ?_
 refine G_seq ?_
 refine G_cond rfl (fun c1 => ?_) (fun c1 => ?_)
 ·
  have c1p := kz c1
  try dsimp only at c1p
  refine G_skip ?_
  refine GQ_sub (.cons (k := 2) rfl (.cons (k := 3) rfl (.cons (k := 4) rfl (.cons (k := 6) rfl (.nil _))))) ?_
  refine GQ_then ?_
  refine G_seq ?_
  refine G_block ?_
  refine G_seq ?_
  refine G_region ?_
  refine GL_step rfl (PS_move rfl) ?_
  refine GL_step rfl (PS_assign rfl) ?_
  refine GL_nil ?_
  refine GQ_sub (.cons (k := 2) rfl (.cons (k := 3) rfl (.cons (k := 4) rfl (.cons (k := 5) rfl (.cons (k := 6) rfl (.nil _)))))) ?_
  refine GQ_then ?_
  refine G_region ?_
  refine GL_step rfl (PS_move rfl) ?_
  refine GL_step rfl (PS_loadA rfl tya34 (.tail _ (.tail _ (.head _))) (Lens.id Land.fl.len Land.fl.one) rfl) ?_
  refine GL_step rfl (PS_move rfl) ?_
  refine GL_step rfl (PS_loadA rfl tya60 (.head _) (Lens.id Ing.Event.fl.len Ing.Event.fl.one) rfl) ?_
  refine GL_pure rfl cf76 (.cons rfl (.cons rfl (.cons rfl .nil))) (fun w hS => ref_Perceived_spec _ _ _ w) ?_
  refine GL_step rfl (PS_fieldAddr fa60_10 rfl) ?_
  refine GL_step rfl (PS_indexAddr ia22 rfl rfl (by omega) (by omega)) ?_
  refine GL_unit (PU_store (Ing.Event.l10.comp (Lens.arr (n := 6) flI (by omega) (by omega))) rfl rfl rfl sz3 rfl .head) ?_
  refine GL_nil ?_
  refine GQ_sub (.cons (k := 2) rfl (.cons (k := 3) rfl (.cons (k := 4) rfl (.cons (k := 6) rfl (.nil _))))) ?_
  refine GQ_block ?_
  refine GQ_then ?_
  refine G_region ?_
  refine GL_step rfl (PS_add rfl rfl (IntWalk.i64_in _ (by omega))) ?_
  refine GL_step rfl (PS_move rfl) ?_
  refine GL_nil ?_
  refine GQ_sub (.cons (k := 2) rfl (.cons (k := 3) rfl (.cons (k := 4) rfl (.cons (k := 6) rfl (.nil _))))) ?_
  refine GQ_next1_ (k + 1) ?_ ?_ (.cons (k := 6) rfl (.cons (k := 2) rfl (.cons (k := 3) rfl (.cons (k := 4) rfl (.nil _))))) (by rw [Land.allN_step (by omega)]; exact (.refl _))
  · exact ⟨by omega, by omega⟩
  · omega
 have c1p := kz c1
 try dsimp only at c1p
 obtain rfl : k = 6 := by omega
 refine G_exit ?_
 refine GQ_then_exit ?_
 refine GQ_then_exit ?_
 refine GQ_block_exit ?_
 refine GQ_sub (.cons (k := 3) rfl (.cons (k := 4) rfl (.nil _))) ?_
 refine GQ_then ?_
 refine G_seq ?_
 refine G_region ?_
 refine GL_step rfl (PS_loadA rfl tya60 (.head _) (Lens.id Ing.Event.fl.len Ing.Event.fl.one) rfl) ?_
 refine GL_unit (PU_store (Lens.id Ing.Event.fl.len Ing.Event.fl.one) rfl rfl rfl sz60 rfl (.tail .head)) ?_
 refine GL_nil ?_
 refine GQ_sub (.cons (k := 4) rfl (.nil _)) ?_
 refine GQ_then ?_
 refine G_ret ?_
 refine GQ_ret rfl (.cell rfl (.tail _ (.head _)) (.inl ⟨(by rw [Ing.Event.fl.len]; exact tya60), rfl⟩) .nil) ?_
 intro w1 hS; refine ⟨?_, hS.toKeep⟩; rfl
theorem ref_turn_add_spec (b : Nat) (T : Turn) (g : Hd) (k o d n : Int) (x u : Str) (hg : g.len = T.out.length) (hb : 0 ≤ T.b ∧ T.b < 6) (ho : o < 6) (hn : T.out.length ≤ 100000) : Ctr Tryz.prog 20 #[.pointer (some ⟨b, 0, none⟩), .int .i64 k, .int .i64 o, .int .i64 d, .int .i64 n, vstr x, vstr u] [Res.box b 57 (TurnV.enc ⟨T.w, T.b, g⟩), Res.own g 60 16 (T.out.flatMap Ing.Event.enc)] (fun v B => ∃ g' : Hd, v = .tuple #[] ∧ g'.len = (T.happens { Turn.evk k with other := o, dir := d, n := n, thing := x, text := u }).out.length ∧ B = [Res.box b 57 (TurnV.enc ⟨(T.happens { Turn.evk k with other := o, dir := d, n := n, thing := x, text := u }).w, (T.happens { Turn.evk k with other := o, dir := d, n := n, thing := x, text := u }).b, g'⟩), Res.own g' 60 16 ((T.happens { Turn.evk k with other := o, dir := d, n := n, thing := x, text := u }).out.flatMap Ing.Event.enc)]) := by
 intro w hS0
 refine Ret_body _ _ Tryz.func20 rfl rfl rfl (hS0) ?_
 refine G_seq ?_
 refine G_planN (N := 35) [0, 0, 0, 4, 12, 28, 2, 66, 194, 510, 1022, 2046, 0, 4096, 12288, 28672, 0, 0, 0, 0, 0, 1048576, 3145728, 7340032, 524288, 17301504, 50855936, 133693440, 267911168, 536346624, 0, 0, 4294967295, 0, 17179869183] mix (by kernel_rfl) rfl ?_
 refine Plan_float 0 rfl rfl (by kernel_rfl) (OK_s (EX_s (PS_move rfl))) ?_
 refine Plan_float 1 rfl rfl (by kernel_rfl) (OK_s (EX_s (PS_move rfl))) ?_
 refine Plan_float 2 rfl rfl (by kernel_rfl) (OK_s (EX_s (PS_move rfl))) ?_
 refine Plan_float 3 rfl rfl (by kernel_rfl) (OK_s (EX_s (PS_nilCheck rfl))) ?_
 refine Plan_float 4 rfl rfl (by kernel_rfl) (OK_s (EX_s (PS_fieldAddr fa57_1 rfl))) ?_
 refine Plan_float 5 rfl rfl (by kernel_rfl) (OK_s (EX_s (PS_load rfl tys3 (.head _) TurnV.l1 rfl rfl))) ?_
 refine Plan_float 6 rfl rfl (by kernel_rfl) (OK_s (EX_s (PS_nilCheck rfl))) ?_
 refine Plan_float 7 rfl rfl (by kernel_rfl) (OK_s (EX_s (PS_fieldAddr fa57_0 rfl))) ?_
 refine Plan_float 8 rfl rfl (by kernel_rfl) (OK_s (EX_s (PS_fieldAddr fa34_2 rfl))) ?_
 refine Plan_float 9 rfl rfl (by kernel_rfl) (OK_s (EX_s (PS_indexAddr ia32 rfl rfl (by (try dsimp only at *); omega) (by (try dsimp only at *); omega)))) ?_
 refine Plan_float 10 rfl rfl (by kernel_rfl) (OK_s (EX_s (PS_fieldAddr fa31_3 rfl))) ?_
 refine Plan_float 11 rfl rfl (by kernel_rfl) (OK_s (EX_s (PS_load rfl tys3 (.head _) (((TurnV.l0.comp Land.l2).comp (Lens.arr (n := 6) Being.fl (by (try dsimp only at *); omega) (by (try dsimp only at *); omega))).comp Being.l3) rfl rfl))) ?_
 refine Plan_float 12 rfl rfl (by kernel_rfl) (OK_s (EX_s (PS_move rfl))) ?_
 refine Plan_float 13 rfl rfl (by kernel_rfl) (OK_s (EX_s (PS_nilCheck rfl))) ?_
 refine Plan_float 14 rfl rfl (by kernel_rfl) (OK_s (EX_s (PS_fieldAddr fa57_1 rfl))) ?_
 refine Plan_float 15 rfl rfl (by kernel_rfl) (OK_s (EX_s (PS_load rfl tys3 (.head _) TurnV.l1 rfl rfl))) ?_
 refine Plan_float 16 rfl rfl (by kernel_rfl) (OK_s (EX_s (PS_move rfl))) ?_
 refine Plan_float 17 rfl rfl (by kernel_rfl) (OK_s (EX_s (PS_move rfl))) ?_
 refine Plan_float 18 rfl rfl (by kernel_rfl) (OK_s (EX_s (PS_move rfl))) ?_
 refine Plan_float 19 rfl rfl (by kernel_rfl) (OK_s (EX_s (PS_move rfl))) ?_
 refine Plan_float 20 rfl rfl (by kernel_rfl) (OK_s (EX_s (PS_move rfl))) ?_
 refine Plan_float 21 rfl rfl (by kernel_rfl) (OK_s (EX_s (PS_nilCheck rfl))) ?_
 refine Plan_float 22 rfl rfl (by kernel_rfl) (OK_s (EX_s (PS_fieldAddr fa57_1 rfl))) ?_
 refine Plan_float 23 rfl rfl (by kernel_rfl) (OK_s (EX_s (PS_load rfl tys3 (.head _) TurnV.l1 rfl rfl))) ?_
 refine Plan_float 24 rfl rfl (by kernel_rfl) (OK_s (EX_s (PS_nilCheck rfl))) ?_
 refine Plan_float 25 rfl rfl (by kernel_rfl) (OK_s (EX_s (PS_fieldAddr fa57_0 rfl))) ?_
 refine Plan_float 26 rfl rfl (by kernel_rfl) (OK_s (EX_s (PS_fieldAddr fa34_2 rfl))) ?_
 refine Plan_float 27 rfl rfl (by kernel_rfl) (OK_s (EX_s (PS_indexAddr ia32 rfl rfl (by (try dsimp only at *); omega) (by (try dsimp only at *); omega)))) ?_
 refine Plan_float 28 rfl rfl (by kernel_rfl) (OK_s (EX_s (PS_fieldAddr fa31_0 rfl))) ?_
 refine Plan_float 29 rfl rfl (by kernel_rfl) (OK_s (EX_s (PS_load rfl tys9 (.head _) (((TurnV.l0.comp Land.l2).comp (Lens.arr (n := 6) Being.fl (by (try dsimp only at *); omega) (by (try dsimp only at *); omega))).comp Being.l0) rfl rfl))) ?_
 refine Plan_float 30 rfl rfl (by kernel_rfl) (OK_s (EX_s (PS_move rfl))) ?_
 refine Plan_float 31 rfl rfl (by kernel_rfl) (OK_s (EX_s (PS_move rfl))) ?_
 refine Plan_float 32 rfl rfl (by kernel_rfl) (OK_s (EX_s (PS_build pl60 zv60 rfl (.cons Ing.Event.l0 rfl rfl rfl (.cons Ing.Event.l1 rfl rfl rfl (.cons Ing.Event.l2 rfl rfl rfl (.cons Ing.Event.l3 rfl rfl rfl (.cons Ing.Event.l4 rfl rfl rfl (.cons Ing.Event.l5 rfl rfl rfl (.cons Ing.Event.l6 rfl rfl rfl (.cons Ing.Event.l8 rfl rfl rfl (.cons Ing.Event.l9 rfl rfl rfl .nil)))))))))))) ?_
 refine Plan_chain 33 rfl (by kernel_rfl) ?_
 refine GL_alloc rfl zv60 rfl (fun b1 => ?_)
 refine GL_hand rfl ⟨?_, ?_⟩
 · exact (Pend_okv rfl (OK_s (EX_s (PS_build pl60 zv60 rfl (.cons Ing.Event.l0 rfl rfl rfl (.cons Ing.Event.l1 rfl rfl rfl (.cons Ing.Event.l2 rfl rfl rfl (.cons Ing.Event.l3 rfl rfl rfl (.cons Ing.Event.l4 rfl rfl rfl (.cons Ing.Event.l5 rfl rfl rfl (.cons Ing.Event.l6 rfl rfl rfl (.cons Ing.Event.l8 rfl rfl rfl (.cons Ing.Event.l9 rfl rfl rfl .nil)))))))))))) rfl rfl (Pend_okv rfl (OK_s (EX_s (PS_move rfl))) rfl rfl (Pend_okv rfl (OK_s (EX_s (PS_move rfl))) rfl rfl (Pend_okv rfl (OK_s (EX_s (PS_load rfl tys9 (.tail _ (.head _)) (((TurnV.l0.comp Land.l2).comp (Lens.arr (n := 6) Being.fl (by (try dsimp only at *); omega) (by (try dsimp only at *); omega))).comp Being.l0) rfl rfl))) rfl rfl (Pend_okv rfl (OK_s (EX_s (PS_fieldAddr fa31_0 rfl))) rfl rfl (Pend_okv rfl (OK_s (EX_s (PS_indexAddr ia32 rfl rfl (by (try dsimp only at *); omega) (by (try dsimp only at *); omega)))) rfl rfl (Pend_okv rfl (OK_s (EX_s (PS_fieldAddr fa34_2 rfl))) rfl rfl (Pend_okv rfl (OK_s (EX_s (PS_fieldAddr fa57_0 rfl))) rfl rfl (Pend_okv rfl (OK_s (EX_s (PS_nilCheck rfl))) rfl rfl (Pend_okv rfl (OK_s (EX_s (PS_load rfl tys3 (.tail _ (.head _)) TurnV.l1 rfl rfl))) rfl rfl (Pend_okv rfl (OK_s (EX_s (PS_fieldAddr fa57_1 rfl))) rfl rfl (Pend_okv rfl (OK_s (EX_s (PS_nilCheck rfl))) rfl rfl (Pend_okv rfl (OK_s (EX_s (PS_move rfl))) rfl rfl (Pend_okv rfl (OK_s (EX_s (PS_move rfl))) rfl rfl (Pend_okv rfl (OK_s (EX_s (PS_move rfl))) rfl rfl (Pend_okv rfl (OK_s (EX_s (PS_move rfl))) rfl rfl (Pend_okv rfl (OK_s (EX_s (PS_move rfl))) rfl rfl (Pend_okv rfl (OK_s (EX_s (PS_load rfl tys3 (.tail _ (.head _)) TurnV.l1 rfl rfl))) rfl rfl (Pend_okv rfl (OK_s (EX_s (PS_fieldAddr fa57_1 rfl))) rfl rfl (Pend_okv rfl (OK_s (EX_s (PS_nilCheck rfl))) rfl rfl (Pend_okv rfl (OK_s (EX_s (PS_move rfl))) rfl rfl (Pend_okv rfl (OK_s (EX_s (PS_load rfl tys3 (.tail _ (.head _)) (((TurnV.l0.comp Land.l2).comp (Lens.arr (n := 6) Being.fl (by (try dsimp only at *); omega) (by (try dsimp only at *); omega))).comp Being.l3) rfl rfl))) rfl rfl (Pend_okv rfl (OK_s (EX_s (PS_fieldAddr fa31_3 rfl))) rfl rfl (Pend_okv rfl (OK_s (EX_s (PS_indexAddr ia32 rfl rfl (by (try dsimp only at *); omega) (by (try dsimp only at *); omega)))) rfl rfl (Pend_okv rfl (OK_s (EX_s (PS_fieldAddr fa34_2 rfl))) rfl rfl (Pend_okv rfl (OK_s (EX_s (PS_fieldAddr fa57_0 rfl))) rfl rfl (Pend_okv rfl (OK_s (EX_s (PS_nilCheck rfl))) rfl rfl (Pend_okv rfl (OK_s (EX_s (PS_load rfl tys3 (.tail _ (.head _)) TurnV.l1 rfl rfl))) rfl rfl (Pend_okv rfl (OK_s (EX_s (PS_fieldAddr fa57_1 rfl))) rfl rfl (Pend_okv rfl (OK_s (EX_s (PS_nilCheck rfl))) rfl rfl (Pend_okv rfl (OK_s (EX_s (PS_move rfl))) rfl rfl (Pend_okv rfl (OK_s (EX_s (PS_move rfl))) rfl rfl (Pend_okv rfl (OK_s (EX_s (PS_move rfl))) rfl rfl Pend_nil)))))))))))))))))))))))))))))))))
 refine Plan_chain 34 rfl (by kernel_rfl) ?_
 refine GL_unit (PU_store (Lens.id Ing.Event.fl.len Ing.Event.fl.one) rfl rfl rfl sz60 rfl .head) ?_
 refine GL_hand0 rfl ⟨?_, ?_⟩
 · exact (Pend_skip (by kernel_rfl) (Pend_skip (by kernel_rfl) (Pend_skip (by kernel_rfl) (Pend_skip (by kernel_rfl) (Pend_skip (by kernel_rfl) (Pend_skip (by kernel_rfl) (Pend_skip (by kernel_rfl) (Pend_skip (by kernel_rfl) (Pend_skip (by kernel_rfl) (Pend_skip (by kernel_rfl) (Pend_skip (by kernel_rfl) (Pend_skip (by kernel_rfl) (Pend_skip (by kernel_rfl) (Pend_skip (by kernel_rfl) (Pend_skip (by kernel_rfl) (Pend_skip (by kernel_rfl) (Pend_skip (by kernel_rfl) (Pend_skip (by kernel_rfl) (Pend_skip (by kernel_rfl) (Pend_skip (by kernel_rfl) (Pend_skip (by kernel_rfl) (Pend_skip (by kernel_rfl) (Pend_skip (by kernel_rfl) (Pend_skip (by kernel_rfl) (Pend_skip (by kernel_rfl) (Pend_skip (by kernel_rfl) (Pend_skip (by kernel_rfl) (Pend_skip (by kernel_rfl) (Pend_skip (by kernel_rfl) (Pend_skip (by kernel_rfl) (Pend_skip (by kernel_rfl) (Pend_skip (by kernel_rfl) (Pend_skip (by kernel_rfl) Pend_nil)))))))))))))))))))))))))))))))))
 refine Plan_end (by kernel_rfl) ?_
 refine GQ_sub (.cons (k := 0) rfl (.cons (k := 2) rfl (.cons (k := 14) rfl (.nil _)))) ?_
 refine GQ_then ?_
 refine G_seq ?_
 refine G_seq ?_
 refine G_swap (c' := Ing.Event.enc ⟨k, (T.w.beings.at T.b).room, T.b, o, d, n, (T.w.beings.at T.b).name, [], x, u, default⟩) (fun _ => .head) rfl ?_
 refine G_region ?_
 refine GL_step rfl (PS_move rfl) ?_
 refine GL_step rfl (PS_geq rfl rfl) ?_
 refine GL_nil ?_
 refine GQ_sub (.cons (k := 0) rfl (.cons (k := 2) rfl (.cons (k := 14) rfl (.cons (k := 49) rfl (.nil _))))) ?_
 refine GQ_then ?_
 refine G_cond rfl (fun c1 => ?_) (fun c1 => ?_)
 ·
  have c1p := kz c1
  try dsimp only at c1p
  refine G_region ?_
  refine GL_step rfl (PS_move rfl) ?_
  refine GL_step rfl (PS_move rfl) ?_
  refine GL_step rfl (PS_nilCheck rfl) ?_
  refine GL_step rfl (PS_fieldAddr fa57_0 rfl) ?_
  refine GL_step rfl (PS_fieldAddr fa34_2 rfl) ?_
  refine GL_step rfl (PS_indexAddr ia32 rfl rfl (by (try dsimp only at *); omega) (by (try dsimp only at *); omega)) ?_
  refine GL_step rfl (PS_fieldAddr fa31_0 rfl) ?_
  refine GL_step rfl (PS_load rfl tys9 (.tail _ (.head _)) (((TurnV.l0.comp Land.l2).comp (Lens.arr (n := 6) Being.fl (by (try dsimp only at *); omega) (by (try dsimp only at *); omega))).comp Being.l0) rfl rfl) ?_
  refine GL_step rfl (PS_fieldAddr fa60_7 rfl) ?_
  refine GL_unit (PU_store Ing.Event.l7 rfl rfl rfl sz9 rfl .head) ?_
  refine GL_nil ?_
  refine GQ_sub (.cons (k := 0) rfl (.cons (k := 14) rfl (.nil _))) ?_
  refine GQ_then ?_
  refine G_planN (N := 16) [0, 0, 2, 6, 14, 0, 32, 96, 224, 0, 992, 2016, 4094, 8191, 16383, 32767] mix (by kernel_rfl) rfl ?_
  refine Plan_float 0 rfl rfl (by kernel_rfl) (OK_s (EX_s (PS_move rfl))) ?_
  refine Plan_float 1 rfl rfl (by kernel_rfl) (OK_s (EX_s (PS_move rfl))) ?_
  refine Plan_float 2 rfl rfl (by kernel_rfl) (OK_s (EX_s (PS_nilCheck rfl))) ?_
  refine Plan_float 3 rfl rfl (by kernel_rfl) (OK_s (EX_s (PS_fieldAddr fa57_2 rfl))) ?_
  refine Plan_float 4 rfl rfl (by kernel_rfl) (OK_s (EX_s (PS_load rfl tys35 (.tail _ (.head _)) TurnV.l2 rfl rfl))) ?_
  refine Plan_float 5 rfl rfl (by kernel_rfl) (OK_s (EX_s (PS_move rfl))) ?_
  refine Plan_float 6 rfl rfl (by kernel_rfl) (OK_s (EX_s (PS_nilCheck rfl))) ?_
  refine Plan_float 7 rfl rfl (by kernel_rfl) (OK_s (EX_s (PS_fieldAddr fa57_0 rfl))) ?_
  refine Plan_float 8 rfl rfl (by kernel_rfl) (OK_s (EX_s (PS_loadA rfl tya34 (.tail _ (.head _)) TurnV.l0 rfl))) ?_
  refine Plan_float 9 rfl rfl (by kernel_rfl) (OK_s (EX_s (PS_loadA rfl tya60 (.head _) (Lens.id Ing.Event.fl.len Ing.Event.fl.one) rfl))) ?_
  refine Plan_float 10 rfl rfl (by kernel_rfl) (OK_s (EX_c (PC_of cf49 (.cons rfl (.cons rfl .nil)) (fun w hS => ref_Everybody_spec _ _ w)))) ?_
  refine Plan_chain 11 rfl (by kernel_rfl) ?_
  refine GL_bs1F Ing.Event.enc Ing.Event.fl rfl Tryz.underlying35 sz60 zv60 rfl (by decide) (by decide) rfl rfl (fun b2 => ?_)
  refine GL_hand rfl ⟨?_, ?_⟩
  · exact (Pend_skip (by kernel_rfl) (Pend_skip (by kernel_rfl) (Pend_skip (by kernel_rfl) (Pend_skip (by kernel_rfl) (Pend_skip (by kernel_rfl) (Pend_skip (by kernel_rfl) (Pend_okv rfl (OK_s (EX_s (PS_load rfl tys35 (.tail _ (.tail _ (.head _))) TurnV.l2 rfl rfl))) rfl rfl (Pend_okv rfl (OK_s (EX_s (PS_fieldAddr fa57_2 rfl))) rfl rfl (Pend_okv rfl (OK_s (EX_s (PS_nilCheck rfl))) rfl rfl (Pend_okv rfl (OK_s (EX_s (PS_move rfl))) rfl rfl (Pend_okv rfl (OK_s (EX_s (PS_move rfl))) rfl rfl Pend_nil)))))))))))
  refine Plan_chain 12 rfl (by kernel_rfl) ?_
  refine GL_appendF Ing.Event.fl rfl Tryz.underlying35 sz60 zv60 rfl by60 (by decide) (by decide) rfl rfl (fun w hS => Src.sliceT Tryz.underlying35 ((Kn.own (.head _)) w hS)) (by (try dsimp only); omega) (fun _ => (.tail (.tail (.tail .head)))) (fun h1 h1l h1z => ?_)
  refine GL_hand rfl ⟨?_, ?_⟩
  · exact (Pend_skip (by kernel_rfl) (Pend_skip (by kernel_rfl) (Pend_skip (by kernel_rfl) (Pend_skip (by kernel_rfl) (Pend_skip (by kernel_rfl) (Pend_skip (by kernel_rfl) (Pend_skip (by kernel_rfl) (Pend_skip (by kernel_rfl) (Pend_skip (by kernel_rfl) (Pend_skip (by kernel_rfl) (Pend_okv rfl (OK_s (EX_s (PS_move rfl))) rfl rfl Pend_nil)))))))))))
  refine Plan_float 13 rfl rfl (by kernel_rfl) (OK_s (EX_s (PS_nilCheck rfl))) ?_
  refine Plan_float 14 rfl rfl (by kernel_rfl) (OK_s (EX_s (PS_fieldAddr fa57_2 rfl))) ?_
  refine Plan_chain 15 rfl (by kernel_rfl) ?_
  refine GL_unit (PU_store TurnV.l2 rfl rfl rfl sz35 rfl (.tail (.tail .head))) ?_
  refine GL_hand0 rfl ⟨?_, ?_⟩
  · exact (Pend_skip (by kernel_rfl) (Pend_skip (by kernel_rfl) (Pend_skip (by kernel_rfl) (Pend_skip (by kernel_rfl) (Pend_skip (by kernel_rfl) (Pend_skip (by kernel_rfl) (Pend_skip (by kernel_rfl) (Pend_skip (by kernel_rfl) (Pend_skip (by kernel_rfl) (Pend_skip (by kernel_rfl) (Pend_skip (by kernel_rfl) (Pend_skip (by kernel_rfl) (Pend_skip (by kernel_rfl) Pend_nil)))))))))))))
  refine Plan_end (by kernel_rfl) ?_
  refine GQ_end rfl .nil ?_
  intro w1 hS
  have hS := (hS.perm (Pulls.perm (.cons (.tail (.tail .head)) (.cons (.tail (.tail .head)) .nil)))).headL
  have hq := T.add_t (k := k) (d := d) (n := n) (x := x) (u := u) c1
  refine ⟨_, ⟨?gqTrue, rfl, ?hlTrue, ?hBTrue⟩, hS⟩
  case hBTrue => rw [hq]; (try rfl)
  case hlTrue => rw [hq]; simp only [List.length_append, List.length_cons, List.length_nil]; (try dsimp only at *); omega
 have c1p := kz c1
 try dsimp only at c1p
 refine G_skip ?_
 refine GQ_sub (.cons (k := 0) rfl (.cons (k := 14) rfl (.nil _))) ?_
 refine GQ_then ?_
 refine G_planN (N := 16) [0, 0, 2, 6, 14, 0, 32, 96, 224, 0, 992, 2016, 4094, 8191, 16383, 32767] mix (by kernel_rfl) rfl ?_
 refine Plan_float 0 rfl rfl (by kernel_rfl) (OK_s (EX_s (PS_move rfl))) ?_
 refine Plan_float 1 rfl rfl (by kernel_rfl) (OK_s (EX_s (PS_move rfl))) ?_
 refine Plan_float 2 rfl rfl (by kernel_rfl) (OK_s (EX_s (PS_nilCheck rfl))) ?_
 refine Plan_float 3 rfl rfl (by kernel_rfl) (OK_s (EX_s (PS_fieldAddr fa57_2 rfl))) ?_
 refine Plan_float 4 rfl rfl (by kernel_rfl) (OK_s (EX_s (PS_load rfl tys35 (.tail _ (.head _)) TurnV.l2 rfl rfl))) ?_
 refine Plan_float 5 rfl rfl (by kernel_rfl) (OK_s (EX_s (PS_move rfl))) ?_
 refine Plan_float 6 rfl rfl (by kernel_rfl) (OK_s (EX_s (PS_nilCheck rfl))) ?_
 refine Plan_float 7 rfl rfl (by kernel_rfl) (OK_s (EX_s (PS_fieldAddr fa57_0 rfl))) ?_
 refine Plan_float 8 rfl rfl (by kernel_rfl) (OK_s (EX_s (PS_loadA rfl tya34 (.tail _ (.head _)) TurnV.l0 rfl))) ?_
 refine Plan_float 9 rfl rfl (by kernel_rfl) (OK_s (EX_s (PS_loadA rfl tya60 (.head _) (Lens.id Ing.Event.fl.len Ing.Event.fl.one) rfl))) ?_
 refine Plan_float 10 rfl rfl (by kernel_rfl) (OK_s (EX_c (PC_of cf49 (.cons rfl (.cons rfl .nil)) (fun w hS => ref_Everybody_spec _ _ w)))) ?_
 refine Plan_chain 11 rfl (by kernel_rfl) ?_
 refine GL_bs1F Ing.Event.enc Ing.Event.fl rfl Tryz.underlying35 sz60 zv60 rfl (by decide) (by decide) rfl rfl (fun b3 => ?_)
 refine GL_hand rfl ⟨?_, ?_⟩
 · exact (Pend_skip (by kernel_rfl) (Pend_skip (by kernel_rfl) (Pend_skip (by kernel_rfl) (Pend_skip (by kernel_rfl) (Pend_skip (by kernel_rfl) (Pend_skip (by kernel_rfl) (Pend_okv rfl (OK_s (EX_s (PS_load rfl tys35 (.tail _ (.tail _ (.head _))) TurnV.l2 rfl rfl))) rfl rfl (Pend_okv rfl (OK_s (EX_s (PS_fieldAddr fa57_2 rfl))) rfl rfl (Pend_okv rfl (OK_s (EX_s (PS_nilCheck rfl))) rfl rfl (Pend_okv rfl (OK_s (EX_s (PS_move rfl))) rfl rfl (Pend_okv rfl (OK_s (EX_s (PS_move rfl))) rfl rfl Pend_nil)))))))))))
 refine Plan_chain 12 rfl (by kernel_rfl) ?_
 refine GL_appendF Ing.Event.fl rfl Tryz.underlying35 sz60 zv60 rfl by60 (by decide) (by decide) rfl rfl (fun w hS => Src.sliceT Tryz.underlying35 ((Kn.own (.head _)) w hS)) (by (try dsimp only); omega) (fun _ => (.tail (.tail (.tail .head)))) (fun h2 h2l h2z => ?_)
 refine GL_hand rfl ⟨?_, ?_⟩
 · exact (Pend_skip (by kernel_rfl) (Pend_skip (by kernel_rfl) (Pend_skip (by kernel_rfl) (Pend_skip (by kernel_rfl) (Pend_skip (by kernel_rfl) (Pend_skip (by kernel_rfl) (Pend_skip (by kernel_rfl) (Pend_skip (by kernel_rfl) (Pend_skip (by kernel_rfl) (Pend_skip (by kernel_rfl) (Pend_okv rfl (OK_s (EX_s (PS_move rfl))) rfl rfl Pend_nil)))))))))))
 refine Plan_float 13 rfl rfl (by kernel_rfl) (OK_s (EX_s (PS_nilCheck rfl))) ?_
 refine Plan_float 14 rfl rfl (by kernel_rfl) (OK_s (EX_s (PS_fieldAddr fa57_2 rfl))) ?_
 refine Plan_chain 15 rfl (by kernel_rfl) ?_
 refine GL_unit (PU_store TurnV.l2 rfl rfl rfl sz35 rfl (.tail (.tail .head))) ?_
 refine GL_hand0 rfl ⟨?_, ?_⟩
 · exact (Pend_skip (by kernel_rfl) (Pend_skip (by kernel_rfl) (Pend_skip (by kernel_rfl) (Pend_skip (by kernel_rfl) (Pend_skip (by kernel_rfl) (Pend_skip (by kernel_rfl) (Pend_skip (by kernel_rfl) (Pend_skip (by kernel_rfl) (Pend_skip (by kernel_rfl) (Pend_skip (by kernel_rfl) (Pend_skip (by kernel_rfl) (Pend_skip (by kernel_rfl) (Pend_skip (by kernel_rfl) Pend_nil)))))))))))))
 refine Plan_end (by kernel_rfl) ?_
 refine GQ_end rfl .nil ?_
 intro w1 hS
 have hS := (hS.perm (Pulls.perm (.cons (.tail (.tail .head)) (.cons (.tail (.tail .head)) .nil)))).headL
 have hq := T.add_f (k := k) (d := d) (n := n) (x := x) (u := u) c1
 refine ⟨_, ⟨?gqFalse, rfl, ?hlFalse, ?hBFalse⟩, hS⟩
 case hBFalse => rw [hq]; (try rfl)
 case hlFalse => rw [hq]; simp only [List.length_append, List.length_cons, List.length_nil]; (try dsimp only at *); omega
theorem ref_turn_here_spec (b : Nat) (T : Turn) (g : Hd) (hF : T.Fit) : Ctr Tryz.prog 51 #[.pointer (some ⟨b, 0, none⟩)] [Res.box b 57 (TurnV.enc ⟨T.w, T.b, g⟩)] (fun v B => v = .int .i64 (T.w.beings.at T.b).room ∧ B = [Res.box b 57 (TurnV.enc ⟨T.w, T.b, g⟩)]) := by
 intro w hS0
 have hb := hF.b
 have hr := hF.room
 refine Ret_body _ _ Tryz.func51 rfl rfl rfl (hS0) ?_
 refine G_seq ?_
 refine G_region ?_
 refine GL_step rfl (PS_assign rfl) ?_
 refine GL_nil ?_
 refine GQ_sub (.cons (k := 0) rfl (.nil _)) ?_
 refine GQ_then ?_
 refine G_seq ?_
 refine G_planN (N := 12) [0, 0, 2, 6, 14, 1, 33, 97, 255, 511, 1023, 2047] mix (by kernel_rfl) rfl ?_
 refine Plan_float 0 rfl rfl (by kernel_rfl) (OK_s (EX_s (PS_move rfl))) ?_
 refine Plan_float 1 rfl rfl (by kernel_rfl) (OK_s (EX_s (PS_move rfl))) ?_
 refine Plan_float 2 rfl rfl (by kernel_rfl) (OK_s (EX_s (PS_nilCheck rfl))) ?_
 refine Plan_float 3 rfl rfl (by kernel_rfl) (OK_s (EX_s (PS_fieldAddr fa57_1 rfl))) ?_
 refine Plan_float 4 rfl rfl (by kernel_rfl) (OK_s (EX_s (PS_load rfl tys3 (.head _) TurnV.l1 rfl rfl))) ?_
 refine Plan_float 5 rfl rfl (by kernel_rfl) (OK_s (EX_s (PS_nilCheck rfl))) ?_
 refine Plan_float 6 rfl rfl (by kernel_rfl) (OK_s (EX_s (PS_fieldAddr fa57_0 rfl))) ?_
 refine Plan_float 7 rfl rfl (by kernel_rfl) (OK_s (EX_s (PS_fieldAddr fa34_2 rfl))) ?_
 refine Plan_float 8 rfl rfl (by kernel_rfl) (OK_s (EX_s (PS_indexAddr ia32 rfl rfl (by first | omega | exact hb.1 | exact hb.2 | (dsimp only; omega)) (by first | omega | exact hb.1 | exact hb.2 | (dsimp only; omega))))) ?_
 refine Plan_float 9 rfl rfl (by kernel_rfl) (OK_s (EX_s (PS_fieldAddr fa31_3 rfl))) ?_
 refine Plan_float 10 rfl rfl (by kernel_rfl) (OK_s (EX_s (PS_load rfl tys3 (.head _) (((TurnV.l0.comp Land.l2).comp (Lens.arr (n := 6) Being.fl (by first | omega | exact hb.1 | exact hb.2 | (dsimp only; omega)) (by first | omega | exact hb.1 | exact hb.2 | (dsimp only; omega)))).comp Being.l3) rfl rfl))) ?_
 refine Plan_float 11 rfl rfl (by kernel_rfl) (OK_s (EX_s (PS_assign rfl))) ?_
 refine Plan_end (by kernel_rfl) ?_
 refine GQ_sub (.cons (k := 2) rfl (.nil _)) ?_
 refine GQ_then ?_
 refine G_ret ?_
 refine GQ_ret rfl (.tmp rfl .nil) ?_
 intro w1 hS
 have hS := (hS.perm (Pulls.perm (.cons .head .nil))).headL
 exact ⟨_, ⟨rfl, rfl⟩, hS⟩
theorem ref_turn_tell_spec (b : Nat) (T : Turn) (g : Hd) (u : Str) (hg : g.len = T.out.length) (hb : 0 ≤ T.b ∧ T.b < 6) (hn : T.out.length ≤ 100000) : Ctr Tryz.prog 39 #[.pointer (some ⟨b, 0, none⟩), vstr u] [Res.box b 57 (TurnV.enc ⟨T.w, T.b, g⟩), Res.own g 60 16 (T.out.flatMap Ing.Event.enc)] (fun v B => ∃ g' : Hd, v = .tuple #[] ∧ g'.len = (T.tell u).out.length ∧ B = [Res.box b 57 (TurnV.enc ⟨(T.tell u).w, (T.tell u).b, g'⟩), Res.own g' 60 16 ((T.tell u).out.flatMap Ing.Event.enc)]) := by
 intro w hS0
 refine Ret_body _ _ Tryz.func39 rfl rfl rfl (hS0) ?_
 refine G_region ?_
 refine GL_step rfl (PS_move rfl) ?_
 refine GL_step rfl (PS_move rfl) ?_
 refine GL_callL rfl cf20 (.cons rfl (.cons rfl (.cons rfl (.cons rfl (.cons rfl (.cons rfl (.cons rfl .nil))))))) (.cons .head (.cons .head .nil)) (ref_turn_add_spec _ _ _ 16 (-1) 0 0 [] u hg hb (show (-1 : Int) < 6 by decide) hn) (fun v1 B hv => ?_)
 obtain ⟨y2, rfl, y3, rfl⟩ := hv
 refine GL_nil ?_
 refine GQ_end rfl .nil ?_
 intro w1 hS
 have hS := (hS.perm (Pulls.perm (.cons .head (.cons .head .nil)))).headL
 exact ⟨_, ⟨_, rfl, by assumption, rfl⟩, hS⟩
theorem ref_HasAt_spec (X : Land) (whr at_ : Int) : Ctr Tryz.prog 68 #[.agg X.enc.toArray, .int .i64 whr, .int .i64 at_] [] (fun v B => ∃ h' : Hd, v = h'.val ∧ h'.len = (X.has whr at_).length ∧ B = [Res.own h' 3 1 ((X.has whr at_).flatMap encI)]) := by
 intro w hS0
 refine Ret_body _ _ Tryz.func68 rfl rfl rfl (hS0) ?_
 refine G_seq ?_
 refine G_region ?_
 refine GL_box rfl rfl rfl (fun b1 => ?_)
 refine GL_step rfl (PS_assign rfl) ?_
 refine GL_nil ?_
 refine GQ_sub (.cons (k := 1) rfl (.cons (k := 2) rfl (.cons (k := 3) rfl (.nil _)))) ?_
 refine GQ_then ?_
 refine G_seq ?_
 refine G_region ?_
 refine GL_step rfl (PS_assign rfl) ?_
 refine GL_nil ?_
 refine GQ_then ?_
 refine G_seq ?_
 refine G_seq ?_
 refine G_region ?_
 refine GL_step rfl (PS_move rfl) ?_
 refine GL_nil ?_
 refine GQ_then ?_
 refine G_block ?_
 refine G_subF (.cons (k := 7) rfl (.cons (k := 9) rfl (.cons (k := 1) rfl (.cons (k := 2) rfl (.cons (k := 3) rfl (.nil _)))))) ?_
 refine G_nilF encI 3 1 ?_
 refine G_loop3_ (fun (k : Int) (xs : List Int) (g : Hd) => 0 ≤ k ∧ k ≤ 9 ∧ xs = X.hasL whr at_ k.toNat ∧ g.len = xs.length) (fun (k : Int) (xs : List Int) (g : Hd) => (9 - k).toNat) (fun (k : Int) (xs : List Int) (g : Hd) => [(7, g.val), (9, .int .i64 k)]) (fun (k : Int) (xs : List Int) (g : Hd) => [Res.own g 3 1 (xs.flatMap encI)]) (0) ([]) (_) ?_ rfl rfl (fun k xs g hI1 => ?_)
 · exact ⟨by omega, by omega, rfl, rfl⟩
 obtain ⟨hI11, hI12, hI13, hI14⟩ := hI1
 refine G_seq ?_
 refine G_region ?_
 refine GL_step rfl (PS_lss rfl rfl) ?_
 refine GL_nil ?_
 refine GQ_then ?_
 refine G_seq ?_
 refine G_cond rfl (fun c1 => ?_) (fun c1 => ?_)
 ·
  have c1p := kz c1
  try dsimp only at c1p
  have hxl := Land.hasL_len X whr at_ k.toNat
  rw [← hI13] at hxl
  refine G_skip ?_
  refine GQ_sub (.cons (k := 1) rfl (.cons (k := 2) rfl (.cons (k := 3) rfl (.cons (k := 7) rfl (.cons (k := 9) rfl (.nil _)))))) ?_
  refine GQ_then ?_
  refine G_seq ?_
  refine G_block ?_
  refine G_seq ?_
  refine G_region ?_
  refine GL_step rfl (PS_move rfl) ?_
  refine GL_step rfl (PS_assign rfl) ?_
  refine GL_nil ?_
  refine GQ_sub (.cons (k := 1) rfl (.cons (k := 2) rfl (.cons (k := 3) rfl (.cons (k := 7) rfl (.cons (k := 8) rfl (.cons (k := 9) rfl (.nil _))))))) ?_
  refine GQ_then ?_
  refine G_seq ?_
  refine G_region ?_
  refine GL_step rfl (PS_move rfl) ?_
  refine GL_step rfl (PS_fieldAddr fa34_1 rfl) ?_
  refine GL_step rfl (PS_indexAddr ia29 rfl rfl (by omega) (by omega)) ?_
  refine GL_step rfl (PS_fieldAddr fa28_3 rfl) ?_
  refine GL_step rfl (PS_load rfl tys3 (.tail _ (.head _)) ((Land.l1.comp (Lens.arr (n := 9) Thing.fl (by omega) (by omega))).comp Thing.l3) rfl rfl) ?_
  refine GL_step rfl (PS_move rfl) ?_
  refine GL_step rfl (PS_eql rfl rfl) ?_
  refine GL_step rfl (PS_move rfl) ?_
  refine GL_gt (t := 19) rfl rfl rfl (fun q => PS_move rfl) ?_
  refine GL_gt (t := 19) rfl rfl rfl (fun q => PS_fieldAddr fa34_1 rfl) ?_
  refine GL_gt (t := 19) rfl rfl rfl (fun q => by have q1 := q; (try simp at q1); exact PS_indexAddr ia29 (cvE rfl q) (cvE rfl q) (by omega) (by omega)) ?_
  refine GL_gt (t := 19) rfl rfl rfl (fun q => PS_fieldAddr fa28_2 (cvE rfl q)) ?_
  refine GL_gt (t := 19) rfl rfl rfl (fun q => by have q1 := q; (try simp at q1); exact PS_load (cvE rfl q) tys3 (.tail _ (.head _)) ((Land.l1.comp (Lens.arr (n := 9) Thing.fl (by omega) (by omega))).comp Thing.l2) rfl rfl) ?_
  refine GL_gt (t := 19) rfl rfl rfl (fun q => PS_move rfl) ?_
  refine GL_gt (t := 19) rfl rfl rfl (fun q => PS_eql (cvE rfl q) (cvE rfl q)) ?_
  refine GL_step rfl (PS_and rfl rfl (fun h => h)) ?_
  refine GL_nil ?_
  refine GQ_sub (.cons (k := 1) rfl (.cons (k := 2) rfl (.cons (k := 3) rfl (.cons (k := 7) rfl (.cons (k := 8) rfl (.cons (k := 9) rfl (.cons (k := 27) rfl (.nil _)))))))) ?_
  refine GQ_then ?_
  refine G_cond rfl (fun c2 => ?_) (fun c2 => ?_)
  ·
   have c2p := kz c2
   try dsimp only at c2p
   refine G_region ?_
   refine GL_step rfl (PS_move rfl) ?_
   refine GL_step rfl (PS_move rfl) ?_
   refine GL_bs1F encI flI rfl Tryz.underlying66 sz3 zv3 rfl (by decide) (by decide) rfl rfl (fun b2 => ?_)
   refine GL_appendF flI rfl Tryz.underlying66 sz3 zv3 rfl by3 (by decide) (by decide) rfl rfl (fun w hS => Src.sliceT Tryz.underlying66 ((Kn.own (.head _)) w hS)) (by (try dsimp only); omega) (fun _ => (.tail .head)) (fun h1 h1l h1z => ?_)
   refine GL_step rfl (PS_assign rfl) ?_
   refine GL_nil ?_
   refine GQ_sub (.cons (k := 1) rfl (.cons (k := 2) rfl (.cons (k := 3) rfl (.cons (k := 7) rfl (.cons (k := 9) rfl (.nil _)))))) ?_
   refine GQ_block ?_
   refine GQ_then ?_
   refine G_region ?_
   refine GL_step rfl (PS_add rfl rfl (IntWalk.i64_in _ (by omega))) ?_
   refine GL_step rfl (PS_move rfl) ?_
   refine GL_nil ?_
   refine GQ_sub (.cons (k := 1) rfl (.cons (k := 2) rfl (.cons (k := 3) rfl (.cons (k := 7) rfl (.cons (k := 9) rfl (.nil _)))))) ?_
   refine GQ_next3_ (k + 1) _ _ ?_ ?_ (.cons (k := 7) rfl (.cons (k := 9) rfl (.cons (k := 1) rfl (.cons (k := 2) rfl (.cons (k := 3) rfl (.nil _)))))) (.cons _ (.refl _))
   · exact ⟨by omega, by omega, by rw [Land.hasL_t hI11 ((Bool.and_comm _ _).trans c2), ← hI13], (by (try dsimp only at *) <;> (try simp only [List.length_append, List.length_cons, List.length_nil]) <;> omega)⟩
   · omega
  have c2p := kz c2
  try dsimp only at c2p
  refine G_skip ?_
  refine GQ_sub (.cons (k := 1) rfl (.cons (k := 2) rfl (.cons (k := 3) rfl (.cons (k := 7) rfl (.cons (k := 9) rfl (.nil _)))))) ?_
  refine GQ_block ?_
  refine GQ_then ?_
  refine G_region ?_
  refine GL_step rfl (PS_add rfl rfl (IntWalk.i64_in _ (by omega))) ?_
  refine GL_step rfl (PS_move rfl) ?_
  refine GL_nil ?_
  refine GQ_sub (.cons (k := 1) rfl (.cons (k := 2) rfl (.cons (k := 3) rfl (.cons (k := 7) rfl (.cons (k := 9) rfl (.nil _)))))) ?_
  refine GQ_next3_ (k + 1) _ _ ?_ ?_ (.cons (k := 7) rfl (.cons (k := 9) rfl (.cons (k := 1) rfl (.cons (k := 2) rfl (.cons (k := 3) rfl (.nil _)))))) (.refl _)
  · exact ⟨by omega, by omega, by rw [Land.hasL_f hI11 ((Bool.and_comm _ _).trans c2), ← hI13], (by (try dsimp only at *) <;> (try simp only [List.length_append, List.length_cons, List.length_nil]) <;> omega)⟩
  · omega
 have c1p := kz c1
 try dsimp only at c1p
 obtain rfl : k = 9 := by omega
 refine G_exit ?_
 refine GQ_then_exit ?_
 refine GQ_then_exit ?_
 refine GQ_block_exit ?_
 refine GQ_sub (.cons (k := 7) rfl (.nil _)) ?_
 refine GQ_then ?_
 refine G_seq ?_
 refine G_region ?_
 refine GL_step rfl (PS_move rfl) ?_
 refine GL_step rfl (PS_assign rfl) ?_
 refine GL_nil ?_
 refine GQ_sub (.cons (k := 6) rfl (.nil _)) ?_
 refine GQ_then ?_
 refine G_ret ?_
 refine GQ_ret rfl (.tmp rfl .nil) ?_
 intro w1 hS
 have hS := (hS.perm (Pulls.perm (.cons .head .nil))).headL
 exact ⟨_, ⟨_, rfl, by rw [Land.has_eq, ← hI13]; assumption, by rw [Land.has_eq, ← hI13]⟩, hS⟩
theorem ref_turn_inSight_spec (b : Nat) (T : Turn) (g : Hd) (hF : T.Fit) : Ctr Tryz.prog 52 #[.pointer (some ⟨b, 0, none⟩)] [Res.box b 57 (TurnV.enc ⟨T.w, T.b, g⟩)] (fun v B => ∃ f : Hd, v = f.val ∧ f.len = (T.seen).length ∧ B = [Res.box b 57 (TurnV.enc ⟨T.w, T.b, g⟩), Res.own f 3 1 ((T.seen).flatMap encI)]) := by
 intro w hS0
 have hb := hF.b
 have hr := hF.room
 refine Ret_body _ _ Tryz.func52 rfl rfl rfl (hS0) ?_
 refine G_seq ?_
 refine G_region ?_
 refine GL_step rfl (PS_assign rfl) ?_
 refine GL_nil ?_
 refine GQ_sub (.cons (k := 0) rfl (.nil _)) ?_
 refine GQ_then ?_
 refine G_seq ?_
 refine G_seq ?_
 refine G_planN (N := 8) [0, 1, 3, 7, 0, 16, 63, 127] mix (by kernel_rfl) rfl ?_
 refine Plan_float 0 rfl rfl (by kernel_rfl) (OK_s (EX_s (PS_move rfl))) ?_
 refine Plan_float 1 rfl rfl (by kernel_rfl) (OK_s (EX_s (PS_nilCheck rfl))) ?_
 refine Plan_float 2 rfl rfl (by kernel_rfl) (OK_s (EX_s (PS_fieldAddr fa57_0 rfl))) ?_
 refine Plan_float 3 rfl rfl (by kernel_rfl) (OK_s (EX_s (PS_loadA rfl tya34 (.head _) TurnV.l0 rfl))) ?_
 refine Plan_float 4 rfl rfl (by kernel_rfl) (OK_s (EX_s (PS_move rfl))) ?_
 refine Plan_chain 5 rfl (by kernel_rfl) ?_
 refine GL_callL rfl cf51 (.cons rfl .nil) (.cons .head .nil) (ref_turn_here_spec _ T _ hF) (fun v1 B hv => ?_)
 obtain ⟨rfl, rfl⟩ := hv
 refine GL_hand rfl ⟨?_, ?_⟩
 · exact (Pend_skip (by kernel_rfl) (Pend_okv rfl (OK_s (EX_s (PS_loadA rfl tya34 (.head _) TurnV.l0 rfl))) rfl rfl (Pend_okv rfl (OK_s (EX_s (PS_fieldAddr fa57_0 rfl))) rfl rfl (Pend_okv rfl (OK_s (EX_s (PS_nilCheck rfl))) rfl rfl (Pend_okv rfl (OK_s (EX_s (PS_move rfl))) rfl rfl Pend_nil)))))
 refine Plan_float 6 rfl rfl (by kernel_rfl) (OK_s (EX_c (PC_of cf50 (.cons rfl (.cons rfl .nil)) (fun w hS => ref_IsBright_spec _ _ w)))) ?_
 refine Plan_float 7 rfl rfl (by kernel_rfl) (OK_s (EX_s (PS_not rfl))) ?_
 refine Plan_end (by kernel_rfl) ?_
 refine GQ_sub (.cons (k := 0) rfl (.cons (k := 10) rfl (.nil _))) ?_
 refine GQ_then ?_
 refine G_cond rfl (fun c1 => ?_) (fun c1 => ?_)
 ·
  have c1p := kz c1
  try dsimp only at c1p
  refine G_seq ?_
  refine G_region ?_
  refine GL_step rfl (PS_assign rfl) ?_
  refine GL_nil ?_
  refine GQ_sub (.cons (k := 2) rfl (.nil _)) ?_
  refine GQ_then ?_
  refine G_ret ?_
  refine GQ_then_ret ?_
  refine GQ_ret rfl (.tmp rfl .nil) ?_
  intro w1 hS
  have hS := hS.own_nil 3 1
  have hS := (hS.perm (Pulls.perm (.cons (.tail .head) (.cons .head .nil)))).headL
  have hq : T.seen = _ := if_t c1
  exact ⟨_, ⟨⟨none, 0, 0⟩, rfl, by rw [hq]; rfl, by rw [hq]; rfl⟩, hS⟩
 have c1p := kz c1
 try dsimp only at c1p
 refine G_skip ?_
 refine GQ_sub (.cons (k := 0) rfl (.nil _)) ?_
 refine GQ_then ?_
 refine G_seq ?_
 refine G_planN (N := 8) [0, 1, 3, 7, 0, 16, 63, 127] mix (by kernel_rfl) rfl ?_
 refine Plan_float 0 rfl rfl (by kernel_rfl) (OK_s (EX_s (PS_move rfl))) ?_
 refine Plan_float 1 rfl rfl (by kernel_rfl) (OK_s (EX_s (PS_nilCheck rfl))) ?_
 refine Plan_float 2 rfl rfl (by kernel_rfl) (OK_s (EX_s (PS_fieldAddr fa57_0 rfl))) ?_
 refine Plan_float 3 rfl rfl (by kernel_rfl) (OK_s (EX_s (PS_loadA rfl tya34 (.head _) TurnV.l0 rfl))) ?_
 refine Plan_float 4 rfl rfl (by kernel_rfl) (OK_s (EX_s (PS_move rfl))) ?_
 refine Plan_chain 5 rfl (by kernel_rfl) ?_
 refine GL_callL rfl cf51 (.cons rfl .nil) (.cons .head .nil) (ref_turn_here_spec _ T _ hF) (fun v3 B hv => ?_)
 obtain ⟨rfl, rfl⟩ := hv
 refine GL_hand rfl ⟨?_, ?_⟩
 · exact (Pend_skip (by kernel_rfl) (Pend_okv rfl (OK_s (EX_s (PS_loadA rfl tya34 (.head _) TurnV.l0 rfl))) rfl rfl (Pend_okv rfl (OK_s (EX_s (PS_fieldAddr fa57_0 rfl))) rfl rfl (Pend_okv rfl (OK_s (EX_s (PS_nilCheck rfl))) rfl rfl (Pend_okv rfl (OK_s (EX_s (PS_move rfl))) rfl rfl Pend_nil)))))
 refine Plan_chain 6 rfl (by kernel_rfl) ?_
 refine GL_callL rfl cf68 (.cons rfl (.cons rfl (.cons rfl .nil))) .nil (ref_HasAt_spec _ _ _) (fun v4 B hv => ?_)
 obtain ⟨y5, rfl, y6, rfl⟩ := hv
 refine GL_hand rfl ⟨?_, ?_⟩
 · exact (Pend_skip (by kernel_rfl) (Pend_skip (by kernel_rfl) (Pend_skip (by kernel_rfl) (Pend_skip (by kernel_rfl) (Pend_skip (by kernel_rfl) Pend_nil)))))
 refine Plan_float 7 rfl rfl (by kernel_rfl) (OK_s (EX_s (PS_assign rfl))) ?_
 refine Plan_end (by kernel_rfl) ?_
 refine GQ_sub (.cons (k := 2) rfl (.nil _)) ?_
 refine GQ_then ?_
 refine G_ret ?_
 refine GQ_ret rfl (.tmp rfl .nil) ?_
 intro w1 hS
 have hS := (hS.perm (Pulls.perm (.cons (.tail .head) (.cons .head .nil)))).headL
 have hq : T.seen = _ := (if_f c1)
 exact ⟨_, ⟨_, rfl, by rw [hq]; first | rfl | assumption, by rw [hq]; rfl⟩, hS⟩
theorem ref_turn_named_spec (b : Nat) (T : Turn) (g : Hd) (f : Hd) (l : List Int) (hF : T.Fit) (hf : f.len = l.length) (hl : l.length ≤ 9) (hi : ∀ i ∈ l, 0 ≤ i ∧ i < 9) : Ctr Tryz.prog 40 #[.pointer (some ⟨b, 0, none⟩), f.val] [Res.box b 57 (TurnV.enc ⟨T.w, T.b, g⟩), Res.own f 3 1 (l.flatMap encI)] (fun v B => v = vstr (Turn.namedR T.w l) ∧ B = [Res.box b 57 (TurnV.enc ⟨T.w, T.b, g⟩), Res.own f 3 1 (l.flatMap encI)]) := by
 intro w hS0
 have hb := hF.b
 have hr := hF.room
 have hw := hF.br
 refine Ret_body _ _ Tryz.func40 rfl rfl rfl (hS0) ?_
 refine G_seq ?_
 refine G_region ?_
 refine GL_step rfl (PS_assign rfl) ?_
 refine GL_nil ?_
 refine GQ_sub (.cons (k := 0) rfl (.cons (k := 1) rfl (.nil _))) ?_
 refine GQ_then ?_
 refine G_seq ?_
 refine G_region ?_
 refine GL_step rfl (PS_assign rfl) ?_
 refine GL_nil ?_
 refine GQ_then ?_
 refine G_seq ?_
 refine G_seq ?_
 refine G_region ?_
 refine GL_step rfl (PS_move rfl) ?_
 refine GL_step rfl (PS_len_slice rfl Tryz.underlying66 rfl) ?_
 refine GL_step rfl (PS_move rfl) ?_
 refine GL_nil ?_
 refine GQ_sub (.cons (k := 0) rfl (.cons (k := 5) rfl (.cons (k := 8) rfl (.cons (k := 9) rfl (.cons (k := 10) rfl (.nil _)))))) ?_
 refine GQ_then ?_
 refine G_block ?_
 refine G_subF (.cons (k := 5) rfl (.cons (k := 10) rfl (.cons (k := 0) rfl (.cons (k := 8) rfl (.cons (k := 9) rfl (.nil _)))))) ?_
 refine G_loop2_ (fun (k : Int) (x : Str) => 0 ≤ k ∧ k ≤ (l.length : Int) ∧ Turn.listS T.w [] l = Turn.listS T.w x (l.drop k.toNat) ∧ x.length ≤ 1000 + k.toNat * 140737488351300) (fun (k : Int) (x : Str) => ((l.length : Int) - k).toNat) (fun (k : Int) (x : Str) => [(5, vstr x), (10, .int .i64 k)]) (fun (k : Int) (x : Str) => []) (0) ([]) ?_ rfl rfl (fun k x hI1 => ?_)
 · exact ⟨by omega, by omega, by simp, by simp⟩
 obtain ⟨hI11, hI12, hI13, hI14⟩ := hI1
 refine G_seq ?_
 refine G_region ?_
 refine GL_step rfl (PS_lss rfl rfl) ?_
 refine GL_nil ?_
 refine GQ_then ?_
 refine G_seq ?_
 refine G_cond rfl (fun c1 => ?_) (fun c1 => ?_)
 ·
  have c1p := kz c1
  try dsimp only at c1p
  have hx := hi _ (Line.getD_memI (xs := l) (i := k.toNat) (by omega))
  have hnl := hw.th (l.getD k.toNat 0)
  refine G_skip ?_
  refine GQ_sub (.cons (k := 0) rfl (.cons (k := 5) rfl (.cons (k := 8) rfl (.cons (k := 9) rfl (.cons (k := 10) rfl (.nil _)))))) ?_
  refine GQ_then ?_
  refine G_seq ?_
  refine G_block ?_
  refine G_seq ?_
  refine G_region ?_
  refine GL_step rfl (PS_idxS is66 (by decide) (Kn.own (.tail _ (.head _))) rfl rfl (by omega) (by omega)) ?_
  refine GL_step rfl (PS_ldInt rfl tys3 (Kn.own (.tail _ (.head _))) (by omega)) ?_
  refine GL_step rfl (PS_assign rfl) ?_
  refine GL_nil ?_
  refine GQ_sub (.cons (k := 0) rfl (.cons (k := 5) rfl (.cons (k := 7) rfl (.cons (k := 8) rfl (.cons (k := 9) rfl (.cons (k := 10) rfl (.nil _))))))) ?_
  refine GQ_then ?_
  refine G_seq ?_
  refine G_region ?_
  refine GL_step rfl (PS_move rfl) ?_
  refine GL_step rfl (PS_move rfl) ?_
  refine GL_step rfl (PS_move rfl) ?_
  refine GL_step rfl (PS_nilCheck rfl) ?_
  refine GL_step rfl (PS_fieldAddr fa57_0 rfl) ?_
  refine GL_step rfl (PS_fieldAddr fa34_1 rfl) ?_
  refine GL_step rfl (PS_indexAddr ia29 rfl rfl (by first | omega | (dsimp only; omega) | ((try simp only [List.length_append, List.length_cons, List.length_nil]); omega) | ((try dsimp only at *); (try simp only [List.length_append, List.length_cons, List.length_nil]); omega)) (by first | omega | (dsimp only; omega) | ((try simp only [List.length_append, List.length_cons, List.length_nil]); omega) | ((try dsimp only at *); (try simp only [List.length_append, List.length_cons, List.length_nil]); omega))) ?_
  refine GL_step rfl (PS_fieldAddr fa28_0 rfl) ?_
  refine GL_step rfl (PS_load rfl tys9 (.head _) (((TurnV.l0.comp Land.l1).comp (Lens.arr (n := 9) Thing.fl (by first | omega | (dsimp only; omega) | ((try simp only [List.length_append, List.length_cons, List.length_nil]); omega) | ((try dsimp only at *); (try simp only [List.length_append, List.length_cons, List.length_nil]); omega)) (by first | omega | (dsimp only; omega) | ((try simp only [List.length_append, List.length_cons, List.length_nil]); omega) | ((try dsimp only at *); (try simp only [List.length_append, List.length_cons, List.length_nil]); omega)))).comp Thing.l0) rfl rfl) ?_
  refine GL_step rfl (PS_add_str rfl rfl (by first | omega | (dsimp only; omega) | ((try simp only [List.length_append, List.length_cons, List.length_nil]); omega) | ((try dsimp only at *); (try simp only [List.length_append, List.length_cons, List.length_nil]); omega))) ?_
  refine GL_step rfl (PS_add_str rfl rfl (by first | omega | (dsimp only; omega) | ((try simp only [List.length_append, List.length_cons, List.length_nil]); omega) | ((try dsimp only at *); (try simp only [List.length_append, List.length_cons, List.length_nil]); omega))) ?_
  refine GL_step rfl (PS_assign rfl) ?_
  refine GL_nil ?_
  refine GQ_sub (.cons (k := 0) rfl (.cons (k := 5) rfl (.cons (k := 7) rfl (.cons (k := 8) rfl (.cons (k := 9) rfl (.cons (k := 10) rfl (.nil _))))))) ?_
  refine GQ_then ?_
  refine G_seq ?_
  refine G_region ?_
  refine GL_step rfl (PS_move rfl) ?_
  refine GL_step rfl (PS_move rfl) ?_
  refine GL_step rfl (PS_nilCheck rfl) ?_
  refine GL_step rfl (PS_fieldAddr fa57_0 rfl) ?_
  refine GL_step rfl (PS_fieldAddr fa34_1 rfl) ?_
  refine GL_step rfl (PS_indexAddr ia29 rfl rfl (by first | omega | (dsimp only; omega) | ((try simp only [List.length_append, List.length_cons, List.length_nil]); omega) | ((try dsimp only at *); (try simp only [List.length_append, List.length_cons, List.length_nil]); omega)) (by first | omega | (dsimp only; omega) | ((try simp only [List.length_append, List.length_cons, List.length_nil]); omega) | ((try dsimp only at *); (try simp only [List.length_append, List.length_cons, List.length_nil]); omega))) ?_
  refine GL_step rfl (PS_fieldAddr fa28_4 rfl) ?_
  refine GL_step rfl (PS_load rfl tys4 (.head _) (((TurnV.l0.comp Land.l1).comp (Lens.arr (n := 9) Thing.fl (by first | omega | (dsimp only; omega) | ((try simp only [List.length_append, List.length_cons, List.length_nil]); omega) | ((try dsimp only at *); (try simp only [List.length_append, List.length_cons, List.length_nil]); omega)) (by first | omega | (dsimp only; omega) | ((try simp only [List.length_append, List.length_cons, List.length_nil]); omega) | ((try dsimp only at *); (try simp only [List.length_append, List.length_cons, List.length_nil]); omega)))).comp Thing.l4) rfl rfl) ?_
  refine GL_nil ?_
  refine GQ_sub (.cons (k := 0) rfl (.cons (k := 5) rfl (.cons (k := 8) rfl (.cons (k := 9) rfl (.cons (k := 10) rfl (.cons (k := 32) rfl (.nil _))))))) ?_
  refine GQ_then ?_
  refine G_cond rfl (fun c2 => ?_) (fun c2 => ?_)
  ·
   have c2p := kz c2
   try dsimp only at c2p
   refine G_region ?_
   refine GL_step rfl (PS_move rfl) ?_
   refine GL_step rfl (PS_add_str rfl rfl (by first | omega | (dsimp only; omega) | ((try simp only [List.length_append, List.length_cons, List.length_nil]); omega) | ((try dsimp only at *); (try simp only [List.length_append, List.length_cons, List.length_nil]); omega))) ?_
   refine GL_step rfl (PS_assign rfl) ?_
   refine GL_nil ?_
   refine GQ_sub (.cons (k := 0) rfl (.cons (k := 5) rfl (.cons (k := 8) rfl (.cons (k := 9) rfl (.cons (k := 10) rfl (.nil _)))))) ?_
   refine GQ_block ?_
   refine GQ_then ?_
   refine G_region ?_
   refine GL_step rfl (PS_add rfl rfl (IntWalk.i64_in _ (by first | omega | (dsimp only; omega) | ((try simp only [List.length_append, List.length_cons, List.length_nil]); omega) | ((try dsimp only at *); (try simp only [List.length_append, List.length_cons, List.length_nil]); omega)))) ?_
   refine GL_step rfl (PS_move rfl) ?_
   refine GL_nil ?_
   refine GQ_sub (.cons (k := 0) rfl (.cons (k := 5) rfl (.cons (k := 8) rfl (.cons (k := 9) rfl (.cons (k := 10) rfl (.nil _)))))) ?_
   refine GQ_next2_ (k + 1) _ ?_ ?_ (.cons (k := 5) rfl (.cons (k := 10) rfl (.cons (k := 0) rfl (.cons (k := 8) rfl (.cons (k := 9) rfl (.nil _)))))) (.refl _)
   · exact ⟨by omega, by omega, by rw [hI13, Turn.listS_t hI11 (by omega) c2], by simp only [List.length_append, List.length_cons, List.length_nil]; omega⟩
   · omega
  have c2p := kz c2
  try dsimp only at c2p
  refine G_skip ?_
  refine GQ_sub (.cons (k := 0) rfl (.cons (k := 5) rfl (.cons (k := 8) rfl (.cons (k := 9) rfl (.cons (k := 10) rfl (.nil _)))))) ?_
  refine GQ_block ?_
  refine GQ_then ?_
  refine G_region ?_
  refine GL_step rfl (PS_add rfl rfl (IntWalk.i64_in _ (by first | omega | (dsimp only; omega) | ((try simp only [List.length_append, List.length_cons, List.length_nil]); omega) | ((try dsimp only at *); (try simp only [List.length_append, List.length_cons, List.length_nil]); omega)))) ?_
  refine GL_step rfl (PS_move rfl) ?_
  refine GL_nil ?_
  refine GQ_sub (.cons (k := 0) rfl (.cons (k := 5) rfl (.cons (k := 8) rfl (.cons (k := 9) rfl (.cons (k := 10) rfl (.nil _)))))) ?_
  refine GQ_next2_ (k + 1) _ ?_ ?_ (.cons (k := 5) rfl (.cons (k := 10) rfl (.cons (k := 0) rfl (.cons (k := 8) rfl (.cons (k := 9) rfl (.nil _)))))) (.refl _)
  · exact ⟨by omega, by omega, by rw [hI13, Turn.listS_f hI11 (by omega) c2], by simp only [List.length_append, List.length_cons, List.length_nil]; omega⟩
  · omega
 have c1p := kz c1
 try dsimp only at c1p
 obtain rfl : k = (l.length : Int) := by omega
 rw [show (l.length : Int).toNat = l.length by omega, List.drop_length] at hI13
 have hxl : Turn.listS T.w [] l = x := hI13
 refine G_exit ?_
 refine GQ_then_exit ?_
 refine GQ_then_exit ?_
 refine GQ_block_exit ?_
 refine GQ_sub (.cons (k := 5) rfl (.nil _)) ?_
 refine GQ_then ?_
 refine G_seq ?_
 refine G_seq ?_
 refine G_region ?_
 refine GL_step rfl (PS_move rfl) ?_
 refine GL_step rfl (PS_eql_str rfl rfl) ?_
 refine GL_nil ?_
 refine GQ_sub (.cons (k := 5) rfl (.cons (k := 37) rfl (.nil _))) ?_
 refine GQ_then ?_
 refine G_cond rfl (fun c3 => ?_) (fun c3 => ?_)
 ·
  have c3p := kz c3
  try dsimp only at c3p
  refine G_seq ?_
  refine G_region ?_
  refine GL_step rfl (PS_assign rfl) ?_
  refine GL_nil ?_
  refine GQ_sub (.cons (k := 4) rfl (.nil _)) ?_
  refine GQ_then ?_
  refine G_ret ?_
  refine GQ_then_ret ?_
  refine GQ_ret rfl (.tmp rfl .nil) ?_
  intro w1 hS
  have hS := (hS.perm (Pulls.perm (.cons .head (.cons .head .nil)))).headL
  have hq : Turn.namedR T.w l = _ := if_t (show decide (Turn.listS T.w [] l = []) = true by rw [hxl]; exact c3)
  exact ⟨_, ⟨by rw [hq]; (try rw [hxl]); (try rfl), rfl⟩, hS⟩
 have c3p := kz c3
 try dsimp only at c3p
 refine G_skip ?_
 refine GQ_sub (.cons (k := 5) rfl (.nil _)) ?_
 refine GQ_then ?_
 refine G_seq ?_
 refine G_region ?_
 refine GL_step rfl (PS_move rfl) ?_
 refine GL_step rfl (PS_add_str rfl rfl (by first | omega | (dsimp only; omega) | ((try simp only [List.length_append, List.length_cons, List.length_nil]); omega) | ((try dsimp only at *); (try simp only [List.length_append, List.length_cons, List.length_nil]); omega))) ?_
 refine GL_step rfl (PS_assign rfl) ?_
 refine GL_nil ?_
 refine GQ_sub (.cons (k := 4) rfl (.nil _)) ?_
 refine GQ_then ?_
 refine G_ret ?_
 refine GQ_ret rfl (.tmp rfl .nil) ?_
 intro w1 hS
 have hS := (hS.perm (Pulls.perm (.cons .head (.cons .head .nil)))).headL
 have hq : Turn.namedR T.w l = _ := if_f (show decide (Turn.listS T.w [] l = []) = false by rw [hxl]; exact c3)
 exact ⟨_, ⟨by rw [hq]; (try rw [hxl]); (try rfl), rfl⟩, hS⟩
theorem ref_turn_look_spec (b : Nat) (T : Turn) (g : Hd) (hg : g.len = T.out.length) (hF : T.Fit) (hn : T.out.length ≤ 90000) : CtrR Tryz.prog 21 #[.pointer (some ⟨b, 0, none⟩)] [Res.box b 57 (TurnV.enc ⟨T.w, T.b, g⟩), Res.own g 60 16 (T.out.flatMap Ing.Event.enc)] (fun w => (GV 0 Land.verbsV w ∧ 0 ∉ feet [Res.box b 57 (TurnV.enc ⟨T.w, T.b, g⟩), Res.own g 60 16 (T.out.flatMap Ing.Event.enc)])) (fun v B => ∃ g' : Hd, v = .tuple #[] ∧ g'.len = (T.look).out.length ∧ B = [Res.box b 57 (TurnV.enc ⟨(T.look).w, (T.look).b, g'⟩), Res.own g' 60 16 ((T.look).out.flatMap Ing.Event.enc)]) := by
 intro w hS0 hH
 obtain ⟨gl0, gm0⟩ := hH
 have hb := hF.b
 have hr := hF.room
 have hw := hF.br
 refine Ret_body _ _ Tryz.func21 rfl rfl rfl (hS0) ?_
 refine G_seq ?_
 refine G_seq ?_
 refine G_planN (N := 8) [0, 1, 3, 7, 0, 16, 63, 127] mix (by kernel_rfl) rfl ?_
 refine Plan_float 0 rfl rfl (by kernel_rfl) (OK_s (EX_s (PS_move rfl))) ?_
 refine Plan_float 1 rfl rfl (by kernel_rfl) (OK_s (EX_s (PS_nilCheck rfl))) ?_
 refine Plan_float 2 rfl rfl (by kernel_rfl) (OK_s (EX_s (PS_fieldAddr fa57_0 rfl))) ?_
 refine Plan_float 3 rfl rfl (by kernel_rfl) (OK_s (EX_s (PS_loadA rfl tya34 (.head _) TurnV.l0 rfl))) ?_
 refine Plan_float 4 rfl rfl (by kernel_rfl) (OK_s (EX_s (PS_move rfl))) ?_
 refine Plan_chain 5 rfl (by kernel_rfl) ?_
 refine GL_callL rfl cf51 (.cons rfl .nil) (.cons .head .nil) (ref_turn_here_spec _ T _ hF) (fun v1 B hv => ?_)
 obtain ⟨rfl, rfl⟩ := hv
 refine GL_hand rfl ⟨?_, ?_⟩
 · exact (Pend_skip (by kernel_rfl) (Pend_okv rfl (OK_s (EX_s (PS_loadA rfl tya34 (.head _) TurnV.l0 rfl))) rfl rfl (Pend_okv rfl (OK_s (EX_s (PS_fieldAddr fa57_0 rfl))) rfl rfl (Pend_okv rfl (OK_s (EX_s (PS_nilCheck rfl))) rfl rfl (Pend_okv rfl (OK_s (EX_s (PS_move rfl))) rfl rfl Pend_nil)))))
 refine Plan_float 6 rfl rfl (by kernel_rfl) (OK_s (EX_c (PC_of cf50 (.cons rfl (.cons rfl .nil)) (fun w hS => ref_IsBright_spec _ _ w)))) ?_
 refine Plan_float 7 rfl rfl (by kernel_rfl) (OK_s (EX_s (PS_not rfl))) ?_
 refine Plan_end (by kernel_rfl) ?_
 refine GQ_sub (.cons (k := 0) rfl (.cons (k := 14) rfl (.nil _))) ?_
 refine GQ_then ?_
 refine G_cond rfl (fun c1 => ?_) (fun c1 => ?_)
 ·
  have c1p := kz c1
  try dsimp only at c1p
  refine G_seq ?_
  refine G_region ?_
  refine GL_step rfl (PS_move rfl) ?_
  refine GL_callL rfl cf39 (.cons rfl (.cons rfl .nil)) (.cons .head (.cons .head .nil)) (ref_turn_tell_spec _ T _ _ hg hb (by omega)) (fun v2 B hv => ?_)
  obtain ⟨y3, rfl, y4, rfl⟩ := hv
  refine GL_nil ?_
  refine GQ_sub (.nil _) ?_
  refine GQ_then ?_
  refine G_ret ?_
  refine GQ_then_ret ?_
  refine GQ_ret rfl .nil ?_
  intro w1 hS
  have hS := (hS.perm (Pulls.perm (.cons .head (.cons .head .nil)))).headL
  refine ⟨_, ⟨?gq1, rfl, ?hl1, ?hB1⟩, hS⟩
  case hB1 => rw [show T.look = _ from if_t c1]; rfl
  case hl1 => rw [show T.look = _ from if_t c1]; assumption
 have c1p := kz c1
 try dsimp only at c1p
 have hsee := Turn.seen_bright (T := T) c1
 have hnr := hw.ro (T.w.beings.at T.b).room
 refine G_skip ?_
 refine GQ_sub (.cons (k := 0) rfl (.nil _)) ?_
 refine GQ_then ?_
 refine G_seq ?_
 refine G_planN (N := 10) [0, 0, 2, 1, 9, 25, 63, 127, 0, 511] mix (by kernel_rfl) rfl ?_
 refine Plan_float 0 rfl rfl (by kernel_rfl) (OK_s (EX_s (PS_move rfl))) ?_
 refine Plan_float 1 rfl rfl (by kernel_rfl) (OK_s (EX_s (PS_move rfl))) ?_
 refine Plan_float 3 rfl rfl (by kernel_rfl) (OK_s (EX_s (PS_nilCheck rfl))) ?_
 refine Plan_float 4 rfl rfl (by kernel_rfl) (OK_s (EX_s (PS_fieldAddr fa57_0 rfl))) ?_
 refine Plan_float 5 rfl rfl (by kernel_rfl) (OK_s (EX_s (PS_fieldAddr fa34_0 rfl))) ?_
 refine Plan_two 2 8 rfl rfl (by kernel_rfl) ?_ ?_
 ·
  refine GL_callL rfl cf51 (.cons rfl .nil) (.cons .head .nil) (ref_turn_here_spec _ T _ hF) (fun v5 B hv => ?_)
  obtain ⟨rfl, rfl⟩ := hv
  refine GL_hand rfl ⟨?_, ?_⟩
  · exact (Pend_okv rfl (OK_s (EX_s (PS_fieldAddr fa34_0 rfl))) rfl rfl (Pend_okv rfl (OK_s (EX_s (PS_fieldAddr fa57_0 rfl))) rfl rfl (Pend_okv rfl (OK_s (EX_s (PS_nilCheck rfl))) rfl rfl (Pend_skip (by kernel_rfl) (Pend_okv rfl (OK_s (EX_s (PS_move rfl))) rfl rfl Pend_nil)))))
  refine Plan_float 6 rfl rfl (by kernel_rfl) (OK_s (EX_s (PS_indexAddr ia26 rfl rfl (by first | omega | exact hb.1 | exact hb.2 | exact hr.1 | exact hr.2 | (dsimp only; omega) | (simp only [List.length_append, List.length_cons, List.length_nil]; omega) | ((try dsimp only at *); (try simp only [List.length_append, List.length_cons, List.length_nil]); omega)) (by first | omega | exact hb.1 | exact hb.2 | exact hr.1 | exact hr.2 | (dsimp only; omega) | (simp only [List.length_append, List.length_cons, List.length_nil]; omega) | ((try dsimp only at *); (try simp only [List.length_append, List.length_cons, List.length_nil]); omega))))) ?_
  refine Plan_float 7 rfl rfl (by kernel_rfl) (OK_s (EX_s (PS_loadA rfl tya25 (.head _) ((TurnV.l0.comp Land.l0).comp (Lens.arr (n := 6) Room.fl (by first | omega | exact hb.1 | exact hb.2 | exact hr.1 | exact hr.2 | (dsimp only; omega) | (simp only [List.length_append, List.length_cons, List.length_nil]; omega) | ((try dsimp only at *); (try simp only [List.length_append, List.length_cons, List.length_nil]); omega)) (by first | omega | exact hb.1 | exact hb.2 | exact hr.1 | exact hr.2 | (dsimp only; omega) | (simp only [List.length_append, List.length_cons, List.length_nil]; omega) | ((try dsimp only at *); (try simp only [List.length_append, List.length_cons, List.length_nil]); omega)))) rfl))) ?_
  refine Plan_chain 8 rfl (by kernel_rfl) ?_
  refine GL_alloc rfl zv25 rfl (fun b1 => ?_)
  refine GL_hand rfl ⟨?_, ?_⟩
  · exact (Pend_okv rfl (OK_s (EX_s (PS_loadA rfl tya25 (.tail _ (.head _)) ((TurnV.l0.comp Land.l0).comp (Lens.arr (n := 6) Room.fl (by first | omega | exact hb.1 | exact hb.2 | exact hr.1 | exact hr.2 | (dsimp only; omega) | (simp only [List.length_append, List.length_cons, List.length_nil]; omega) | ((try dsimp only at *); (try simp only [List.length_append, List.length_cons, List.length_nil]); omega)) (by first | omega | exact hb.1 | exact hb.2 | exact hr.1 | exact hr.2 | (dsimp only; omega) | (simp only [List.length_append, List.length_cons, List.length_nil]; omega) | ((try dsimp only at *); (try simp only [List.length_append, List.length_cons, List.length_nil]); omega)))) rfl))) rfl rfl (Pend_okv rfl (OK_s (EX_s (PS_indexAddr ia26 rfl rfl (by first | omega | exact hb.1 | exact hb.2 | exact hr.1 | exact hr.2 | (dsimp only; omega) | (simp only [List.length_append, List.length_cons, List.length_nil]; omega) | ((try dsimp only at *); (try simp only [List.length_append, List.length_cons, List.length_nil]); omega)) (by first | omega | exact hb.1 | exact hb.2 | exact hr.1 | exact hr.2 | (dsimp only; omega) | (simp only [List.length_append, List.length_cons, List.length_nil]; omega) | ((try dsimp only at *); (try simp only [List.length_append, List.length_cons, List.length_nil]); omega))))) rfl rfl (Pend_okv rfl (OK_s (EX_s (PS_fieldAddr fa34_0 rfl))) rfl rfl (Pend_okv rfl (OK_s (EX_s (PS_fieldAddr fa57_0 rfl))) rfl rfl (Pend_okv rfl (OK_s (EX_s (PS_nilCheck rfl))) rfl rfl (Pend_okv rfl (OK_s (EX_s (PS_move rfl))) rfl rfl (Pend_okv rfl (OK_s (EX_s (PS_move rfl))) rfl rfl Pend_nil)))))))
  refine Plan_chain 9 rfl (by kernel_rfl) ?_
  refine GL_unit (PU_store (Lens.id Room.fl.len Room.fl.one) rfl rfl rfl sz25 rfl .head) ?_
  refine GL_hand0 rfl ⟨?_, ?_⟩
  · exact (Pend_skip (by kernel_rfl) (Pend_skip (by kernel_rfl) (Pend_skip (by kernel_rfl) (Pend_skip (by kernel_rfl) (Pend_skip (by kernel_rfl) (Pend_skip (by kernel_rfl) (Pend_skip (by kernel_rfl) Pend_nil)))))))
  refine Plan_end (by kernel_rfl) ?_
  refine GQ_sub (.cons (k := 0) rfl (.cons (k := 2) rfl (.nil _))) ?_
  refine GQ_then ?_
  refine G_seq ?_
  refine G_region ?_
  refine GL_step rfl (PS_assign rfl) ?_
  refine GL_nil ?_
  refine GQ_then ?_
  refine G_seq ?_
  refine G_seq ?_
  refine G_region ?_
  refine GL_step rfl (PS_move rfl) ?_
  refine GL_nil ?_
  refine GQ_then ?_
  refine G_block ?_
  refine G_subF (.cons (k := 3) rfl (.cons (k := 25) rfl (.cons (k := 0) rfl (.cons (k := 2) rfl (.nil _))))) ?_
  refine G_loop2_ (fun (k : Int) (x : Str) => 0 ≤ k ∧ k ≤ 6 ∧ x = Turn.waysK (T.w.rooms.at T.me.room) k.toNat) (fun (k : Int) (x : Str) => (6 - k).toNat) (fun (k : Int) (x : Str) => [(3, vstr x), (25, .int .i64 k)]) (fun (k : Int) (x : Str) => []) (0) (_) ?_ rfl rfl (fun k x hI1 => ?_)
  · exact ⟨by omega, by omega, rfl⟩
  obtain ⟨hI11, hI12, hI13⟩ := hI1
  refine G_seq ?_
  refine G_region ?_
  refine GL_step rfl (PS_lss rfl rfl) ?_
  refine GL_nil ?_
  refine GQ_then ?_
  refine G_seq ?_
  refine G_cond rfl (fun c2 => ?_) (fun c2 => ?_)
  ·
   have c2p := kz c2
   try dsimp only at c2p
   have hxd := (hF.exit hI11 (show k < 6 by omega))
   have hst := Turn.waysK_step (r := T.w.rooms.at T.me.room) hI11
   have hwl := Turn.waysK_len (T.w.rooms.at T.me.room) k.toNat
   rw [← hI13] at hwl
   have hcl := Land.called_len k
   have hck := Land.calledT (d := k) (by rw [Bool.and_eq_true]; exact ⟨decide_eq_true hI11, decide_eq_true (by omega)⟩)
   rw [hck] at hcl hst
   refine G_skip ?_
   refine GQ_sub (.cons (k := 0) rfl (.cons (k := 2) rfl (.cons (k := 3) rfl (.cons (k := 25) rfl (.nil _))))) ?_
   refine GQ_then ?_
   refine G_seq ?_
   refine G_block ?_
   refine G_seq ?_
   refine G_region ?_
   refine GL_step rfl (PS_move rfl) ?_
   refine GL_step rfl (PS_assign rfl) ?_
   refine GL_nil ?_
   refine GQ_sub (.cons (k := 0) rfl (.cons (k := 2) rfl (.cons (k := 3) rfl (.cons (k := 4) rfl (.cons (k := 25) rfl (.nil _)))))) ?_
   refine GQ_then ?_
   refine G_seq ?_
   refine G_region ?_
   refine GL_step rfl (PS_move rfl) ?_
   refine GL_step rfl (PS_fieldAddr fa25_2 rfl) ?_
   refine GL_step rfl (PS_indexAddr ia22 rfl rfl (by first | omega | exact hb.1 | exact hb.2 | exact hr.1 | exact hr.2 | (dsimp only; omega) | (simp only [List.length_append, List.length_cons, List.length_nil]; omega) | ((try dsimp only at *); (try simp only [List.length_append, List.length_cons, List.length_nil]); omega)) (by first | omega | exact hb.1 | exact hb.2 | exact hr.1 | exact hr.2 | (dsimp only; omega) | (simp only [List.length_append, List.length_cons, List.length_nil]; omega) | ((try dsimp only at *); (try simp only [List.length_append, List.length_cons, List.length_nil]); omega))) ?_
   refine GL_step rfl (PS_load rfl tys3 (.head _) (Room.l2.comp (Lens.arr (n := 6) flI (by first | omega | exact hb.1 | exact hb.2 | exact hr.1 | exact hr.2 | (dsimp only; omega) | (simp only [List.length_append, List.length_cons, List.length_nil]; omega) | ((try dsimp only at *); (try simp only [List.length_append, List.length_cons, List.length_nil]); omega)) (by first | omega | exact hb.1 | exact hb.2 | exact hr.1 | exact hr.2 | (dsimp only; omega) | (simp only [List.length_append, List.length_cons, List.length_nil]; omega) | ((try dsimp only at *); (try simp only [List.length_append, List.length_cons, List.length_nil]); omega)))) rfl rfl) ?_
   refine GL_step rfl (PS_gtr rfl rfl) ?_
   refine GL_nil ?_
   refine GQ_sub (.cons (k := 0) rfl (.cons (k := 2) rfl (.cons (k := 3) rfl (.cons (k := 4) rfl (.cons (k := 25) rfl (.cons (k := 32) rfl (.nil _))))))) ?_
   refine GQ_then ?_
   refine G_cond rfl (fun c3 => ?_) (fun c3 => ?_)
   ·
    have c3p := kz c3
    try dsimp only at c3p
    have cp3 : decide ((T.w.rooms.at T.me.room).exits.at k = 0) = false := decide_eq_false (by have := c3p; first | exact this | (show ¬ (T.w.rooms.at (T.w.beings.at T.b).room).exits.at k = 0; omega))
    rw [if_f cp3] at hst
    refine G_seq ?_
    refine G_region ?_
    refine GL_step rfl (PS_move rfl) ?_
    refine GL_step rfl (PS_move rfl) ?_
    refine GL_step rfl (PS_indexAddr ia80 rfl rfl (by first | omega | exact hb.1 | exact hb.2 | exact hr.1 | exact hr.2 | (dsimp only; omega) | (simp only [List.length_append, List.length_cons, List.length_nil]; omega) | ((try dsimp only at *); (try simp only [List.length_append, List.length_cons, List.length_nil]); omega)) (by first | omega | exact hb.1 | exact hb.2 | exact hr.1 | exact hr.2 | (dsimp only; omega) | (simp only [List.length_append, List.length_cons, List.length_nil]; omega) | ((try dsimp only at *); (try simp only [List.length_append, List.length_cons, List.length_nil]); omega))) ?_
    refine GL_step rfl (PS_ldGVM gl0 gm0 rfl tys9 (Land.verbs_at hI11 (by omega))) ?_
    refine GL_step rfl (PS_add_str rfl rfl (by first | omega | exact hb.1 | exact hb.2 | exact hr.1 | exact hr.2 | (dsimp only; omega) | (simp only [List.length_append, List.length_cons, List.length_nil]; omega) | ((try dsimp only at *); (try simp only [List.length_append, List.length_cons, List.length_nil]); omega))) ?_
    refine GL_step rfl (PS_add_str rfl rfl (by first | omega | exact hb.1 | exact hb.2 | exact hr.1 | exact hr.2 | (dsimp only; omega) | (simp only [List.length_append, List.length_cons, List.length_nil]; omega) | ((try dsimp only at *); (try simp only [List.length_append, List.length_cons, List.length_nil]); omega))) ?_
    refine GL_step rfl (PS_assign rfl) ?_
    refine GL_nil ?_
    refine GQ_sub (.cons (k := 0) rfl (.cons (k := 2) rfl (.cons (k := 3) rfl (.cons (k := 4) rfl (.cons (k := 25) rfl (.nil _)))))) ?_
    refine GQ_then ?_
    refine G_seq ?_
    refine G_region ?_
    refine GL_step rfl (PS_move rfl) ?_
    refine GL_step rfl (PS_fieldAddr fa25_3 rfl) ?_
    refine GL_step rfl (PS_indexAddr ia23 rfl rfl (by first | omega | exact hb.1 | exact hb.2 | exact hr.1 | exact hr.2 | (dsimp only; omega) | (simp only [List.length_append, List.length_cons, List.length_nil]; omega) | ((try dsimp only at *); (try simp only [List.length_append, List.length_cons, List.length_nil]); omega)) (by first | omega | exact hb.1 | exact hb.2 | exact hr.1 | exact hr.2 | (dsimp only; omega) | (simp only [List.length_append, List.length_cons, List.length_nil]; omega) | ((try dsimp only at *); (try simp only [List.length_append, List.length_cons, List.length_nil]); omega))) ?_
    refine GL_step rfl (PS_load rfl tys4 (.head _) (Room.l3.comp (Lens.arr (n := 6) flB (by first | omega | exact hb.1 | exact hb.2 | exact hr.1 | exact hr.2 | (dsimp only; omega) | (simp only [List.length_append, List.length_cons, List.length_nil]; omega) | ((try dsimp only at *); (try simp only [List.length_append, List.length_cons, List.length_nil]); omega)) (by first | omega | exact hb.1 | exact hb.2 | exact hr.1 | exact hr.2 | (dsimp only; omega) | (simp only [List.length_append, List.length_cons, List.length_nil]; omega) | ((try dsimp only at *); (try simp only [List.length_append, List.length_cons, List.length_nil]); omega)))) rfl rfl) ?_
    refine GL_nil ?_
    refine GQ_sub (.cons (k := 0) rfl (.cons (k := 2) rfl (.cons (k := 3) rfl (.cons (k := 25) rfl (.cons (k := 42) rfl (.nil _)))))) ?_
    refine GQ_then ?_
    refine G_cond rfl (fun c4 => ?_) (fun c4 => ?_)
    ·
     have c4p := kz c4
     try dsimp only at c4p
     have cp4 : (T.w.rooms.at T.me.room).shut.at k = true := c4
     rw [if_t cp4] at hst
     refine G_region ?_
     refine GL_step rfl (PS_move rfl) ?_
     refine GL_step rfl (PS_add_str rfl rfl (by first | omega | exact hb.1 | exact hb.2 | exact hr.1 | exact hr.2 | (dsimp only; omega) | (simp only [List.length_append, List.length_cons, List.length_nil]; omega) | ((try dsimp only at *); (try simp only [List.length_append, List.length_cons, List.length_nil]); omega))) ?_
     refine GL_step rfl (PS_assign rfl) ?_
     refine GL_nil ?_
     refine GQ_sub (.cons (k := 0) rfl (.cons (k := 2) rfl (.cons (k := 3) rfl (.cons (k := 25) rfl (.nil _))))) ?_
     refine GQ_block ?_
     refine GQ_then ?_
     refine G_region ?_
     refine GL_step rfl (PS_add rfl rfl (IntWalk.i64_in _ (by first | omega | exact hb.1 | exact hb.2 | exact hr.1 | exact hr.2 | (dsimp only; omega) | (simp only [List.length_append, List.length_cons, List.length_nil]; omega) | ((try dsimp only at *); (try simp only [List.length_append, List.length_cons, List.length_nil]); omega)))) ?_
     refine GL_step rfl (PS_move rfl) ?_
     refine GL_nil ?_
     refine GQ_sub (.cons (k := 0) rfl (.cons (k := 2) rfl (.cons (k := 3) rfl (.cons (k := 25) rfl (.nil _))))) ?_
     refine GQ_next2_ (k + 1) _ ?_ ?_ (.cons (k := 3) rfl (.cons (k := 25) rfl (.cons (k := 0) rfl (.cons (k := 2) rfl (.nil _))))) (.refl _)
     · exact ⟨by omega, by omega, by rw [hst, ← hI13]⟩
     · omega
    have c4p := kz c4
    try dsimp only at c4p
    have cp4 : (T.w.rooms.at T.me.room).shut.at k = false := c4
    rw [if_f cp4] at hst
    refine G_skip ?_
    refine GQ_sub (.cons (k := 0) rfl (.cons (k := 2) rfl (.cons (k := 3) rfl (.cons (k := 25) rfl (.nil _))))) ?_
    refine GQ_block ?_
    refine GQ_then ?_
    refine G_region ?_
    refine GL_step rfl (PS_add rfl rfl (IntWalk.i64_in _ (by first | omega | exact hb.1 | exact hb.2 | exact hr.1 | exact hr.2 | (dsimp only; omega) | (simp only [List.length_append, List.length_cons, List.length_nil]; omega) | ((try dsimp only at *); (try simp only [List.length_append, List.length_cons, List.length_nil]); omega)))) ?_
    refine GL_step rfl (PS_move rfl) ?_
    refine GL_nil ?_
    refine GQ_sub (.cons (k := 0) rfl (.cons (k := 2) rfl (.cons (k := 3) rfl (.cons (k := 25) rfl (.nil _))))) ?_
    refine GQ_next2_ (k + 1) _ ?_ ?_ (.cons (k := 3) rfl (.cons (k := 25) rfl (.cons (k := 0) rfl (.cons (k := 2) rfl (.nil _))))) (.refl _)
    · exact ⟨by omega, by omega, by rw [hst, ← hI13]⟩
    · omega
   have c3p := kz c3
   try dsimp only at c3p
   have cp3 : decide ((T.w.rooms.at T.me.room).exits.at k = 0) = true := decide_eq_true (by have := c3p; first | exact this | (show  (T.w.rooms.at (T.w.beings.at T.b).room).exits.at k = 0; omega))
   rw [if_t cp3] at hst
   refine G_skip ?_
   refine GQ_sub (.cons (k := 0) rfl (.cons (k := 2) rfl (.cons (k := 3) rfl (.cons (k := 25) rfl (.nil _))))) ?_
   refine GQ_block ?_
   refine GQ_then ?_
   refine G_region ?_
   refine GL_step rfl (PS_add rfl rfl (IntWalk.i64_in _ (by first | omega | exact hb.1 | exact hb.2 | exact hr.1 | exact hr.2 | (dsimp only; omega) | (simp only [List.length_append, List.length_cons, List.length_nil]; omega) | ((try dsimp only at *); (try simp only [List.length_append, List.length_cons, List.length_nil]); omega)))) ?_
   refine GL_step rfl (PS_move rfl) ?_
   refine GL_nil ?_
   refine GQ_sub (.cons (k := 0) rfl (.cons (k := 2) rfl (.cons (k := 3) rfl (.cons (k := 25) rfl (.nil _))))) ?_
   refine GQ_next2_ (k + 1) _ ?_ ?_ (.cons (k := 3) rfl (.cons (k := 25) rfl (.cons (k := 0) rfl (.cons (k := 2) rfl (.nil _))))) (.refl _)
   · exact ⟨by omega, by omega, by rw [hst, ← hI13]⟩
   · omega
  have c2p := kz c2
  try dsimp only at c2p
  obtain rfl : k = 6 := by omega
  subst hI13
  have hwl := Turn.waysK_len (T.w.rooms.at T.me.room) 6
  refine G_exit ?_
  refine GQ_then_exit ?_
  refine GQ_then_exit ?_
  refine GQ_block_exit ?_
  refine GQ_sub (.cons (k := 0) rfl (.cons (k := 2) rfl (.cons (k := 3) rfl (.nil _)))) ?_
  refine GQ_then ?_
  refine G_seq ?_
  refine G_region ?_
  refine GL_step rfl (PS_move rfl) ?_
  refine GL_step rfl (PS_fieldAddr fa25_0 rfl) ?_
  refine GL_step rfl (PS_load rfl tys9 (.head _) Room.l0 rfl rfl) ?_
  refine GL_step rfl (PS_add_str rfl rfl (by first | omega | exact hb.1 | exact hb.2 | exact hr.1 | exact hr.2 | (dsimp only; omega) | (simp only [List.length_append, List.length_cons, List.length_nil]; omega) | ((try dsimp only at *); (try simp only [List.length_append, List.length_cons, List.length_nil]); omega))) ?_
  refine GL_step rfl (PS_add_str rfl rfl (by first | omega | exact hb.1 | exact hb.2 | exact hr.1 | exact hr.2 | (dsimp only; omega) | (simp only [List.length_append, List.length_cons, List.length_nil]; omega) | ((try dsimp only at *); (try simp only [List.length_append, List.length_cons, List.length_nil]); omega))) ?_
  refine GL_callL rfl cf39 (.cons rfl (.cons rfl .nil)) (.cons (.tail .head) (.cons (.tail .head) .nil)) (ref_turn_tell_spec _ T _ _ hg hb (by omega)) (fun v6 B hv => ?_)
  obtain ⟨y7, rfl, y8, rfl⟩ := hv
  refine GL_nil ?_
  refine GQ_sub (.cons (k := 0) rfl (.cons (k := 3) rfl (.nil _))) ?_
  refine GQ_then ?_
  refine G_seq ?_
  refine G_region ?_
  refine GL_step rfl (PS_move rfl) ?_
  refine GL_step rfl (PS_move rfl) ?_
  refine GL_callL rfl cf39 (.cons rfl (.cons rfl .nil)) (.cons .head (.cons .head .nil)) (ref_turn_tell_spec _ (T.tell ([84, 104, 101, 32] ++ (T.w.rooms.at T.me.room).name ++ [46])) _ (Turn.waysK (T.w.rooms.at T.me.room) 6) (by assumption) hb (by simp only [Turn.tell_len]; omega)) (fun v9 B hv => ?_)
  obtain ⟨y10, rfl, y11, rfl⟩ := hv
  refine GL_nil ?_
  refine GQ_sub (.cons (k := 0) rfl (.nil _)) ?_
  refine GQ_then ?_
  refine G_seq ?_
  refine G_seq ?_
  refine G_region ?_
  refine GL_step rfl (PS_move rfl) ?_
  refine GL_callL rfl cf52 (.cons rfl .nil) (.cons .head .nil) (ref_turn_inSight_spec _ T.lookA _ (hF.of_w rfl rfl)) (fun v12 B hv => ?_)
  obtain ⟨y13, rfl, y14, rfl⟩ := hv
  refine GL_step rfl (PS_assign rfl) ?_
  refine GL_nil ?_
  refine GQ_sub (.cons (k := 0) rfl (.cons (k := 5) rfl (.nil _))) ?_
  refine GQ_then ?_
  refine G_seq ?_
  refine G_region ?_
  refine GL_step rfl (PS_move rfl) ?_
  refine GL_step rfl (PS_len_slice rfl Tryz.underlying66 rfl) ?_
  refine GL_step rfl (PS_gtr rfl rfl) ?_
  refine GL_nil ?_
  refine GQ_sub (.cons (k := 0) rfl (.cons (k := 5) rfl (.cons (k := 59) rfl (.nil _)))) ?_
  refine GQ_then ?_
  refine G_cond rfl (fun c5 => ?_) (fun c5 => ?_)
  ·
   have c5p := kz c5
   try dsimp only at c5p
   have hnm : (Turn.namedR T.lookA.w T.seen).length ≤ 1266637395161115 := Turn.namedR_len hw T.seen_len
   refine G_region ?_
   refine GL_step rfl (PS_move rfl) ?_
   refine GL_step rfl (PS_move rfl) ?_
   refine GL_step rfl (PS_move rfl) ?_
   refine GL_callL rfl cf40 (.cons rfl (.cons rfl .nil)) (.cons .head (.cons .head .nil)) (ref_turn_named_spec _ T.lookA _ _ T.seen (hF.of_w rfl rfl) (by assumption) T.seen_len (fun i hi => Turn.seen_rng hi)) (fun v16 B hv => ?_)
   obtain ⟨rfl, rfl⟩ := hv
   refine GL_step rfl (PS_add_str rfl rfl (by first | omega | exact hb.1 | exact hb.2 | exact hr.1 | exact hr.2 | (dsimp only; omega) | (simp only [List.length_append, List.length_cons, List.length_nil]; omega) | ((try dsimp only at *); (try simp only [List.length_append, List.length_cons, List.length_nil]); omega))) ?_
   refine GL_callL rfl cf39 (.cons rfl (.cons rfl .nil)) (.cons .head (.cons (.tail .head) .nil)) (ref_turn_tell_spec _ T.lookA _ ([72, 101, 114, 101, 32, 105, 115] ++ Turn.namedR T.w T.seen) (by assumption) hb (by rw [(Turn.lookA_w T).2.2]; omega)) (fun v17 B hv => ?_)
   obtain ⟨y18, rfl, y19, rfl⟩ := hv
   refine GL_nil ?_
   refine GQ_sub (.cons (k := 0) rfl (.nil _)) ?_
   refine GQ_then ?_
   refine G_seq ?_
   refine G_region ?_
   refine GL_step rfl (PS_move rfl) ?_
   refine GL_nil ?_
   refine GQ_then ?_
   refine G_block ?_
   refine G_subF (.cons (k := 66) rfl (.cons (k := 0) rfl (.nil _))) ?_
   refine G_pull (.tail .head) ?_
   refine G_pull (.tail .head) ?_
   refine G_loop3_ (fun (k : Int) (X : Turn) (h : Hd) => 0 ≤ k ∧ k ≤ 6 ∧ X = T.lookB.hereK k.toNat ∧ h.len = X.out.length) (fun (k : Int) (X : Turn) (h : Hd) => (6 - k).toNat) (fun (k : Int) (X : Turn) (h : Hd) => [(66, .int .i64 k)]) (fun (k : Int) (X : Turn) (h : Hd) => [Res.box b 57 (TurnV.enc ⟨X.w, X.b, h⟩), Res.own h 60 16 (X.out.flatMap Ing.Event.enc)]) (0) (_) (_) ?_ rfl rfl (fun k X h hI2 => ?_)
   · have hyl : y13.len = T.seen.length := y14
     have hlb : T.lookB = T.lookA.list [72, 101, 114, 101, 32, 105, 115] (T.w.has 0 T.me.room) := if_pos (show decide (0 < ((T.w.has 0 T.me.room).length : Int)) = true by rw [← hsee, ← hyl]; exact c5)
     rw [← hsee, ← Turn.named_list] at hlb
     exact ⟨by omega, by omega, hlb.symm, by assumption⟩
   obtain ⟨hI21, hI22, hI23, hI24⟩ := hI2
   refine G_seq ?_
   refine G_region ?_
   refine GL_step rfl (PS_lss rfl rfl) ?_
   refine GL_nil ?_
   refine GQ_then ?_
   refine G_seq ?_
   refine G_cond rfl (fun c6 => ?_) (fun c6 => ?_)
   ·
    have c6p := kz c6
    try dsimp only at c6p
    have hnb := hw.be k
    have hXl := Turn.hereK_w T.lookB k.toNat
    have hBl := Turn.lookB_w T
    rw [← hI23] at hXl
    have hXw : X.w = T.w := hXl.1.trans hBl.1
    have hXb : X.b = T.b := hXl.2.1.trans hBl.2.1
    rw [← hXw] at hnb
    refine G_skip ?_
    refine GQ_sub (.cons (k := 0) rfl (.cons (k := 66) rfl (.nil _))) ?_
    refine GQ_then ?_
    refine G_seq ?_
    refine G_block ?_
    refine G_seq ?_
    refine G_region ?_
    refine GL_step rfl (PS_move rfl) ?_
    refine GL_step rfl (PS_assign rfl) ?_
    refine GL_nil ?_
    refine GQ_sub (.cons (k := 0) rfl (.cons (k := 6) rfl (.cons (k := 66) rfl (.nil _)))) ?_
    refine GQ_then ?_
    refine G_seq ?_
    refine G_planN (N := 18) [0, 0, 2, 6, 14, 31, 63, 127, 255, 511, 1023, 127, 2175, 6271, 14463, 127, 65535, 131071] mix (by kernel_rfl) rfl ?_
    refine Plan_float 0 rfl rfl (by kernel_rfl) (OK_s (EX_s (PS_move rfl))) ?_
    refine Plan_float 1 rfl rfl (by kernel_rfl) (OK_s (EX_s (PS_move rfl))) ?_
    refine Plan_float 2 rfl rfl (by kernel_rfl) (OK_s (EX_s (PS_nilCheck rfl))) ?_
    refine Plan_float 3 rfl rfl (by kernel_rfl) (OK_s (EX_s (PS_fieldAddr fa57_1 rfl))) ?_
    refine Plan_float 4 rfl rfl (by kernel_rfl) (OK_s (EX_s (PS_load rfl tys3 (.head _) TurnV.l1 rfl rfl))) ?_
    refine Plan_float 5 rfl rfl (by kernel_rfl) (OK_s (EX_s (PS_neq rfl rfl))) ?_
    refine Plan_float 6 rfl rfl (by kernel_rfl) (OK_s (EX_s (PS_move rfl))) ?_
    refine Plan_float 7 rfl rfl (by kernel_rfl) (OK_gt (t := 75) rfl rfl (fun q => EX_s (PS_move rfl))) ?_
    refine Plan_float 8 rfl rfl (by kernel_rfl) (OK_gt (t := 75) rfl rfl (fun q => EX_s (PS_nilCheck (cvE rfl q)))) ?_
    refine Plan_float 9 rfl rfl (by kernel_rfl) (OK_gt (t := 75) rfl rfl (fun q => EX_s (PS_fieldAddr fa57_0 (cvE rfl q)))) ?_
    refine Plan_float 10 rfl rfl (by kernel_rfl) (OK_gt (t := 75) rfl rfl (fun q => EX_s (PS_loadA (cvE rfl q) tya34 (.head _) TurnV.l0 rfl))) ?_
    refine Plan_float 11 rfl rfl (by kernel_rfl) (OK_gt (t := 75) rfl rfl (fun q => EX_s (PS_move rfl))) ?_
    refine Plan_float 12 rfl rfl (by kernel_rfl) (OK_gt (t := 75) rfl rfl (fun q => EX_s (PS_nilCheck (cvE rfl q)))) ?_
    refine Plan_float 13 rfl rfl (by kernel_rfl) (OK_gt (t := 75) rfl rfl (fun q => EX_s (PS_fieldAddr fa57_1 (cvE rfl q)))) ?_
    refine Plan_float 14 rfl rfl (by kernel_rfl) (OK_gt (t := 75) rfl rfl (fun q => EX_s (PS_load (cvE rfl q) tys3 (.head _) TurnV.l1 rfl rfl))) ?_
    refine Plan_float 15 rfl rfl (by kernel_rfl) (OK_gt (t := 75) rfl rfl (fun q => EX_s (PS_move rfl))) ?_
    refine Plan_float 16 rfl rfl (by kernel_rfl) (OK_gt (t := 75) rfl rfl (fun q => EX_c (PC_of cf53 (.cons (cvE rfl q) (.cons (cvE rfl q) (.cons (cvE rfl q) .nil))) (fun w hS => ref_IsSeen_spec _ _ _ w)))) ?_
    refine Plan_float 17 rfl rfl (by kernel_rfl) (OK_s (EX_s (PS_and rfl rfl (fun h => h)))) ?_
    refine Plan_end (by kernel_rfl) ?_
    refine GQ_sub (.cons (k := 0) rfl (.cons (k := 6) rfl (.cons (k := 66) rfl (.cons (k := 86) rfl (.nil _))))) ?_
    refine GQ_then ?_
    refine G_cond rfl (fun c7 => ?_) (fun c7 => ?_)
    ·
     have c7p := kz c7
     try dsimp only at c7p
     have cp7 : (!decide (k = T.lookB.b) && T.lookB.w.sees T.lookB.b k) = true := by rw [hBl.1, hBl.2.1, ← hXw, ← hXb]; exact c7
     refine G_region ?_
     refine GL_step rfl (PS_move rfl) ?_
     refine GL_step rfl (PS_move rfl) ?_
     refine GL_step rfl (PS_move rfl) ?_
     refine GL_step rfl (PS_nilCheck rfl) ?_
     refine GL_step rfl (PS_fieldAddr fa57_0 rfl) ?_
     refine GL_step rfl (PS_fieldAddr fa34_2 rfl) ?_
     refine GL_step rfl (PS_indexAddr ia32 rfl rfl (by first | omega | exact hb.1 | exact hb.2 | exact hr.1 | exact hr.2 | (dsimp only; omega) | (simp only [List.length_append, List.length_cons, List.length_nil]; omega) | ((try dsimp only at *); (try simp only [List.length_append, List.length_cons, List.length_nil]); omega)) (by first | omega | exact hb.1 | exact hb.2 | exact hr.1 | exact hr.2 | (dsimp only; omega) | (simp only [List.length_append, List.length_cons, List.length_nil]; omega) | ((try dsimp only at *); (try simp only [List.length_append, List.length_cons, List.length_nil]); omega))) ?_
     refine GL_step rfl (PS_fieldAddr fa31_0 rfl) ?_
     refine GL_step rfl (PS_load rfl tys9 (.head _) (((TurnV.l0.comp Land.l2).comp (Lens.arr (n := 6) Being.fl (by first | omega | exact hb.1 | exact hb.2 | exact hr.1 | exact hr.2 | (dsimp only; omega) | (simp only [List.length_append, List.length_cons, List.length_nil]; omega) | ((try dsimp only at *); (try simp only [List.length_append, List.length_cons, List.length_nil]); omega)) (by first | omega | exact hb.1 | exact hb.2 | exact hr.1 | exact hr.2 | (dsimp only; omega) | (simp only [List.length_append, List.length_cons, List.length_nil]; omega) | ((try dsimp only at *); (try simp only [List.length_append, List.length_cons, List.length_nil]); omega)))).comp Being.l0) rfl rfl) ?_
     refine GL_step rfl (PS_add_str rfl rfl (by first | omega | exact hb.1 | exact hb.2 | exact hr.1 | exact hr.2 | (dsimp only; omega) | (simp only [List.length_append, List.length_cons, List.length_nil]; omega) | ((try dsimp only at *); (try simp only [List.length_append, List.length_cons, List.length_nil]); omega))) ?_
     refine GL_callL rfl cf39 (.cons rfl (.cons rfl .nil)) (.cons .head (.cons .head .nil)) (ref_turn_tell_spec _ X _ _ (by assumption) (by rw [hXb]; exact hb) (by have := hXl.2.2; have := hBl.2.2; omega)) (fun v20 B hv => ?_)
     obtain ⟨y21, rfl, y22, rfl⟩ := hv
     refine GL_nil ?_
     refine GQ_sub (.cons (k := 0) rfl (.cons (k := 66) rfl (.nil _))) ?_
     refine GQ_block ?_
     refine GQ_then ?_
     refine G_region ?_
     refine GL_step rfl (PS_add rfl rfl (IntWalk.i64_in _ (by first | omega | exact hb.1 | exact hb.2 | exact hr.1 | exact hr.2 | (dsimp only; omega) | (simp only [List.length_append, List.length_cons, List.length_nil]; omega) | ((try dsimp only at *); (try simp only [List.length_append, List.length_cons, List.length_nil]); omega)))) ?_
     refine GL_step rfl (PS_move rfl) ?_
     refine GL_nil ?_
     refine GQ_sub (.cons (k := 0) rfl (.cons (k := 66) rfl (.nil _))) ?_
     refine GQ_next3_ (k + 1) _ _ ?_ ?_ (.cons (k := 66) rfl (.cons (k := 0) rfl (.nil _))) (.refl _)
     · exact ⟨by omega, by omega, by rw [Turn.hereK_step hI21, if_t cp7, ← hI23, hBl.1, ← hXw], by assumption⟩
     · omega
    have c7p := kz c7
    try dsimp only at c7p
    have cp7 : (!decide (k = T.lookB.b) && T.lookB.w.sees T.lookB.b k) = false := by rw [hBl.1, hBl.2.1, ← hXw, ← hXb]; exact c7
    refine G_skip ?_
    refine GQ_sub (.cons (k := 0) rfl (.cons (k := 66) rfl (.nil _))) ?_
    refine GQ_block ?_
    refine GQ_then ?_
    refine G_region ?_
    refine GL_step rfl (PS_add rfl rfl (IntWalk.i64_in _ (by first | omega | exact hb.1 | exact hb.2 | exact hr.1 | exact hr.2 | (dsimp only; omega) | (simp only [List.length_append, List.length_cons, List.length_nil]; omega) | ((try dsimp only at *); (try simp only [List.length_append, List.length_cons, List.length_nil]); omega)))) ?_
    refine GL_step rfl (PS_move rfl) ?_
    refine GL_nil ?_
    refine GQ_sub (.cons (k := 0) rfl (.cons (k := 66) rfl (.nil _))) ?_
    refine GQ_next3_ (k + 1) _ _ ?_ ?_ (.cons (k := 66) rfl (.cons (k := 0) rfl (.nil _))) (.refl _)
    · exact ⟨by omega, by omega, by rw [Turn.hereK_step hI21, if_f cp7, ← hI23], by assumption⟩
    · omega
   have c6p := kz c6
   try dsimp only at c6p
   obtain rfl : k = 6 := by omega
   refine G_exit ?_
   refine GQ_then_exit ?_
   refine GQ_then_exit ?_
   refine GQ_block_exit ?_
   refine GQ_end rfl .nil ?_
   intro w1 hS
   have hS := (hS.perm (Pulls.perm (.cons .head (.cons .head .nil)))).headL
   have hq : T.look = X := (show T.look = _ from if_f c1).trans hI23.symm
   refine ⟨_, ⟨?gqc6, rfl, ?hlc6, ?hBc6⟩, hS⟩
   case hBc6 => rw [hq]
   case hlc6 => rw [hq]; assumption
  have c5p := kz c5
  try dsimp only at c5p
  refine G_skip ?_
  refine GQ_sub (.cons (k := 0) rfl (.nil _)) ?_
  refine GQ_then ?_
  refine G_seq ?_
  refine G_region ?_
  refine GL_step rfl (PS_move rfl) ?_
  refine GL_nil ?_
  refine GQ_then ?_
  refine G_block ?_
  refine G_subF (.cons (k := 66) rfl (.cons (k := 0) rfl (.nil _))) ?_
  refine G_pull (.tail (.tail .head)) ?_
  refine G_pull (.tail .head) ?_
  refine G_loop3_ (fun (k : Int) (X : Turn) (h : Hd) => 0 ≤ k ∧ k ≤ 6 ∧ X = T.lookB.hereK k.toNat ∧ h.len = X.out.length) (fun (k : Int) (X : Turn) (h : Hd) => (6 - k).toNat) (fun (k : Int) (X : Turn) (h : Hd) => [(66, .int .i64 k)]) (fun (k : Int) (X : Turn) (h : Hd) => [Res.box b 57 (TurnV.enc ⟨X.w, X.b, h⟩), Res.own h 60 16 (X.out.flatMap Ing.Event.enc)]) (0) (_) (_) ?_ rfl rfl (fun k X h hI2 => ?_)
  · have hyl : y13.len = T.seen.length := y14
    have hlb : T.lookB = T.lookA := if_neg (show ¬ decide (0 < ((T.w.has 0 T.me.room).length : Int)) = true by rw [← hsee, ← hyl]; rw [c5]; decide)
    exact ⟨by omega, by omega, hlb.symm, by assumption⟩
  obtain ⟨hI21, hI22, hI23, hI24⟩ := hI2
  refine G_seq ?_
  refine G_region ?_
  refine GL_step rfl (PS_lss rfl rfl) ?_
  refine GL_nil ?_
  refine GQ_then ?_
  refine G_seq ?_
  refine G_cond rfl (fun c8 => ?_) (fun c8 => ?_)
  ·
   have c8p := kz c8
   try dsimp only at c8p
   have hnb := hw.be k
   have hXl := Turn.hereK_w T.lookB k.toNat
   have hBl := Turn.lookB_w T
   rw [← hI23] at hXl
   have hXw : X.w = T.w := hXl.1.trans hBl.1
   have hXb : X.b = T.b := hXl.2.1.trans hBl.2.1
   rw [← hXw] at hnb
   refine G_skip ?_
   refine GQ_sub (.cons (k := 0) rfl (.cons (k := 66) rfl (.nil _))) ?_
   refine GQ_then ?_
   refine G_seq ?_
   refine G_block ?_
   refine G_seq ?_
   refine G_region ?_
   refine GL_step rfl (PS_move rfl) ?_
   refine GL_step rfl (PS_assign rfl) ?_
   refine GL_nil ?_
   refine GQ_sub (.cons (k := 0) rfl (.cons (k := 6) rfl (.cons (k := 66) rfl (.nil _)))) ?_
   refine GQ_then ?_
   refine G_seq ?_
   refine G_planN (N := 18) [0, 0, 2, 6, 14, 31, 63, 127, 255, 511, 1023, 127, 2175, 6271, 14463, 127, 65535, 131071] mix (by kernel_rfl) rfl ?_
   refine Plan_float 0 rfl rfl (by kernel_rfl) (OK_s (EX_s (PS_move rfl))) ?_
   refine Plan_float 1 rfl rfl (by kernel_rfl) (OK_s (EX_s (PS_move rfl))) ?_
   refine Plan_float 2 rfl rfl (by kernel_rfl) (OK_s (EX_s (PS_nilCheck rfl))) ?_
   refine Plan_float 3 rfl rfl (by kernel_rfl) (OK_s (EX_s (PS_fieldAddr fa57_1 rfl))) ?_
   refine Plan_float 4 rfl rfl (by kernel_rfl) (OK_s (EX_s (PS_load rfl tys3 (.head _) TurnV.l1 rfl rfl))) ?_
   refine Plan_float 5 rfl rfl (by kernel_rfl) (OK_s (EX_s (PS_neq rfl rfl))) ?_
   refine Plan_float 6 rfl rfl (by kernel_rfl) (OK_s (EX_s (PS_move rfl))) ?_
   refine Plan_float 7 rfl rfl (by kernel_rfl) (OK_gt (t := 75) rfl rfl (fun q => EX_s (PS_move rfl))) ?_
   refine Plan_float 8 rfl rfl (by kernel_rfl) (OK_gt (t := 75) rfl rfl (fun q => EX_s (PS_nilCheck (cvE rfl q)))) ?_
   refine Plan_float 9 rfl rfl (by kernel_rfl) (OK_gt (t := 75) rfl rfl (fun q => EX_s (PS_fieldAddr fa57_0 (cvE rfl q)))) ?_
   refine Plan_float 10 rfl rfl (by kernel_rfl) (OK_gt (t := 75) rfl rfl (fun q => EX_s (PS_loadA (cvE rfl q) tya34 (.head _) TurnV.l0 rfl))) ?_
   refine Plan_float 11 rfl rfl (by kernel_rfl) (OK_gt (t := 75) rfl rfl (fun q => EX_s (PS_move rfl))) ?_
   refine Plan_float 12 rfl rfl (by kernel_rfl) (OK_gt (t := 75) rfl rfl (fun q => EX_s (PS_nilCheck (cvE rfl q)))) ?_
   refine Plan_float 13 rfl rfl (by kernel_rfl) (OK_gt (t := 75) rfl rfl (fun q => EX_s (PS_fieldAddr fa57_1 (cvE rfl q)))) ?_
   refine Plan_float 14 rfl rfl (by kernel_rfl) (OK_gt (t := 75) rfl rfl (fun q => EX_s (PS_load (cvE rfl q) tys3 (.head _) TurnV.l1 rfl rfl))) ?_
   refine Plan_float 15 rfl rfl (by kernel_rfl) (OK_gt (t := 75) rfl rfl (fun q => EX_s (PS_move rfl))) ?_
   refine Plan_float 16 rfl rfl (by kernel_rfl) (OK_gt (t := 75) rfl rfl (fun q => EX_c (PC_of cf53 (.cons (cvE rfl q) (.cons (cvE rfl q) (.cons (cvE rfl q) .nil))) (fun w hS => ref_IsSeen_spec _ _ _ w)))) ?_
   refine Plan_float 17 rfl rfl (by kernel_rfl) (OK_s (EX_s (PS_and rfl rfl (fun h => h)))) ?_
   refine Plan_end (by kernel_rfl) ?_
   refine GQ_sub (.cons (k := 0) rfl (.cons (k := 6) rfl (.cons (k := 66) rfl (.cons (k := 86) rfl (.nil _))))) ?_
   refine GQ_then ?_
   refine G_cond rfl (fun c9 => ?_) (fun c9 => ?_)
   ·
    have c9p := kz c9
    try dsimp only at c9p
    have cp7 : (!decide (k = T.lookB.b) && T.lookB.w.sees T.lookB.b k) = true := by rw [hBl.1, hBl.2.1, ← hXw, ← hXb]; exact c9
    refine G_region ?_
    refine GL_step rfl (PS_move rfl) ?_
    refine GL_step rfl (PS_move rfl) ?_
    refine GL_step rfl (PS_move rfl) ?_
    refine GL_step rfl (PS_nilCheck rfl) ?_
    refine GL_step rfl (PS_fieldAddr fa57_0 rfl) ?_
    refine GL_step rfl (PS_fieldAddr fa34_2 rfl) ?_
    refine GL_step rfl (PS_indexAddr ia32 rfl rfl (by first | omega | exact hb.1 | exact hb.2 | exact hr.1 | exact hr.2 | (dsimp only; omega) | (simp only [List.length_append, List.length_cons, List.length_nil]; omega) | ((try dsimp only at *); (try simp only [List.length_append, List.length_cons, List.length_nil]); omega)) (by first | omega | exact hb.1 | exact hb.2 | exact hr.1 | exact hr.2 | (dsimp only; omega) | (simp only [List.length_append, List.length_cons, List.length_nil]; omega) | ((try dsimp only at *); (try simp only [List.length_append, List.length_cons, List.length_nil]); omega))) ?_
    refine GL_step rfl (PS_fieldAddr fa31_0 rfl) ?_
    refine GL_step rfl (PS_load rfl tys9 (.head _) (((TurnV.l0.comp Land.l2).comp (Lens.arr (n := 6) Being.fl (by first | omega | exact hb.1 | exact hb.2 | exact hr.1 | exact hr.2 | (dsimp only; omega) | (simp only [List.length_append, List.length_cons, List.length_nil]; omega) | ((try dsimp only at *); (try simp only [List.length_append, List.length_cons, List.length_nil]); omega)) (by first | omega | exact hb.1 | exact hb.2 | exact hr.1 | exact hr.2 | (dsimp only; omega) | (simp only [List.length_append, List.length_cons, List.length_nil]; omega) | ((try dsimp only at *); (try simp only [List.length_append, List.length_cons, List.length_nil]); omega)))).comp Being.l0) rfl rfl) ?_
    refine GL_step rfl (PS_add_str rfl rfl (by first | omega | exact hb.1 | exact hb.2 | exact hr.1 | exact hr.2 | (dsimp only; omega) | (simp only [List.length_append, List.length_cons, List.length_nil]; omega) | ((try dsimp only at *); (try simp only [List.length_append, List.length_cons, List.length_nil]); omega))) ?_
    refine GL_callL rfl cf39 (.cons rfl (.cons rfl .nil)) (.cons .head (.cons .head .nil)) (ref_turn_tell_spec _ X _ _ (by assumption) (by rw [hXb]; exact hb) (by have := hXl.2.2; have := hBl.2.2; omega)) (fun v23 B hv => ?_)
    obtain ⟨y24, rfl, y25, rfl⟩ := hv
    refine GL_nil ?_
    refine GQ_sub (.cons (k := 0) rfl (.cons (k := 66) rfl (.nil _))) ?_
    refine GQ_block ?_
    refine GQ_then ?_
    refine G_region ?_
    refine GL_step rfl (PS_add rfl rfl (IntWalk.i64_in _ (by first | omega | exact hb.1 | exact hb.2 | exact hr.1 | exact hr.2 | (dsimp only; omega) | (simp only [List.length_append, List.length_cons, List.length_nil]; omega) | ((try dsimp only at *); (try simp only [List.length_append, List.length_cons, List.length_nil]); omega)))) ?_
    refine GL_step rfl (PS_move rfl) ?_
    refine GL_nil ?_
    refine GQ_sub (.cons (k := 0) rfl (.cons (k := 66) rfl (.nil _))) ?_
    refine GQ_next3_ (k + 1) _ _ ?_ ?_ (.cons (k := 66) rfl (.cons (k := 0) rfl (.nil _))) (.refl _)
    · exact ⟨by omega, by omega, by rw [Turn.hereK_step hI21, if_t cp7, ← hI23, hBl.1, ← hXw], by assumption⟩
    · omega
   have c9p := kz c9
   try dsimp only at c9p
   have cp7 : (!decide (k = T.lookB.b) && T.lookB.w.sees T.lookB.b k) = false := by rw [hBl.1, hBl.2.1, ← hXw, ← hXb]; exact c9
   refine G_skip ?_
   refine GQ_sub (.cons (k := 0) rfl (.cons (k := 66) rfl (.nil _))) ?_
   refine GQ_block ?_
   refine GQ_then ?_
   refine G_region ?_
   refine GL_step rfl (PS_add rfl rfl (IntWalk.i64_in _ (by first | omega | exact hb.1 | exact hb.2 | exact hr.1 | exact hr.2 | (dsimp only; omega) | (simp only [List.length_append, List.length_cons, List.length_nil]; omega) | ((try dsimp only at *); (try simp only [List.length_append, List.length_cons, List.length_nil]); omega)))) ?_
   refine GL_step rfl (PS_move rfl) ?_
   refine GL_nil ?_
   refine GQ_sub (.cons (k := 0) rfl (.cons (k := 66) rfl (.nil _))) ?_
   refine GQ_next3_ (k + 1) _ _ ?_ ?_ (.cons (k := 66) rfl (.cons (k := 0) rfl (.nil _))) (.refl _)
   · exact ⟨by omega, by omega, by rw [Turn.hereK_step hI21, if_f cp7, ← hI23], by assumption⟩
   · omega
  have c8p := kz c8
  try dsimp only at c8p
  obtain rfl : k = 6 := by omega
  refine G_exit ?_
  refine GQ_then_exit ?_
  refine GQ_then_exit ?_
  refine GQ_block_exit ?_
  refine GQ_end rfl .nil ?_
  intro w1 hS
  have hS := (hS.perm (Pulls.perm (.cons .head (.cons .head .nil)))).headL
  have hq : T.look = X := (show T.look = _ from if_f c1).trans hI23.symm
  refine ⟨_, ⟨?gqc8, rfl, ?hlc8, ?hBc8⟩, hS⟩
  case hBc8 => rw [hq]
  case hlc8 => rw [hq]; assumption
 ·
  refine GL_alloc rfl zv25 rfl (fun b2 => ?_)
  refine GL_hand rfl ⟨?_, ?_⟩
  · exact (Pend_okv rfl (OK_s (EX_s (PS_fieldAddr fa34_0 rfl))) rfl rfl (Pend_okv rfl (OK_s (EX_s (PS_fieldAddr fa57_0 rfl))) rfl rfl (Pend_okv rfl (OK_s (EX_s (PS_nilCheck rfl))) rfl rfl (Pend_okv rfl (OK_s (EX_s (PS_move rfl))) rfl rfl (Pend_okv rfl (OK_s (EX_s (PS_move rfl))) rfl rfl Pend_nil)))))
  refine Plan_chain 2 rfl (by kernel_rfl) ?_
  refine GL_callL rfl cf51 (.cons rfl .nil) (.cons (.tail .head) .nil) (ref_turn_here_spec _ T _ hF) (fun v26 B hv => ?_)
  obtain ⟨rfl, rfl⟩ := hv
  refine GL_hand rfl ⟨?_, ?_⟩
  · exact (Pend_okv rfl (OK_s (EX_s (PS_fieldAddr fa34_0 rfl))) rfl rfl (Pend_okv rfl (OK_s (EX_s (PS_fieldAddr fa57_0 rfl))) rfl rfl (Pend_okv rfl (OK_s (EX_s (PS_nilCheck rfl))) rfl rfl (Pend_skip (by kernel_rfl) (Pend_okv rfl (OK_s (EX_s (PS_move rfl))) rfl rfl Pend_nil)))))
  refine Plan_float 6 rfl rfl (by kernel_rfl) (OK_s (EX_s (PS_indexAddr ia26 rfl rfl (by first | omega | exact hb.1 | exact hb.2 | exact hr.1 | exact hr.2 | (dsimp only; omega) | (simp only [List.length_append, List.length_cons, List.length_nil]; omega) | ((try dsimp only at *); (try simp only [List.length_append, List.length_cons, List.length_nil]); omega)) (by first | omega | exact hb.1 | exact hb.2 | exact hr.1 | exact hr.2 | (dsimp only; omega) | (simp only [List.length_append, List.length_cons, List.length_nil]; omega) | ((try dsimp only at *); (try simp only [List.length_append, List.length_cons, List.length_nil]); omega))))) ?_
  refine Plan_float 7 rfl rfl (by kernel_rfl) (OK_s (EX_s (PS_loadA rfl tya25 (.head _) ((TurnV.l0.comp Land.l0).comp (Lens.arr (n := 6) Room.fl (by first | omega | exact hb.1 | exact hb.2 | exact hr.1 | exact hr.2 | (dsimp only; omega) | (simp only [List.length_append, List.length_cons, List.length_nil]; omega) | ((try dsimp only at *); (try simp only [List.length_append, List.length_cons, List.length_nil]); omega)) (by first | omega | exact hb.1 | exact hb.2 | exact hr.1 | exact hr.2 | (dsimp only; omega) | (simp only [List.length_append, List.length_cons, List.length_nil]; omega) | ((try dsimp only at *); (try simp only [List.length_append, List.length_cons, List.length_nil]); omega)))) rfl))) ?_
  refine Plan_chain 9 rfl (by kernel_rfl) ?_
  refine GL_unit (PU_store (Lens.id Room.fl.len Room.fl.one) rfl rfl rfl sz25 rfl (.tail .head)) ?_
  refine GL_hand0 rfl ⟨?_, ?_⟩
  · exact (Pend_skip (by kernel_rfl) (Pend_skip (by kernel_rfl) (Pend_skip (by kernel_rfl) (Pend_skip (by kernel_rfl) (Pend_skip (by kernel_rfl) (Pend_skip (by kernel_rfl) (Pend_skip (by kernel_rfl) Pend_nil)))))))
  refine Plan_end (by kernel_rfl) ?_
  refine GQ_sub (.cons (k := 0) rfl (.cons (k := 2) rfl (.nil _))) ?_
  refine GQ_then ?_
  refine G_seq ?_
  refine G_region ?_
  refine GL_step rfl (PS_assign rfl) ?_
  refine GL_nil ?_
  refine GQ_then ?_
  refine G_seq ?_
  refine G_seq ?_
  refine G_region ?_
  refine GL_step rfl (PS_move rfl) ?_
  refine GL_nil ?_
  refine GQ_then ?_
  refine G_block ?_
  refine G_subF (.cons (k := 3) rfl (.cons (k := 25) rfl (.cons (k := 0) rfl (.cons (k := 2) rfl (.nil _))))) ?_
  refine G_loop2_ (fun (k : Int) (x : Str) => 0 ≤ k ∧ k ≤ 6 ∧ x = Turn.waysK (T.w.rooms.at T.me.room) k.toNat) (fun (k : Int) (x : Str) => (6 - k).toNat) (fun (k : Int) (x : Str) => [(3, vstr x), (25, .int .i64 k)]) (fun (k : Int) (x : Str) => []) (0) (_) ?_ rfl rfl (fun k x hI1 => ?_)
  · exact ⟨by omega, by omega, rfl⟩
  obtain ⟨hI11, hI12, hI13⟩ := hI1
  refine G_seq ?_
  refine G_region ?_
  refine GL_step rfl (PS_lss rfl rfl) ?_
  refine GL_nil ?_
  refine GQ_then ?_
  refine G_seq ?_
  refine G_cond rfl (fun c10 => ?_) (fun c10 => ?_)
  ·
   have c10p := kz c10
   try dsimp only at c10p
   have hxd := (hF.exit hI11 (show k < 6 by omega))
   have hst := Turn.waysK_step (r := T.w.rooms.at T.me.room) hI11
   have hwl := Turn.waysK_len (T.w.rooms.at T.me.room) k.toNat
   rw [← hI13] at hwl
   have hcl := Land.called_len k
   have hck := Land.calledT (d := k) (by rw [Bool.and_eq_true]; exact ⟨decide_eq_true hI11, decide_eq_true (by omega)⟩)
   rw [hck] at hcl hst
   refine G_skip ?_
   refine GQ_sub (.cons (k := 0) rfl (.cons (k := 2) rfl (.cons (k := 3) rfl (.cons (k := 25) rfl (.nil _))))) ?_
   refine GQ_then ?_
   refine G_seq ?_
   refine G_block ?_
   refine G_seq ?_
   refine G_region ?_
   refine GL_step rfl (PS_move rfl) ?_
   refine GL_step rfl (PS_assign rfl) ?_
   refine GL_nil ?_
   refine GQ_sub (.cons (k := 0) rfl (.cons (k := 2) rfl (.cons (k := 3) rfl (.cons (k := 4) rfl (.cons (k := 25) rfl (.nil _)))))) ?_
   refine GQ_then ?_
   refine G_seq ?_
   refine G_region ?_
   refine GL_step rfl (PS_move rfl) ?_
   refine GL_step rfl (PS_fieldAddr fa25_2 rfl) ?_
   refine GL_step rfl (PS_indexAddr ia22 rfl rfl (by first | omega | exact hb.1 | exact hb.2 | exact hr.1 | exact hr.2 | (dsimp only; omega) | (simp only [List.length_append, List.length_cons, List.length_nil]; omega) | ((try dsimp only at *); (try simp only [List.length_append, List.length_cons, List.length_nil]); omega)) (by first | omega | exact hb.1 | exact hb.2 | exact hr.1 | exact hr.2 | (dsimp only; omega) | (simp only [List.length_append, List.length_cons, List.length_nil]; omega) | ((try dsimp only at *); (try simp only [List.length_append, List.length_cons, List.length_nil]); omega))) ?_
   refine GL_step rfl (PS_load rfl tys3 (.tail _ (.head _)) (Room.l2.comp (Lens.arr (n := 6) flI (by first | omega | exact hb.1 | exact hb.2 | exact hr.1 | exact hr.2 | (dsimp only; omega) | (simp only [List.length_append, List.length_cons, List.length_nil]; omega) | ((try dsimp only at *); (try simp only [List.length_append, List.length_cons, List.length_nil]); omega)) (by first | omega | exact hb.1 | exact hb.2 | exact hr.1 | exact hr.2 | (dsimp only; omega) | (simp only [List.length_append, List.length_cons, List.length_nil]; omega) | ((try dsimp only at *); (try simp only [List.length_append, List.length_cons, List.length_nil]); omega)))) rfl rfl) ?_
   refine GL_step rfl (PS_gtr rfl rfl) ?_
   refine GL_nil ?_
   refine GQ_sub (.cons (k := 0) rfl (.cons (k := 2) rfl (.cons (k := 3) rfl (.cons (k := 4) rfl (.cons (k := 25) rfl (.cons (k := 32) rfl (.nil _))))))) ?_
   refine GQ_then ?_
   refine G_cond rfl (fun c11 => ?_) (fun c11 => ?_)
   ·
    have c11p := kz c11
    try dsimp only at c11p
    have cp3 : decide ((T.w.rooms.at T.me.room).exits.at k = 0) = false := decide_eq_false (by have := c11p; first | exact this | (show ¬ (T.w.rooms.at (T.w.beings.at T.b).room).exits.at k = 0; omega))
    rw [if_f cp3] at hst
    refine G_seq ?_
    refine G_region ?_
    refine GL_step rfl (PS_move rfl) ?_
    refine GL_step rfl (PS_move rfl) ?_
    refine GL_step rfl (PS_indexAddr ia80 rfl rfl (by first | omega | exact hb.1 | exact hb.2 | exact hr.1 | exact hr.2 | (dsimp only; omega) | (simp only [List.length_append, List.length_cons, List.length_nil]; omega) | ((try dsimp only at *); (try simp only [List.length_append, List.length_cons, List.length_nil]); omega)) (by first | omega | exact hb.1 | exact hb.2 | exact hr.1 | exact hr.2 | (dsimp only; omega) | (simp only [List.length_append, List.length_cons, List.length_nil]; omega) | ((try dsimp only at *); (try simp only [List.length_append, List.length_cons, List.length_nil]); omega))) ?_
    refine GL_step rfl (PS_ldGVM gl0 gm0 rfl tys9 (Land.verbs_at hI11 (by omega))) ?_
    refine GL_step rfl (PS_add_str rfl rfl (by first | omega | exact hb.1 | exact hb.2 | exact hr.1 | exact hr.2 | (dsimp only; omega) | (simp only [List.length_append, List.length_cons, List.length_nil]; omega) | ((try dsimp only at *); (try simp only [List.length_append, List.length_cons, List.length_nil]); omega))) ?_
    refine GL_step rfl (PS_add_str rfl rfl (by first | omega | exact hb.1 | exact hb.2 | exact hr.1 | exact hr.2 | (dsimp only; omega) | (simp only [List.length_append, List.length_cons, List.length_nil]; omega) | ((try dsimp only at *); (try simp only [List.length_append, List.length_cons, List.length_nil]); omega))) ?_
    refine GL_step rfl (PS_assign rfl) ?_
    refine GL_nil ?_
    refine GQ_sub (.cons (k := 0) rfl (.cons (k := 2) rfl (.cons (k := 3) rfl (.cons (k := 4) rfl (.cons (k := 25) rfl (.nil _)))))) ?_
    refine GQ_then ?_
    refine G_seq ?_
    refine G_region ?_
    refine GL_step rfl (PS_move rfl) ?_
    refine GL_step rfl (PS_fieldAddr fa25_3 rfl) ?_
    refine GL_step rfl (PS_indexAddr ia23 rfl rfl (by first | omega | exact hb.1 | exact hb.2 | exact hr.1 | exact hr.2 | (dsimp only; omega) | (simp only [List.length_append, List.length_cons, List.length_nil]; omega) | ((try dsimp only at *); (try simp only [List.length_append, List.length_cons, List.length_nil]); omega)) (by first | omega | exact hb.1 | exact hb.2 | exact hr.1 | exact hr.2 | (dsimp only; omega) | (simp only [List.length_append, List.length_cons, List.length_nil]; omega) | ((try dsimp only at *); (try simp only [List.length_append, List.length_cons, List.length_nil]); omega))) ?_
    refine GL_step rfl (PS_load rfl tys4 (.tail _ (.head _)) (Room.l3.comp (Lens.arr (n := 6) flB (by first | omega | exact hb.1 | exact hb.2 | exact hr.1 | exact hr.2 | (dsimp only; omega) | (simp only [List.length_append, List.length_cons, List.length_nil]; omega) | ((try dsimp only at *); (try simp only [List.length_append, List.length_cons, List.length_nil]); omega)) (by first | omega | exact hb.1 | exact hb.2 | exact hr.1 | exact hr.2 | (dsimp only; omega) | (simp only [List.length_append, List.length_cons, List.length_nil]; omega) | ((try dsimp only at *); (try simp only [List.length_append, List.length_cons, List.length_nil]); omega)))) rfl rfl) ?_
    refine GL_nil ?_
    refine GQ_sub (.cons (k := 0) rfl (.cons (k := 2) rfl (.cons (k := 3) rfl (.cons (k := 25) rfl (.cons (k := 42) rfl (.nil _)))))) ?_
    refine GQ_then ?_
    refine G_cond rfl (fun c12 => ?_) (fun c12 => ?_)
    ·
     have c12p := kz c12
     try dsimp only at c12p
     have cp4 : (T.w.rooms.at T.me.room).shut.at k = true := c12
     rw [if_t cp4] at hst
     refine G_region ?_
     refine GL_step rfl (PS_move rfl) ?_
     refine GL_step rfl (PS_add_str rfl rfl (by first | omega | exact hb.1 | exact hb.2 | exact hr.1 | exact hr.2 | (dsimp only; omega) | (simp only [List.length_append, List.length_cons, List.length_nil]; omega) | ((try dsimp only at *); (try simp only [List.length_append, List.length_cons, List.length_nil]); omega))) ?_
     refine GL_step rfl (PS_assign rfl) ?_
     refine GL_nil ?_
     refine GQ_sub (.cons (k := 0) rfl (.cons (k := 2) rfl (.cons (k := 3) rfl (.cons (k := 25) rfl (.nil _))))) ?_
     refine GQ_block ?_
     refine GQ_then ?_
     refine G_region ?_
     refine GL_step rfl (PS_add rfl rfl (IntWalk.i64_in _ (by first | omega | exact hb.1 | exact hb.2 | exact hr.1 | exact hr.2 | (dsimp only; omega) | (simp only [List.length_append, List.length_cons, List.length_nil]; omega) | ((try dsimp only at *); (try simp only [List.length_append, List.length_cons, List.length_nil]); omega)))) ?_
     refine GL_step rfl (PS_move rfl) ?_
     refine GL_nil ?_
     refine GQ_sub (.cons (k := 0) rfl (.cons (k := 2) rfl (.cons (k := 3) rfl (.cons (k := 25) rfl (.nil _))))) ?_
     refine GQ_next2_ (k + 1) _ ?_ ?_ (.cons (k := 3) rfl (.cons (k := 25) rfl (.cons (k := 0) rfl (.cons (k := 2) rfl (.nil _))))) (.refl _)
     · exact ⟨by omega, by omega, by rw [hst, ← hI13]⟩
     · omega
    have c12p := kz c12
    try dsimp only at c12p
    have cp4 : (T.w.rooms.at T.me.room).shut.at k = false := c12
    rw [if_f cp4] at hst
    refine G_skip ?_
    refine GQ_sub (.cons (k := 0) rfl (.cons (k := 2) rfl (.cons (k := 3) rfl (.cons (k := 25) rfl (.nil _))))) ?_
    refine GQ_block ?_
    refine GQ_then ?_
    refine G_region ?_
    refine GL_step rfl (PS_add rfl rfl (IntWalk.i64_in _ (by first | omega | exact hb.1 | exact hb.2 | exact hr.1 | exact hr.2 | (dsimp only; omega) | (simp only [List.length_append, List.length_cons, List.length_nil]; omega) | ((try dsimp only at *); (try simp only [List.length_append, List.length_cons, List.length_nil]); omega)))) ?_
    refine GL_step rfl (PS_move rfl) ?_
    refine GL_nil ?_
    refine GQ_sub (.cons (k := 0) rfl (.cons (k := 2) rfl (.cons (k := 3) rfl (.cons (k := 25) rfl (.nil _))))) ?_
    refine GQ_next2_ (k + 1) _ ?_ ?_ (.cons (k := 3) rfl (.cons (k := 25) rfl (.cons (k := 0) rfl (.cons (k := 2) rfl (.nil _))))) (.refl _)
    · exact ⟨by omega, by omega, by rw [hst, ← hI13]⟩
    · omega
   have c11p := kz c11
   try dsimp only at c11p
   have cp3 : decide ((T.w.rooms.at T.me.room).exits.at k = 0) = true := decide_eq_true (by have := c11p; first | exact this | (show  (T.w.rooms.at (T.w.beings.at T.b).room).exits.at k = 0; omega))
   rw [if_t cp3] at hst
   refine G_skip ?_
   refine GQ_sub (.cons (k := 0) rfl (.cons (k := 2) rfl (.cons (k := 3) rfl (.cons (k := 25) rfl (.nil _))))) ?_
   refine GQ_block ?_
   refine GQ_then ?_
   refine G_region ?_
   refine GL_step rfl (PS_add rfl rfl (IntWalk.i64_in _ (by first | omega | exact hb.1 | exact hb.2 | exact hr.1 | exact hr.2 | (dsimp only; omega) | (simp only [List.length_append, List.length_cons, List.length_nil]; omega) | ((try dsimp only at *); (try simp only [List.length_append, List.length_cons, List.length_nil]); omega)))) ?_
   refine GL_step rfl (PS_move rfl) ?_
   refine GL_nil ?_
   refine GQ_sub (.cons (k := 0) rfl (.cons (k := 2) rfl (.cons (k := 3) rfl (.cons (k := 25) rfl (.nil _))))) ?_
   refine GQ_next2_ (k + 1) _ ?_ ?_ (.cons (k := 3) rfl (.cons (k := 25) rfl (.cons (k := 0) rfl (.cons (k := 2) rfl (.nil _))))) (.refl _)
   · exact ⟨by omega, by omega, by rw [hst, ← hI13]⟩
   · omega
  have c10p := kz c10
  try dsimp only at c10p
  obtain rfl : k = 6 := by omega
  subst hI13
  have hwl := Turn.waysK_len (T.w.rooms.at T.me.room) 6
  refine G_exit ?_
  refine GQ_then_exit ?_
  refine GQ_then_exit ?_
  refine GQ_block_exit ?_
  refine GQ_sub (.cons (k := 0) rfl (.cons (k := 2) rfl (.cons (k := 3) rfl (.nil _)))) ?_
  refine GQ_then ?_
  refine G_seq ?_
  refine G_region ?_
  refine GL_step rfl (PS_move rfl) ?_
  refine GL_step rfl (PS_fieldAddr fa25_0 rfl) ?_
  refine GL_step rfl (PS_load rfl tys9 (.tail _ (.head _)) Room.l0 rfl rfl) ?_
  refine GL_step rfl (PS_add_str rfl rfl (by first | omega | exact hb.1 | exact hb.2 | exact hr.1 | exact hr.2 | (dsimp only; omega) | (simp only [List.length_append, List.length_cons, List.length_nil]; omega) | ((try dsimp only at *); (try simp only [List.length_append, List.length_cons, List.length_nil]); omega))) ?_
  refine GL_step rfl (PS_add_str rfl rfl (by first | omega | exact hb.1 | exact hb.2 | exact hr.1 | exact hr.2 | (dsimp only; omega) | (simp only [List.length_append, List.length_cons, List.length_nil]; omega) | ((try dsimp only at *); (try simp only [List.length_append, List.length_cons, List.length_nil]); omega))) ?_
  refine GL_callL rfl cf39 (.cons rfl (.cons rfl .nil)) (.cons .head (.cons (.tail .head) .nil)) (ref_turn_tell_spec _ T _ _ hg hb (by omega)) (fun v27 B hv => ?_)
  obtain ⟨y28, rfl, y29, rfl⟩ := hv
  refine GL_nil ?_
  refine GQ_sub (.cons (k := 0) rfl (.cons (k := 3) rfl (.nil _))) ?_
  refine GQ_then ?_
  refine G_seq ?_
  refine G_region ?_
  refine GL_step rfl (PS_move rfl) ?_
  refine GL_step rfl (PS_move rfl) ?_
  refine GL_callL rfl cf39 (.cons rfl (.cons rfl .nil)) (.cons .head (.cons .head .nil)) (ref_turn_tell_spec _ (T.tell ([84, 104, 101, 32] ++ (T.w.rooms.at T.me.room).name ++ [46])) _ (Turn.waysK (T.w.rooms.at T.me.room) 6) (by assumption) hb (by simp only [Turn.tell_len]; omega)) (fun v30 B hv => ?_)
  obtain ⟨y31, rfl, y32, rfl⟩ := hv
  refine GL_nil ?_
  refine GQ_sub (.cons (k := 0) rfl (.nil _)) ?_
  refine GQ_then ?_
  refine G_seq ?_
  refine G_seq ?_
  refine G_region ?_
  refine GL_step rfl (PS_move rfl) ?_
  refine GL_callL rfl cf52 (.cons rfl .nil) (.cons .head .nil) (ref_turn_inSight_spec _ T.lookA _ (hF.of_w rfl rfl)) (fun v33 B hv => ?_)
  obtain ⟨y34, rfl, y35, rfl⟩ := hv
  refine GL_step rfl (PS_assign rfl) ?_
  refine GL_nil ?_
  refine GQ_sub (.cons (k := 0) rfl (.cons (k := 5) rfl (.nil _))) ?_
  refine GQ_then ?_
  refine G_seq ?_
  refine G_region ?_
  refine GL_step rfl (PS_move rfl) ?_
  refine GL_step rfl (PS_len_slice rfl Tryz.underlying66 rfl) ?_
  refine GL_step rfl (PS_gtr rfl rfl) ?_
  refine GL_nil ?_
  refine GQ_sub (.cons (k := 0) rfl (.cons (k := 5) rfl (.cons (k := 59) rfl (.nil _)))) ?_
  refine GQ_then ?_
  refine G_cond rfl (fun c13 => ?_) (fun c13 => ?_)
  ·
   have c13p := kz c13
   try dsimp only at c13p
   have hnm : (Turn.namedR T.lookA.w T.seen).length ≤ 1266637395161115 := Turn.namedR_len hw T.seen_len
   refine G_region ?_
   refine GL_step rfl (PS_move rfl) ?_
   refine GL_step rfl (PS_move rfl) ?_
   refine GL_step rfl (PS_move rfl) ?_
   refine GL_callL rfl cf40 (.cons rfl (.cons rfl .nil)) (.cons .head (.cons .head .nil)) (ref_turn_named_spec _ T.lookA _ _ T.seen (hF.of_w rfl rfl) (by assumption) T.seen_len (fun i hi => Turn.seen_rng hi)) (fun v37 B hv => ?_)
   obtain ⟨rfl, rfl⟩ := hv
   refine GL_step rfl (PS_add_str rfl rfl (by first | omega | exact hb.1 | exact hb.2 | exact hr.1 | exact hr.2 | (dsimp only; omega) | (simp only [List.length_append, List.length_cons, List.length_nil]; omega) | ((try dsimp only at *); (try simp only [List.length_append, List.length_cons, List.length_nil]); omega))) ?_
   refine GL_callL rfl cf39 (.cons rfl (.cons rfl .nil)) (.cons .head (.cons (.tail .head) .nil)) (ref_turn_tell_spec _ T.lookA _ ([72, 101, 114, 101, 32, 105, 115] ++ Turn.namedR T.w T.seen) (by assumption) hb (by rw [(Turn.lookA_w T).2.2]; omega)) (fun v38 B hv => ?_)
   obtain ⟨y39, rfl, y40, rfl⟩ := hv
   refine GL_nil ?_
   refine GQ_sub (.cons (k := 0) rfl (.nil _)) ?_
   refine GQ_then ?_
   refine G_seq ?_
   refine G_region ?_
   refine GL_step rfl (PS_move rfl) ?_
   refine GL_nil ?_
   refine GQ_then ?_
   refine G_block ?_
   refine G_subF (.cons (k := 66) rfl (.cons (k := 0) rfl (.nil _))) ?_
   refine G_pull (.tail .head) ?_
   refine G_pull (.tail .head) ?_
   refine G_loop3_ (fun (k : Int) (X : Turn) (h : Hd) => 0 ≤ k ∧ k ≤ 6 ∧ X = T.lookB.hereK k.toNat ∧ h.len = X.out.length) (fun (k : Int) (X : Turn) (h : Hd) => (6 - k).toNat) (fun (k : Int) (X : Turn) (h : Hd) => [(66, .int .i64 k)]) (fun (k : Int) (X : Turn) (h : Hd) => [Res.box b 57 (TurnV.enc ⟨X.w, X.b, h⟩), Res.own h 60 16 (X.out.flatMap Ing.Event.enc)]) (0) (_) (_) ?_ rfl rfl (fun k X h hI2 => ?_)
   · have hyl : y34.len = T.seen.length := y35
     have hlb : T.lookB = T.lookA.list [72, 101, 114, 101, 32, 105, 115] (T.w.has 0 T.me.room) := if_pos (show decide (0 < ((T.w.has 0 T.me.room).length : Int)) = true by rw [← hsee, ← hyl]; exact c13)
     rw [← hsee, ← Turn.named_list] at hlb
     exact ⟨by omega, by omega, hlb.symm, by assumption⟩
   obtain ⟨hI21, hI22, hI23, hI24⟩ := hI2
   refine G_seq ?_
   refine G_region ?_
   refine GL_step rfl (PS_lss rfl rfl) ?_
   refine GL_nil ?_
   refine GQ_then ?_
   refine G_seq ?_
   refine G_cond rfl (fun c14 => ?_) (fun c14 => ?_)
   ·
    have c14p := kz c14
    try dsimp only at c14p
    have hnb := hw.be k
    have hXl := Turn.hereK_w T.lookB k.toNat
    have hBl := Turn.lookB_w T
    rw [← hI23] at hXl
    have hXw : X.w = T.w := hXl.1.trans hBl.1
    have hXb : X.b = T.b := hXl.2.1.trans hBl.2.1
    rw [← hXw] at hnb
    refine G_skip ?_
    refine GQ_sub (.cons (k := 0) rfl (.cons (k := 66) rfl (.nil _))) ?_
    refine GQ_then ?_
    refine G_seq ?_
    refine G_block ?_
    refine G_seq ?_
    refine G_region ?_
    refine GL_step rfl (PS_move rfl) ?_
    refine GL_step rfl (PS_assign rfl) ?_
    refine GL_nil ?_
    refine GQ_sub (.cons (k := 0) rfl (.cons (k := 6) rfl (.cons (k := 66) rfl (.nil _)))) ?_
    refine GQ_then ?_
    refine G_seq ?_
    refine G_planN (N := 18) [0, 0, 2, 6, 14, 31, 63, 127, 255, 511, 1023, 127, 2175, 6271, 14463, 127, 65535, 131071] mix (by kernel_rfl) rfl ?_
    refine Plan_float 0 rfl rfl (by kernel_rfl) (OK_s (EX_s (PS_move rfl))) ?_
    refine Plan_float 1 rfl rfl (by kernel_rfl) (OK_s (EX_s (PS_move rfl))) ?_
    refine Plan_float 2 rfl rfl (by kernel_rfl) (OK_s (EX_s (PS_nilCheck rfl))) ?_
    refine Plan_float 3 rfl rfl (by kernel_rfl) (OK_s (EX_s (PS_fieldAddr fa57_1 rfl))) ?_
    refine Plan_float 4 rfl rfl (by kernel_rfl) (OK_s (EX_s (PS_load rfl tys3 (.head _) TurnV.l1 rfl rfl))) ?_
    refine Plan_float 5 rfl rfl (by kernel_rfl) (OK_s (EX_s (PS_neq rfl rfl))) ?_
    refine Plan_float 6 rfl rfl (by kernel_rfl) (OK_s (EX_s (PS_move rfl))) ?_
    refine Plan_float 7 rfl rfl (by kernel_rfl) (OK_gt (t := 75) rfl rfl (fun q => EX_s (PS_move rfl))) ?_
    refine Plan_float 8 rfl rfl (by kernel_rfl) (OK_gt (t := 75) rfl rfl (fun q => EX_s (PS_nilCheck (cvE rfl q)))) ?_
    refine Plan_float 9 rfl rfl (by kernel_rfl) (OK_gt (t := 75) rfl rfl (fun q => EX_s (PS_fieldAddr fa57_0 (cvE rfl q)))) ?_
    refine Plan_float 10 rfl rfl (by kernel_rfl) (OK_gt (t := 75) rfl rfl (fun q => EX_s (PS_loadA (cvE rfl q) tya34 (.head _) TurnV.l0 rfl))) ?_
    refine Plan_float 11 rfl rfl (by kernel_rfl) (OK_gt (t := 75) rfl rfl (fun q => EX_s (PS_move rfl))) ?_
    refine Plan_float 12 rfl rfl (by kernel_rfl) (OK_gt (t := 75) rfl rfl (fun q => EX_s (PS_nilCheck (cvE rfl q)))) ?_
    refine Plan_float 13 rfl rfl (by kernel_rfl) (OK_gt (t := 75) rfl rfl (fun q => EX_s (PS_fieldAddr fa57_1 (cvE rfl q)))) ?_
    refine Plan_float 14 rfl rfl (by kernel_rfl) (OK_gt (t := 75) rfl rfl (fun q => EX_s (PS_load (cvE rfl q) tys3 (.head _) TurnV.l1 rfl rfl))) ?_
    refine Plan_float 15 rfl rfl (by kernel_rfl) (OK_gt (t := 75) rfl rfl (fun q => EX_s (PS_move rfl))) ?_
    refine Plan_float 16 rfl rfl (by kernel_rfl) (OK_gt (t := 75) rfl rfl (fun q => EX_c (PC_of cf53 (.cons (cvE rfl q) (.cons (cvE rfl q) (.cons (cvE rfl q) .nil))) (fun w hS => ref_IsSeen_spec _ _ _ w)))) ?_
    refine Plan_float 17 rfl rfl (by kernel_rfl) (OK_s (EX_s (PS_and rfl rfl (fun h => h)))) ?_
    refine Plan_end (by kernel_rfl) ?_
    refine GQ_sub (.cons (k := 0) rfl (.cons (k := 6) rfl (.cons (k := 66) rfl (.cons (k := 86) rfl (.nil _))))) ?_
    refine GQ_then ?_
    refine G_cond rfl (fun c15 => ?_) (fun c15 => ?_)
    ·
     have c15p := kz c15
     try dsimp only at c15p
     have cp7 : (!decide (k = T.lookB.b) && T.lookB.w.sees T.lookB.b k) = true := by rw [hBl.1, hBl.2.1, ← hXw, ← hXb]; exact c15
     refine G_region ?_
     refine GL_step rfl (PS_move rfl) ?_
     refine GL_step rfl (PS_move rfl) ?_
     refine GL_step rfl (PS_move rfl) ?_
     refine GL_step rfl (PS_nilCheck rfl) ?_
     refine GL_step rfl (PS_fieldAddr fa57_0 rfl) ?_
     refine GL_step rfl (PS_fieldAddr fa34_2 rfl) ?_
     refine GL_step rfl (PS_indexAddr ia32 rfl rfl (by first | omega | exact hb.1 | exact hb.2 | exact hr.1 | exact hr.2 | (dsimp only; omega) | (simp only [List.length_append, List.length_cons, List.length_nil]; omega) | ((try dsimp only at *); (try simp only [List.length_append, List.length_cons, List.length_nil]); omega)) (by first | omega | exact hb.1 | exact hb.2 | exact hr.1 | exact hr.2 | (dsimp only; omega) | (simp only [List.length_append, List.length_cons, List.length_nil]; omega) | ((try dsimp only at *); (try simp only [List.length_append, List.length_cons, List.length_nil]); omega))) ?_
     refine GL_step rfl (PS_fieldAddr fa31_0 rfl) ?_
     refine GL_step rfl (PS_load rfl tys9 (.head _) (((TurnV.l0.comp Land.l2).comp (Lens.arr (n := 6) Being.fl (by first | omega | exact hb.1 | exact hb.2 | exact hr.1 | exact hr.2 | (dsimp only; omega) | (simp only [List.length_append, List.length_cons, List.length_nil]; omega) | ((try dsimp only at *); (try simp only [List.length_append, List.length_cons, List.length_nil]); omega)) (by first | omega | exact hb.1 | exact hb.2 | exact hr.1 | exact hr.2 | (dsimp only; omega) | (simp only [List.length_append, List.length_cons, List.length_nil]; omega) | ((try dsimp only at *); (try simp only [List.length_append, List.length_cons, List.length_nil]); omega)))).comp Being.l0) rfl rfl) ?_
     refine GL_step rfl (PS_add_str rfl rfl (by first | omega | exact hb.1 | exact hb.2 | exact hr.1 | exact hr.2 | (dsimp only; omega) | (simp only [List.length_append, List.length_cons, List.length_nil]; omega) | ((try dsimp only at *); (try simp only [List.length_append, List.length_cons, List.length_nil]); omega))) ?_
     refine GL_callL rfl cf39 (.cons rfl (.cons rfl .nil)) (.cons .head (.cons .head .nil)) (ref_turn_tell_spec _ X _ _ (by assumption) (by rw [hXb]; exact hb) (by have := hXl.2.2; have := hBl.2.2; omega)) (fun v41 B hv => ?_)
     obtain ⟨y42, rfl, y43, rfl⟩ := hv
     refine GL_nil ?_
     refine GQ_sub (.cons (k := 0) rfl (.cons (k := 66) rfl (.nil _))) ?_
     refine GQ_block ?_
     refine GQ_then ?_
     refine G_region ?_
     refine GL_step rfl (PS_add rfl rfl (IntWalk.i64_in _ (by first | omega | exact hb.1 | exact hb.2 | exact hr.1 | exact hr.2 | (dsimp only; omega) | (simp only [List.length_append, List.length_cons, List.length_nil]; omega) | ((try dsimp only at *); (try simp only [List.length_append, List.length_cons, List.length_nil]); omega)))) ?_
     refine GL_step rfl (PS_move rfl) ?_
     refine GL_nil ?_
     refine GQ_sub (.cons (k := 0) rfl (.cons (k := 66) rfl (.nil _))) ?_
     refine GQ_next3_ (k + 1) _ _ ?_ ?_ (.cons (k := 66) rfl (.cons (k := 0) rfl (.nil _))) (.refl _)
     · exact ⟨by omega, by omega, by rw [Turn.hereK_step hI21, if_t cp7, ← hI23, hBl.1, ← hXw], by assumption⟩
     · omega
    have c15p := kz c15
    try dsimp only at c15p
    have cp7 : (!decide (k = T.lookB.b) && T.lookB.w.sees T.lookB.b k) = false := by rw [hBl.1, hBl.2.1, ← hXw, ← hXb]; exact c15
    refine G_skip ?_
    refine GQ_sub (.cons (k := 0) rfl (.cons (k := 66) rfl (.nil _))) ?_
    refine GQ_block ?_
    refine GQ_then ?_
    refine G_region ?_
    refine GL_step rfl (PS_add rfl rfl (IntWalk.i64_in _ (by first | omega | exact hb.1 | exact hb.2 | exact hr.1 | exact hr.2 | (dsimp only; omega) | (simp only [List.length_append, List.length_cons, List.length_nil]; omega) | ((try dsimp only at *); (try simp only [List.length_append, List.length_cons, List.length_nil]); omega)))) ?_
    refine GL_step rfl (PS_move rfl) ?_
    refine GL_nil ?_
    refine GQ_sub (.cons (k := 0) rfl (.cons (k := 66) rfl (.nil _))) ?_
    refine GQ_next3_ (k + 1) _ _ ?_ ?_ (.cons (k := 66) rfl (.cons (k := 0) rfl (.nil _))) (.refl _)
    · exact ⟨by omega, by omega, by rw [Turn.hereK_step hI21, if_f cp7, ← hI23], by assumption⟩
    · omega
   have c14p := kz c14
   try dsimp only at c14p
   obtain rfl : k = 6 := by omega
   refine G_exit ?_
   refine GQ_then_exit ?_
   refine GQ_then_exit ?_
   refine GQ_block_exit ?_
   refine GQ_end rfl .nil ?_
   intro w1 hS
   have hS := (hS.perm (Pulls.perm (.cons .head (.cons .head .nil)))).headL
   have hq : T.look = X := (show T.look = _ from if_f c1).trans hI23.symm
   refine ⟨_, ⟨?gqc14, rfl, ?hlc14, ?hBc14⟩, hS⟩
   case hBc14 => rw [hq]
   case hlc14 => rw [hq]; assumption
  have c13p := kz c13
  try dsimp only at c13p
  refine G_skip ?_
  refine GQ_sub (.cons (k := 0) rfl (.nil _)) ?_
  refine GQ_then ?_
  refine G_seq ?_
  refine G_region ?_
  refine GL_step rfl (PS_move rfl) ?_
  refine GL_nil ?_
  refine GQ_then ?_
  refine G_block ?_
  refine G_subF (.cons (k := 66) rfl (.cons (k := 0) rfl (.nil _))) ?_
  refine G_pull (.tail (.tail .head)) ?_
  refine G_pull (.tail .head) ?_
  refine G_loop3_ (fun (k : Int) (X : Turn) (h : Hd) => 0 ≤ k ∧ k ≤ 6 ∧ X = T.lookB.hereK k.toNat ∧ h.len = X.out.length) (fun (k : Int) (X : Turn) (h : Hd) => (6 - k).toNat) (fun (k : Int) (X : Turn) (h : Hd) => [(66, .int .i64 k)]) (fun (k : Int) (X : Turn) (h : Hd) => [Res.box b 57 (TurnV.enc ⟨X.w, X.b, h⟩), Res.own h 60 16 (X.out.flatMap Ing.Event.enc)]) (0) (_) (_) ?_ rfl rfl (fun k X h hI2 => ?_)
  · have hyl : y34.len = T.seen.length := y35
    have hlb : T.lookB = T.lookA := if_neg (show ¬ decide (0 < ((T.w.has 0 T.me.room).length : Int)) = true by rw [← hsee, ← hyl]; rw [c13]; decide)
    exact ⟨by omega, by omega, hlb.symm, by assumption⟩
  obtain ⟨hI21, hI22, hI23, hI24⟩ := hI2
  refine G_seq ?_
  refine G_region ?_
  refine GL_step rfl (PS_lss rfl rfl) ?_
  refine GL_nil ?_
  refine GQ_then ?_
  refine G_seq ?_
  refine G_cond rfl (fun c16 => ?_) (fun c16 => ?_)
  ·
   have c16p := kz c16
   try dsimp only at c16p
   have hnb := hw.be k
   have hXl := Turn.hereK_w T.lookB k.toNat
   have hBl := Turn.lookB_w T
   rw [← hI23] at hXl
   have hXw : X.w = T.w := hXl.1.trans hBl.1
   have hXb : X.b = T.b := hXl.2.1.trans hBl.2.1
   rw [← hXw] at hnb
   refine G_skip ?_
   refine GQ_sub (.cons (k := 0) rfl (.cons (k := 66) rfl (.nil _))) ?_
   refine GQ_then ?_
   refine G_seq ?_
   refine G_block ?_
   refine G_seq ?_
   refine G_region ?_
   refine GL_step rfl (PS_move rfl) ?_
   refine GL_step rfl (PS_assign rfl) ?_
   refine GL_nil ?_
   refine GQ_sub (.cons (k := 0) rfl (.cons (k := 6) rfl (.cons (k := 66) rfl (.nil _)))) ?_
   refine GQ_then ?_
   refine G_seq ?_
   refine G_planN (N := 18) [0, 0, 2, 6, 14, 31, 63, 127, 255, 511, 1023, 127, 2175, 6271, 14463, 127, 65535, 131071] mix (by kernel_rfl) rfl ?_
   refine Plan_float 0 rfl rfl (by kernel_rfl) (OK_s (EX_s (PS_move rfl))) ?_
   refine Plan_float 1 rfl rfl (by kernel_rfl) (OK_s (EX_s (PS_move rfl))) ?_
   refine Plan_float 2 rfl rfl (by kernel_rfl) (OK_s (EX_s (PS_nilCheck rfl))) ?_
   refine Plan_float 3 rfl rfl (by kernel_rfl) (OK_s (EX_s (PS_fieldAddr fa57_1 rfl))) ?_
   refine Plan_float 4 rfl rfl (by kernel_rfl) (OK_s (EX_s (PS_load rfl tys3 (.head _) TurnV.l1 rfl rfl))) ?_
   refine Plan_float 5 rfl rfl (by kernel_rfl) (OK_s (EX_s (PS_neq rfl rfl))) ?_
   refine Plan_float 6 rfl rfl (by kernel_rfl) (OK_s (EX_s (PS_move rfl))) ?_
   refine Plan_float 7 rfl rfl (by kernel_rfl) (OK_gt (t := 75) rfl rfl (fun q => EX_s (PS_move rfl))) ?_
   refine Plan_float 8 rfl rfl (by kernel_rfl) (OK_gt (t := 75) rfl rfl (fun q => EX_s (PS_nilCheck (cvE rfl q)))) ?_
   refine Plan_float 9 rfl rfl (by kernel_rfl) (OK_gt (t := 75) rfl rfl (fun q => EX_s (PS_fieldAddr fa57_0 (cvE rfl q)))) ?_
   refine Plan_float 10 rfl rfl (by kernel_rfl) (OK_gt (t := 75) rfl rfl (fun q => EX_s (PS_loadA (cvE rfl q) tya34 (.head _) TurnV.l0 rfl))) ?_
   refine Plan_float 11 rfl rfl (by kernel_rfl) (OK_gt (t := 75) rfl rfl (fun q => EX_s (PS_move rfl))) ?_
   refine Plan_float 12 rfl rfl (by kernel_rfl) (OK_gt (t := 75) rfl rfl (fun q => EX_s (PS_nilCheck (cvE rfl q)))) ?_
   refine Plan_float 13 rfl rfl (by kernel_rfl) (OK_gt (t := 75) rfl rfl (fun q => EX_s (PS_fieldAddr fa57_1 (cvE rfl q)))) ?_
   refine Plan_float 14 rfl rfl (by kernel_rfl) (OK_gt (t := 75) rfl rfl (fun q => EX_s (PS_load (cvE rfl q) tys3 (.head _) TurnV.l1 rfl rfl))) ?_
   refine Plan_float 15 rfl rfl (by kernel_rfl) (OK_gt (t := 75) rfl rfl (fun q => EX_s (PS_move rfl))) ?_
   refine Plan_float 16 rfl rfl (by kernel_rfl) (OK_gt (t := 75) rfl rfl (fun q => EX_c (PC_of cf53 (.cons (cvE rfl q) (.cons (cvE rfl q) (.cons (cvE rfl q) .nil))) (fun w hS => ref_IsSeen_spec _ _ _ w)))) ?_
   refine Plan_float 17 rfl rfl (by kernel_rfl) (OK_s (EX_s (PS_and rfl rfl (fun h => h)))) ?_
   refine Plan_end (by kernel_rfl) ?_
   refine GQ_sub (.cons (k := 0) rfl (.cons (k := 6) rfl (.cons (k := 66) rfl (.cons (k := 86) rfl (.nil _))))) ?_
   refine GQ_then ?_
   refine G_cond rfl (fun c17 => ?_) (fun c17 => ?_)
   ·
    have c17p := kz c17
    try dsimp only at c17p
    have cp7 : (!decide (k = T.lookB.b) && T.lookB.w.sees T.lookB.b k) = true := by rw [hBl.1, hBl.2.1, ← hXw, ← hXb]; exact c17
    refine G_region ?_
    refine GL_step rfl (PS_move rfl) ?_
    refine GL_step rfl (PS_move rfl) ?_
    refine GL_step rfl (PS_move rfl) ?_
    refine GL_step rfl (PS_nilCheck rfl) ?_
    refine GL_step rfl (PS_fieldAddr fa57_0 rfl) ?_
    refine GL_step rfl (PS_fieldAddr fa34_2 rfl) ?_
    refine GL_step rfl (PS_indexAddr ia32 rfl rfl (by first | omega | exact hb.1 | exact hb.2 | exact hr.1 | exact hr.2 | (dsimp only; omega) | (simp only [List.length_append, List.length_cons, List.length_nil]; omega) | ((try dsimp only at *); (try simp only [List.length_append, List.length_cons, List.length_nil]); omega)) (by first | omega | exact hb.1 | exact hb.2 | exact hr.1 | exact hr.2 | (dsimp only; omega) | (simp only [List.length_append, List.length_cons, List.length_nil]; omega) | ((try dsimp only at *); (try simp only [List.length_append, List.length_cons, List.length_nil]); omega))) ?_
    refine GL_step rfl (PS_fieldAddr fa31_0 rfl) ?_
    refine GL_step rfl (PS_load rfl tys9 (.head _) (((TurnV.l0.comp Land.l2).comp (Lens.arr (n := 6) Being.fl (by first | omega | exact hb.1 | exact hb.2 | exact hr.1 | exact hr.2 | (dsimp only; omega) | (simp only [List.length_append, List.length_cons, List.length_nil]; omega) | ((try dsimp only at *); (try simp only [List.length_append, List.length_cons, List.length_nil]); omega)) (by first | omega | exact hb.1 | exact hb.2 | exact hr.1 | exact hr.2 | (dsimp only; omega) | (simp only [List.length_append, List.length_cons, List.length_nil]; omega) | ((try dsimp only at *); (try simp only [List.length_append, List.length_cons, List.length_nil]); omega)))).comp Being.l0) rfl rfl) ?_
    refine GL_step rfl (PS_add_str rfl rfl (by first | omega | exact hb.1 | exact hb.2 | exact hr.1 | exact hr.2 | (dsimp only; omega) | (simp only [List.length_append, List.length_cons, List.length_nil]; omega) | ((try dsimp only at *); (try simp only [List.length_append, List.length_cons, List.length_nil]); omega))) ?_
    refine GL_callL rfl cf39 (.cons rfl (.cons rfl .nil)) (.cons .head (.cons .head .nil)) (ref_turn_tell_spec _ X _ _ (by assumption) (by rw [hXb]; exact hb) (by have := hXl.2.2; have := hBl.2.2; omega)) (fun v44 B hv => ?_)
    obtain ⟨y45, rfl, y46, rfl⟩ := hv
    refine GL_nil ?_
    refine GQ_sub (.cons (k := 0) rfl (.cons (k := 66) rfl (.nil _))) ?_
    refine GQ_block ?_
    refine GQ_then ?_
    refine G_region ?_
    refine GL_step rfl (PS_add rfl rfl (IntWalk.i64_in _ (by first | omega | exact hb.1 | exact hb.2 | exact hr.1 | exact hr.2 | (dsimp only; omega) | (simp only [List.length_append, List.length_cons, List.length_nil]; omega) | ((try dsimp only at *); (try simp only [List.length_append, List.length_cons, List.length_nil]); omega)))) ?_
    refine GL_step rfl (PS_move rfl) ?_
    refine GL_nil ?_
    refine GQ_sub (.cons (k := 0) rfl (.cons (k := 66) rfl (.nil _))) ?_
    refine GQ_next3_ (k + 1) _ _ ?_ ?_ (.cons (k := 66) rfl (.cons (k := 0) rfl (.nil _))) (.refl _)
    · exact ⟨by omega, by omega, by rw [Turn.hereK_step hI21, if_t cp7, ← hI23, hBl.1, ← hXw], by assumption⟩
    · omega
   have c17p := kz c17
   try dsimp only at c17p
   have cp7 : (!decide (k = T.lookB.b) && T.lookB.w.sees T.lookB.b k) = false := by rw [hBl.1, hBl.2.1, ← hXw, ← hXb]; exact c17
   refine G_skip ?_
   refine GQ_sub (.cons (k := 0) rfl (.cons (k := 66) rfl (.nil _))) ?_
   refine GQ_block ?_
   refine GQ_then ?_
   refine G_region ?_
   refine GL_step rfl (PS_add rfl rfl (IntWalk.i64_in _ (by first | omega | exact hb.1 | exact hb.2 | exact hr.1 | exact hr.2 | (dsimp only; omega) | (simp only [List.length_append, List.length_cons, List.length_nil]; omega) | ((try dsimp only at *); (try simp only [List.length_append, List.length_cons, List.length_nil]); omega)))) ?_
   refine GL_step rfl (PS_move rfl) ?_
   refine GL_nil ?_
   refine GQ_sub (.cons (k := 0) rfl (.cons (k := 66) rfl (.nil _))) ?_
   refine GQ_next3_ (k + 1) _ _ ?_ ?_ (.cons (k := 66) rfl (.cons (k := 0) rfl (.nil _))) (.refl _)
   · exact ⟨by omega, by omega, by rw [Turn.hereK_step hI21, if_f cp7, ← hI23], by assumption⟩
   · omega
  have c16p := kz c16
  try dsimp only at c16p
  obtain rfl : k = 6 := by omega
  refine G_exit ?_
  refine GQ_then_exit ?_
  refine GQ_then_exit ?_
  refine GQ_block_exit ?_
  refine GQ_end rfl .nil ?_
  intro w1 hS
  have hS := (hS.perm (Pulls.perm (.cons .head (.cons .head .nil)))).headL
  have hq : T.look = X := (show T.look = _ from if_f c1).trans hI23.symm
  refine ⟨_, ⟨?gqc16, rfl, ?hlc16, ?hBc16⟩, hS⟩
  case hBc16 => rw [hq]
  case hlc16 => rw [hq]; assumption
theorem ref_EnterLand_spec (X : Land) (s : Str) (hw : X.Brief) (hs : s.length ≤ 140737488351232) : CtrR Tryz.prog 7 #[.agg X.enc.toArray, vstr s] [] (fun w => (GV 0 Land.verbsV w ∧ 0 ∉ feet [])) (fun v B => ∃ h : Hd, v = .tuple #[.agg ((Turn.enterR X s).1.enc).toArray, .int .i64 (Turn.enterR X s).2.1, h.val, .int .i64 (Turn.enterR X s).2.2.2] ∧ h.len = (Turn.enterR X s).2.2.1.length ∧ B = [Res.own h 60 16 ((Turn.enterR X s).2.2.1.flatMap Ing.Event.enc)]) := by
 intro w hS0 hH
 obtain ⟨gl0, gm0⟩ := hH
 refine Ret_body _ _ Tryz.func7 rfl rfl rfl (hS0) ?_
 refine G_seq ?_
 refine G_region ?_
 refine GL_box rfl rfl rfl (fun b1 => ?_)
 refine GL_alloc rfl zv34 rfl (fun b2 => ?_)
 refine GL_step rfl (PS_assign rfl) ?_
 refine GL_step rfl (PS_assign rfl) ?_
 refine GL_step rfl (PS_assign rfl) ?_
 refine GL_nil ?_
 refine GQ_sub (.cons (k := 1) rfl (.cons (k := 2) rfl (.cons (k := 4) rfl (.nil _)))) ?_
 refine GQ_then ?_
 refine G_seq ?_
 refine G_seq ?_
 refine G_region ?_
 refine GL_step rfl (PS_loadA rfl tya34 (.tail _ (.head _)) (Lens.id Land.fl.len Land.fl.one) rfl) ?_
 refine GL_pure rfl cf19 (.cons rfl .nil) (fun w hS => ref_GoodLand_spec _ w) ?_
 refine GL_step rfl (PS_not rfl) ?_
 refine GL_nil ?_
 refine GQ_sub (.cons (k := 1) rfl (.cons (k := 2) rfl (.cons (k := 4) rfl (.cons (k := 13) rfl (.nil _))))) ?_
 refine GQ_then ?_
 refine G_cond rfl (fun c1 => ?_) (fun c1 => ?_)
 ·
  have c1p := kz c1
  try dsimp only at c1p
  rw [Land.refGood_eq] at c1
  refine G_seq ?_
  refine G_region ?_
  refine GL_step rfl (PS_loadA rfl tya34 (.tail _ (.head _)) (Lens.id Land.fl.len Land.fl.one) rfl) ?_
  refine GL_unit (PU_store (Lens.id Land.fl.len Land.fl.one) rfl rfl rfl sz34 rfl .head) ?_
  refine GL_step rfl (PS_assign rfl) ?_
  refine GL_step rfl (PS_assign rfl) ?_
  refine GL_step rfl (PS_assign rfl) ?_
  refine GL_nil ?_
  refine GQ_sub (.cons (k := 4) rfl (.cons (k := 5) rfl (.cons (k := 6) rfl (.cons (k := 7) rfl (.nil _))))) ?_
  refine GQ_then ?_
  refine G_ret ?_
  refine GQ_then_ret ?_
  refine GQ_ret rfl (.cell rfl (.head _) (.inl ⟨(by rw [Land.fl.len]; exact tya34), rfl⟩) (.tmp rfl (.tmp rfl (.tmp rfl .nil)))) ?_
  intro w1 hS
  have hS := hS.own_nil 60 16
  have hS := (hS.perm (Pulls.perm (.cons .head .nil))).headL
  have hq : Turn.enterR X s = _ := if_t c1
  refine ⟨_, ⟨⟨none, 0, 0⟩, ?hv, ?hl, ?hB⟩, hS⟩
  case hv => rw [hq]; rfl
  case hl => rw [hq]; rfl
  case hB => rw [hq]; rfl
 have c1p := kz c1
 try dsimp only at c1p
 rw [Land.refGood_eq] at c1
 refine G_skip ?_
 refine GQ_sub (.cons (k := 1) rfl (.cons (k := 2) rfl (.cons (k := 4) rfl (.nil _)))) ?_
 refine GQ_then ?_
 refine G_seq ?_
 refine G_region ?_
 refine GL_step rfl (PS_assign rfl) ?_
 refine GL_nil ?_
 refine GQ_then ?_
 refine G_seq ?_
 refine G_seq ?_
 refine G_region ?_
 refine GL_step rfl (PS_assign rfl) ?_
 refine GL_nil ?_
 refine GQ_then ?_
 refine G_block ?_
 refine G_subF (.cons (k := 8) rfl (.cons (k := 9) rfl (.cons (k := 1) rfl (.cons (k := 2) rfl (.cons (k := 4) rfl (.nil _)))))) ?_
 refine G_loop2_ (fun (k : Int) (f : Int) => -1 ≤ k ∧ k ≤ 5 ∧ f = Turn.freeD X (5 - k).toNat ∧ ∀ j, k < j → j ≤ 5 → Turn.takes X s j = false) (fun (k : Int) (f : Int) => (k + 1).toNat) (fun (k : Int) (f : Int) => [(8, .int .i64 f), (9, .int .i64 k)]) (fun (k : Int) (f : Int) => []) (5) (_) ?_ rfl rfl (fun k f hI1 => ?_)
 · exact ⟨by omega, by omega, rfl, fun j h0 h1 => by omega⟩
 obtain ⟨hI11, hI12, hI13, hI14⟩ := hI1
 refine G_seq ?_
 refine G_seq ?_
 refine G_region ?_
 refine GL_step rfl (PS_move rfl) ?_
 refine GL_step rfl (PS_geq rfl rfl) ?_
 refine GL_nil ?_
 refine GQ_sub (.cons (k := 1) rfl (.cons (k := 2) rfl (.cons (k := 4) rfl (.cons (k := 8) rfl (.cons (k := 9) rfl (.cons (k := 16) rfl (.nil _))))))) ?_
 refine GQ_then ?_
 refine G_cond rfl (fun c2 => ?_) (fun c2 => ?_)
 ·
  have c2p := kz c2
  try dsimp only at c2p
  refine G_skip ?_
  refine GQ_sub (.cons (k := 1) rfl (.cons (k := 2) rfl (.cons (k := 4) rfl (.cons (k := 8) rfl (.cons (k := 9) rfl (.nil _)))))) ?_
  refine GQ_then ?_
  refine G_seq ?_
  refine G_block ?_
  refine G_seq ?_
  refine G_seq ?_
  refine G_region ?_
  refine GL_step rfl (PS_move rfl) ?_
  refine GL_step rfl (PS_fieldAddr fa34_2 rfl) ?_
  refine GL_step rfl (PS_indexAddr ia32 rfl rfl (by first | omega | exact hb.1 | exact hb.2 | (dsimp only; omega)) (by first | omega | exact hb.1 | exact hb.2 | (dsimp only; omega))) ?_
  refine GL_step rfl (PS_fieldAddr fa31_1 rfl) ?_
  refine GL_step rfl (PS_load rfl tys4 (.tail _ (.head _)) ((Land.l2.comp (Lens.arr (n := 6) Being.fl (by first | omega | exact hb.1 | exact hb.2 | (dsimp only; omega)) (by first | omega | exact hb.1 | exact hb.2 | (dsimp only; omega)))).comp Being.l1) rfl rfl) ?_
  refine GL_step rfl (PS_move rfl) ?_
  refine GL_gt (t := 24) rfl rfl rfl (fun q => PS_move rfl) ?_
  refine GL_gt (t := 24) rfl rfl rfl (fun q => PS_fieldAddr fa34_2 rfl) ?_
  refine GL_gt (t := 24) rfl rfl rfl (fun q => by have q1 := q; (try simp at q1); exact PS_indexAddr ia32 (cvE rfl q) (cvE rfl q) (by first | omega | exact hb.1 | exact hb.2 | (dsimp only; omega)) (by first | omega | exact hb.1 | exact hb.2 | (dsimp only; omega))) ?_
  refine GL_gt (t := 24) rfl rfl rfl (fun q => PS_fieldAddr fa31_0 (cvE rfl q)) ?_
  refine GL_gt (t := 24) rfl rfl rfl (fun q => by have q1 := q; (try simp at q1); exact PS_load (cvE rfl q) tys9 (.tail _ (.head _)) ((Land.l2.comp (Lens.arr (n := 6) Being.fl (by first | omega | exact hb.1 | exact hb.2 | (dsimp only; omega)) (by first | omega | exact hb.1 | exact hb.2 | (dsimp only; omega)))).comp Being.l0) rfl rfl) ?_
  refine GL_gt (t := 24) rfl rfl rfl (fun q => PS_move rfl) ?_
  refine GL_gt (t := 24) rfl rfl rfl (fun q => PS_eql_str (cvE rfl q) (cvE rfl q)) ?_
  refine GL_step rfl (PS_and rfl rfl (fun h => h)) ?_
  refine GL_nil ?_
  refine GQ_sub (.cons (k := 1) rfl (.cons (k := 2) rfl (.cons (k := 4) rfl (.cons (k := 8) rfl (.cons (k := 9) rfl (.cons (k := 32) rfl (.nil _))))))) ?_
  refine GQ_then ?_
  refine G_cond rfl (fun c3 => ?_) (fun c3 => ?_)
  ·
   have c3p := kz c3
   try dsimp only at c3p
   refine G_seq ?_
   refine G_region ?_
   refine GL_step rfl (PS_loadA rfl tya34 (.tail _ (.head _)) (Lens.id Land.fl.len Land.fl.one) rfl) ?_
   refine GL_unit (PU_store (Lens.id Land.fl.len Land.fl.one) rfl rfl rfl sz34 rfl .head) ?_
   refine GL_step rfl (PS_assign rfl) ?_
   refine GL_step rfl (PS_assign rfl) ?_
   refine GL_step rfl (PS_assign rfl) ?_
   refine GL_nil ?_
   refine GQ_sub (.cons (k := 4) rfl (.cons (k := 5) rfl (.cons (k := 6) rfl (.cons (k := 7) rfl (.nil _))))) ?_
   refine GQ_then ?_
   refine G_ret ?_
   refine GQ_then_ret ?_
   refine GQ_block_ret ?_
   refine GQ_then_ret ?_
   refine GQ_then_ret ?_
   refine GQ_block_ret ?_
   refine GQ_then_ret ?_
   refine GQ_ret rfl (.cell rfl (.head _) (.inl ⟨(by rw [Land.fl.len]; exact tya34), rfl⟩) (.tmp rfl (.tmp rfl (.tmp rfl .nil)))) ?_
   intro w1 hS
   have hS := hS.own_nil 60 16
   have hS := (hS.perm (Pulls.perm (.cons .head .nil))).headL
   have ha : (!allFrom 6 (fun k => !Turn.takes X s k) 6) = true := by
     cases hh : allFrom 6 (fun k => !Turn.takes X s k) 6 with
     | false => rfl
     | true =>
       have := (allFrom_iff 6).1 hh k (by omega) (by omega)
       rw [show Turn.takes X s k = true from c3] at this
       exact absurd this (by decide)
   have hq : Turn.enterR X s = (X, 0, [], 1) := by
     refine (if_f c1).trans ?_
     cases hn : (!Turn.namedOk s) with
     | true => exact if_pos rfl
     | false => exact (if_neg (by decide)).trans (if_t ha)
   refine ⟨_, ⟨⟨none, 0, 0⟩, ?hv, ?hl, ?hB⟩, hS⟩
   case hv => rw [hq]; rfl
   case hl => rw [hq]; rfl
   case hB => rw [hq]; rfl
  have c3p := kz c3
  try dsimp only at c3p
  refine G_skip ?_
  refine GQ_sub (.cons (k := 1) rfl (.cons (k := 2) rfl (.cons (k := 4) rfl (.cons (k := 8) rfl (.cons (k := 9) rfl (.nil _)))))) ?_
  refine GQ_then ?_
  refine G_seq ?_
  refine G_region ?_
  refine GL_step rfl (PS_move rfl) ?_
  refine GL_step rfl (PS_fieldAddr fa34_2 rfl) ?_
  refine GL_step rfl (PS_indexAddr ia32 rfl rfl (by first | omega | exact hb.1 | exact hb.2 | (dsimp only; omega)) (by first | omega | exact hb.1 | exact hb.2 | (dsimp only; omega))) ?_
  refine GL_step rfl (PS_fieldAddr fa31_1 rfl) ?_
  refine GL_step rfl (PS_load rfl tys4 (.tail _ (.head _)) ((Land.l2.comp (Lens.arr (n := 6) Being.fl (by first | omega | exact hb.1 | exact hb.2 | (dsimp only; omega)) (by first | omega | exact hb.1 | exact hb.2 | (dsimp only; omega)))).comp Being.l1) rfl rfl) ?_
  refine GL_step rfl (PS_not rfl) ?_
  refine GL_step rfl (PS_move rfl) ?_
  refine GL_gt (t := 40) rfl rfl rfl (fun q => PS_move rfl) ?_
  refine GL_gt (t := 40) rfl rfl rfl (fun q => PS_geq (cvE rfl q) rfl) ?_
  refine GL_step rfl (PS_and rfl rfl (fun h => h)) ?_
  refine GL_nil ?_
  refine GQ_sub (.cons (k := 1) rfl (.cons (k := 2) rfl (.cons (k := 4) rfl (.cons (k := 8) rfl (.cons (k := 9) rfl (.cons (k := 43) rfl (.nil _))))))) ?_
  refine GQ_then ?_
  refine G_cond rfl (fun c4 => ?_) (fun c4 => ?_)
  ·
   have c4p := kz c4
   try dsimp only at c4p
   refine G_region ?_
   refine GL_step rfl (PS_move rfl) ?_
   refine GL_step rfl (PS_assign rfl) ?_
   refine GL_nil ?_
   refine GQ_sub (.cons (k := 1) rfl (.cons (k := 2) rfl (.cons (k := 4) rfl (.cons (k := 8) rfl (.cons (k := 9) rfl (.nil _)))))) ?_
   refine GQ_block ?_
   refine GQ_then ?_
   refine G_region ?_
   refine GL_step rfl (PS_move rfl) ?_
   refine GL_step rfl (PS_sub rfl rfl (IntWalk.i64_in _ (by first | omega | exact hb.1 | exact hb.2 | (dsimp only; omega)))) ?_
   refine GL_step rfl (PS_assign rfl) ?_
   refine GL_nil ?_
   refine GQ_sub (.cons (k := 1) rfl (.cons (k := 2) rfl (.cons (k := 4) rfl (.cons (k := 8) rfl (.cons (k := 9) rfl (.nil _)))))) ?_
   refine GQ_next2_ (k - 1) _ ?_ ?_ (.cons (k := 8) rfl (.cons (k := 9) rfl (.cons (k := 1) rfl (.cons (k := 2) rfl (.cons (k := 4) rfl (.nil _)))))) (.refl _)
   · exact ⟨by omega, by omega, by rw [Turn.freeD_step (by omega) hI12, if_t c4], fun j h0 h1 => by
       by_cases e : j = k
       · rw [e]; exact c3
       · exact hI14 j (by omega) h1⟩
   · omega
  have c4p := kz c4
  try dsimp only at c4p
  refine G_skip ?_
  refine GQ_sub (.cons (k := 1) rfl (.cons (k := 2) rfl (.cons (k := 4) rfl (.cons (k := 8) rfl (.cons (k := 9) rfl (.nil _)))))) ?_
  refine GQ_block ?_
  refine GQ_then ?_
  refine G_region ?_
  refine GL_step rfl (PS_move rfl) ?_
  refine GL_step rfl (PS_sub rfl rfl (IntWalk.i64_in _ (by first | omega | exact hb.1 | exact hb.2 | (dsimp only; omega)))) ?_
  refine GL_step rfl (PS_assign rfl) ?_
  refine GL_nil ?_
  refine GQ_sub (.cons (k := 1) rfl (.cons (k := 2) rfl (.cons (k := 4) rfl (.cons (k := 8) rfl (.cons (k := 9) rfl (.nil _)))))) ?_
  refine GQ_next2_ (k - 1) _ ?_ ?_ (.cons (k := 8) rfl (.cons (k := 9) rfl (.cons (k := 1) rfl (.cons (k := 2) rfl (.cons (k := 4) rfl (.nil _)))))) (.refl _)
  · exact ⟨by omega, by omega, by rw [Turn.freeD_step (by omega) hI12, if_f c4, ← hI13], fun j h0 h1 => by
      by_cases e : j = k
      · rw [e]; exact c3
      · exact hI14 j (by omega) h1⟩
  · omega
 have c2p := kz c2
 try dsimp only at c2p
 obtain rfl : k = -1 := by omega
 have hfe : f = Turn.freeD X 6 := hI13
 have hno : (!allFrom 6 (fun k => !Turn.takes X s k) 6) = false := by rw [(allFrom_iff 6).2 (fun i h0 h1 => by rw [hI14 i (by omega) (by omega)]; rfl)]; rfl
 have hfr := Turn.freeD_rng X 6 (Nat.le_refl _)
 rw [← hfe] at hfr
 refine G_exit ?_
 refine GQ_then_exit ?_
 refine GQ_then_exit ?_
 refine GQ_block_exit ?_
 refine GQ_sub (.cons (k := 1) rfl (.cons (k := 2) rfl (.cons (k := 4) rfl (.cons (k := 8) rfl (.nil _))))) ?_
 refine GQ_then ?_
 refine G_seq ?_
 refine G_seq ?_
 refine G_region ?_
 refine GL_step rfl (PS_move rfl) ?_
 refine GL_pure rfl cf10 (.cons rfl .nil) (fun w hS => ref_IsNamed_spec _ (by first | assumption | omega) w) ?_
 refine GL_step rfl (PS_not rfl) ?_
 refine GL_nil ?_
 refine GQ_sub (.cons (k := 1) rfl (.cons (k := 2) rfl (.cons (k := 4) rfl (.cons (k := 8) rfl (.cons (k := 47) rfl (.nil _)))))) ?_
 refine GQ_then ?_
 refine G_cond rfl (fun c5 => ?_) (fun c5 => ?_)
 ·
  have c5p := kz c5
  try dsimp only at c5p
  refine G_seq ?_
  refine G_region ?_
  refine GL_step rfl (PS_loadA rfl tya34 (.tail _ (.head _)) (Lens.id Land.fl.len Land.fl.one) rfl) ?_
  refine GL_unit (PU_store (Lens.id Land.fl.len Land.fl.one) rfl rfl rfl sz34 rfl .head) ?_
  refine GL_step rfl (PS_assign rfl) ?_
  refine GL_step rfl (PS_assign rfl) ?_
  refine GL_step rfl (PS_assign rfl) ?_
  refine GL_nil ?_
  refine GQ_sub (.cons (k := 4) rfl (.cons (k := 5) rfl (.cons (k := 6) rfl (.cons (k := 7) rfl (.nil _))))) ?_
  refine GQ_then ?_
  refine G_ret ?_
  refine GQ_then_ret ?_
  refine GQ_ret rfl (.cell rfl (.head _) (.inl ⟨(by rw [Land.fl.len]; exact tya34), rfl⟩) (.tmp rfl (.tmp rfl (.tmp rfl .nil)))) ?_
  intro w1 hS
  have hS := hS.own_nil 60 16
  have hS := (hS.perm (Pulls.perm (.cons .head .nil))).headL
  have hq : Turn.enterR X s = _ := (if_f c1).trans (if_t c5)
  refine ⟨_, ⟨⟨none, 0, 0⟩, ?hv, ?hl, ?hB⟩, hS⟩
  case hv => rw [hq]; rfl
  case hl => rw [hq]; rfl
  case hB => rw [hq]; rfl
 have c5p := kz c5
 try dsimp only at c5p
 refine G_skip ?_
 refine GQ_sub (.cons (k := 1) rfl (.cons (k := 2) rfl (.cons (k := 4) rfl (.cons (k := 8) rfl (.nil _))))) ?_
 refine GQ_then ?_
 refine G_seq ?_
 refine G_seq ?_
 refine G_region ?_
 refine GL_step rfl (PS_move rfl) ?_
 refine GL_step rfl (PS_lss rfl rfl) ?_
 refine GL_nil ?_
 refine GQ_sub (.cons (k := 1) rfl (.cons (k := 2) rfl (.cons (k := 4) rfl (.cons (k := 8) rfl (.cons (k := 50) rfl (.nil _)))))) ?_
 refine GQ_then ?_
 refine G_cond rfl (fun c6 => ?_) (fun c6 => ?_)
 ·
  have c6p := kz c6
  try dsimp only at c6p
  refine G_seq ?_
  refine G_region ?_
  refine GL_step rfl (PS_loadA rfl tya34 (.tail _ (.head _)) (Lens.id Land.fl.len Land.fl.one) rfl) ?_
  refine GL_unit (PU_store (Lens.id Land.fl.len Land.fl.one) rfl rfl rfl sz34 rfl .head) ?_
  refine GL_step rfl (PS_assign rfl) ?_
  refine GL_step rfl (PS_assign rfl) ?_
  refine GL_step rfl (PS_assign rfl) ?_
  refine GL_nil ?_
  refine GQ_sub (.cons (k := 4) rfl (.cons (k := 5) rfl (.cons (k := 6) rfl (.cons (k := 7) rfl (.nil _))))) ?_
  refine GQ_then ?_
  refine G_ret ?_
  refine GQ_then_ret ?_
  refine GQ_ret rfl (.cell rfl (.head _) (.inl ⟨(by rw [Land.fl.len]; exact tya34), rfl⟩) (.tmp rfl (.tmp rfl (.tmp rfl .nil)))) ?_
  intro w1 hS
  have hS := hS.own_nil 60 16
  have hS := (hS.perm (Pulls.perm (.cons .head .nil))).headL
  have hf0 : decide (Turn.freeD X 6 < 0) = true := by rw [← hfe]; exact c6
  have hq : Turn.enterR X s = _ := (if_f c1).trans ((if_f c5).trans ((if_f hno).trans (if_t hf0)))
  refine ⟨_, ⟨⟨none, 0, 0⟩, ?hv, ?hl, ?hB⟩, hS⟩
  case hv => rw [hq]; rfl
  case hl => rw [hq]; rfl
  case hB => rw [hq]; rfl
 have c6p := kz c6
 try dsimp only at c6p
 have hF := Turn.enter_fit (s := s) (by simpa using c1) hw (by omega) (show 0 ≤ f by omega) (show f < 6 by omega)
 have hb := hF.b
 refine G_skip ?_
 refine GQ_sub (.cons (k := 1) rfl (.cons (k := 2) rfl (.cons (k := 4) rfl (.cons (k := 8) rfl (.nil _))))) ?_
 refine GQ_then ?_
 refine G_seq ?_
 refine G_region ?_
 refine GL_step rfl (PS_loadA rfl tya34 (.tail _ (.head _)) (Lens.id Land.fl.len Land.fl.one) rfl) ?_
 refine GL_step rfl (PS_move rfl) ?_
 refine GL_step rfl (PS_build pl57 zv57 rfl (.cons TurnV.l0 rfl rfl rfl (.cons TurnV.l1 rfl rfl rfl .nil))) ?_
 refine GL_box rfl rfl rfl (fun b3 => ?_)
 refine GL_step rfl (PS_assign rfl) ?_
 refine GL_nil ?_
 refine GQ_sub (.cons (k := 1) rfl (.cons (k := 4) rfl (.cons (k := 8) rfl (.cons (k := 10) rfl (.nil _))))) ?_
 refine GQ_then ?_
 refine G_seq ?_
 refine G_region ?_
 refine GL_step rfl (PS_move rfl) ?_
 refine GL_step rfl (PS_move rfl) ?_
 refine GL_step rfl (PS_move rfl) ?_
 refine GL_step rfl (PS_build pl31 zv31 rfl (.cons Being.l0 rfl rfl rfl (.cons Being.l1 rfl rfl rfl (.cons Being.l4 rfl rfl rfl .nil)))) ?_
 refine GL_step rfl (PS_nilCheck rfl) ?_
 refine GL_step rfl (PS_fieldAddr fa57_0 rfl) ?_
 refine GL_step rfl (PS_fieldAddr fa34_2 rfl) ?_
 refine GL_step rfl (PS_indexAddr ia32 rfl rfl (by first | omega | exact hb.1 | exact hb.2 | (dsimp only; omega)) (by first | omega | exact hb.1 | exact hb.2 | (dsimp only; omega))) ?_
 refine GL_unit (PU_store ((TurnV.l0.comp Land.l2).comp (Lens.arr (n := 6) Being.fl (by first | omega | exact hb.1 | exact hb.2 | (dsimp only; omega)) (by first | omega | exact hb.1 | exact hb.2 | (dsimp only; omega)))) rfl rfl rfl sz31 rfl .head) ?_
 refine GL_nil ?_
 refine GQ_sub (.cons (k := 4) rfl (.cons (k := 8) rfl (.cons (k := 10) rfl (.nil _)))) ?_
 refine GQ_then ?_
 refine G_seq ?_
 refine G_region ?_
 refine GL_step rfl (PS_move rfl) ?_
 refine GL_nilF Ing.Event.enc 60 16 ?_
 refine GL_callL rfl cf20 (.cons rfl (.cons rfl (.cons rfl (.cons rfl (.cons rfl (.cons rfl (.cons rfl .nil))))))) (.cons (.tail .head) (.cons .head .nil)) (ref_turn_add_spec _ (⟨X.putB f (Turn.newB s), f, []⟩ : Turn) _ 17 (-1) 0 0 [] [] rfl hb (show (-1 : Int) < 6 by decide) (Nat.zero_le _)) (fun v6 B hv => ?_)
 obtain ⟨y7, rfl, y8, rfl⟩ := hv
 refine GL_nil ?_
 refine GQ_sub (.cons (k := 4) rfl (.cons (k := 8) rfl (.cons (k := 10) rfl (.nil _)))) ?_
 refine GQ_then ?_
 refine G_seq ?_
 refine G_region ?_
 refine GL_step rfl (PS_move rfl) ?_
 refine GL_callR rfl cf21 (.cons rfl .nil) (.cons .head (.cons .head .nil)) (ref_turn_look_spec _ (Turn.kind (⟨X.putB f (Turn.newB s), f, []⟩ : Turn) 17) _ y8 (hF.of_w rfl rfl) (by decide : (0 : Nat) + 1 ≤ 90000)) (fun w hS => gl0.pull gm0 hS (.cons .head (.cons .head .nil))) (fun v9 B hv => ?_)
 obtain ⟨y10, rfl, y11, rfl⟩ := hv
 refine GL_nil ?_
 refine GQ_sub (.cons (k := 4) rfl (.cons (k := 8) rfl (.cons (k := 10) rfl (.nil _)))) ?_
 refine GQ_then ?_
 refine G_seq ?_
 refine G_planN (N := 13) [0, 1, 3, 7, 0, 0, 32, 96, 224, 15, 543, 2047, 4095] mix (by kernel_rfl) rfl ?_
 refine Plan_float 0 rfl rfl (by kernel_rfl) (OK_s (EX_s (PS_move rfl))) ?_
 refine Plan_float 1 rfl rfl (by kernel_rfl) (OK_s (EX_s (PS_nilCheck rfl))) ?_
 refine Plan_float 2 rfl rfl (by kernel_rfl) (OK_s (EX_s (PS_fieldAddr fa57_0 rfl))) ?_
 refine Plan_float 3 rfl rfl (by kernel_rfl) (OK_s (EX_s (PS_loadA rfl tya34 (.head _) TurnV.l0 rfl))) ?_
 refine Plan_float 4 rfl rfl (by kernel_rfl) (OK_s (EX_s (PS_move rfl))) ?_
 refine Plan_float 5 rfl rfl (by kernel_rfl) (OK_s (EX_s (PS_move rfl))) ?_
 refine Plan_float 6 rfl rfl (by kernel_rfl) (OK_s (EX_s (PS_nilCheck rfl))) ?_
 refine Plan_float 7 rfl rfl (by kernel_rfl) (OK_s (EX_s (PS_fieldAddr fa57_2 rfl))) ?_
 refine Plan_float 8 rfl rfl (by kernel_rfl) (OK_s (EX_s (PS_load rfl tys35 (.head _) TurnV.l2 rfl rfl))) ?_
 refine Plan_chain 9 rfl (by kernel_rfl) ?_
 refine GL_unit (PU_store (Lens.id Land.fl.len Land.fl.one) rfl rfl rfl sz34 rfl (.tail (.tail .head))) ?_
 refine GL_hand0 rfl ⟨?_, ?_⟩
 · exact (Pend_okv rfl (OK_s (EX_s (PS_load rfl tys35 (.head _) TurnV.l2 rfl rfl))) rfl rfl (Pend_okv rfl (OK_s (EX_s (PS_fieldAddr fa57_2 rfl))) rfl rfl (Pend_okv rfl (OK_s (EX_s (PS_nilCheck rfl))) rfl rfl (Pend_okv rfl (OK_s (EX_s (PS_move rfl))) rfl rfl (Pend_okv rfl (OK_s (EX_s (PS_move rfl))) rfl rfl (Pend_skip (by kernel_rfl) (Pend_skip (by kernel_rfl) (Pend_skip (by kernel_rfl) (Pend_skip (by kernel_rfl) Pend_nil)))))))))
 refine Plan_float 10 rfl rfl (by kernel_rfl) (OK_s (EX_s (PS_assign rfl))) ?_
 refine Plan_float 11 rfl rfl (by kernel_rfl) (OK_s (EX_s (PS_assign rfl))) ?_
 refine Plan_float 12 rfl rfl (by kernel_rfl) (OK_s (EX_s (PS_assign rfl))) ?_
 refine Plan_end (by kernel_rfl) ?_
 refine GQ_sub (.cons (k := 4) rfl (.cons (k := 5) rfl (.cons (k := 6) rfl (.cons (k := 7) rfl (.nil _))))) ?_
 refine GQ_then ?_
 refine G_ret ?_
 refine GQ_ret rfl (.cell rfl (.tail _ (.tail _ (.head _))) (.inl ⟨(by rw [Land.fl.len]; exact tya34), rfl⟩) (.tmp rfl (.tmp rfl (.tmp rfl .nil)))) ?_
 intro w1 hS
 have hS := (hS.perm (Pulls.perm (.cons (.tail .head) .nil))).headL
 have hf0 : decide (Turn.freeD X 6 < 0) = false := by rw [← hfe]; exact c6
 have hq : Turn.enterR X s = _ := (if_f c1).trans ((if_f c5).trans ((if_f hno).trans (if_f hf0)))
 rw [← hfe] at hq
 refine ⟨_, ⟨y10, ?hv, ?hl, ?hB⟩, hS⟩
 case hv => rw [hq]; (try rfl)
 case hl => rw [hq]; exact y11
 case hB => rw [hq]; (try rfl)
end Go.Proofs.YthaobbemigbcgaaGreatDoor
