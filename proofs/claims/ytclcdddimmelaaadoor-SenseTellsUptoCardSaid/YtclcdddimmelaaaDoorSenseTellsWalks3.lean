/- What the functions that the law SenseTells reaches compute: walks, part 3. No condition. -/
import Derived.Test.YtclcdddimmelaaaDoorCards
import Derived.Test.YtclcdddimmelaaaDoorTie
import Derived.Deep.DeepHandedRow
import Derived.Test.YtclcdddimmelaaaDoorRows
import Derived.Test.YtclcdddimmelaaaDoorEc3
import Derived.Test.YtclcdddimmelaaaDoorSenseTellsPlain
import Derived.Test.YtclcdddimmelaaaDoorSenseTellsWalks
import Derived.Test.YtclcdddimmelaaaDoorSenseTellsWalks2
set_option linter.unusedSimpArgs false
set_option linter.unusedVariables false
set_option maxRecDepth 100000
namespace Go.Proofs.YtclcdddimmelaaaDoor
open Go Go.Ing Go.RowKit Go.ChangeShapes Go.WideShapes Go.ChangeAt
theorem sense_Bright_spec (X : Land) (r : Int) (w : World) : Ret Tryd.prog 8 #[.agg X.enc.toArray, .int .i64 r] w fun v w' => v = .bool (X.bright r) ∧ Keep w w' := by
  refine Ret_body [] [] Tryd.func8 rfl rfl rfl (St.start w []) ?_
  refine G_seq ?_
  refine G_region ?_
  refine GL_box rfl rfl rfl (fun b1 => ?_)
  refine GL_step rfl (PS_assign rfl) ?_
  refine GL_nil ?_
  refine GQ_sub (.cons (k := 1) rfl (.cons (k := 2) rfl (.nil _))) ?_
  refine GQ_then ?_
  refine G_seq ?_
  refine G_seq ?_
  refine G_region ?_
  refine GL_step rfl (PS_move rfl) ?_
  refine GL_step rfl (PS_lss rfl rfl) ?_
  refine GL_step rfl (PS_move rfl) ?_
  refine GL_gf (t := 11) rfl rfl rfl (fun q => PS_move rfl) ?_
  refine GL_gf (t := 11) rfl rfl rfl (fun q => PS_geq (cvE rfl (by rw [q]; rfl)) rfl) ?_
  refine GL_step rfl (PS_or rfl rfl (fun h => by rw [h]; rfl)) ?_
  refine GL_nil ?_
  refine GQ_sub (.cons (k := 1) rfl (.cons (k := 2) rfl (.cons (k := 14) rfl (.nil _)))) ?_
  refine GQ_then ?_
  refine G_cond rfl (fun c1 => ?_) (fun c1 => ?_)
  · skip
    have c1p := c1
    try simp only [decide_eq_true_eq, decide_eq_false_iff_not, Bool.not_eq_true', Bool.not_eq_false', Bool.or_eq_true, Bool.and_eq_true, Bool.or_eq_false_iff, Bool.and_eq_false_iff, Int.not_lt, Int.not_le] at c1p
    refine G_seq ?_
    refine G_region ?_
    refine GL_step rfl (PS_assign rfl) ?_
    refine GL_nil ?_
    refine GQ_sub (.cons (k := 4) rfl (.nil _)) ?_
    refine GQ_then ?_
    refine G_ret ?_
    refine GQ_then_ret ?_
    refine GQ_ret rfl (.tmp rfl .nil) ?_
    intro w1 hS; refine ⟨congrArg Value.bool ?_, hS.toKeep⟩; rw [show X.bright r = _ from if_t c1]
  · skip
    have c1p := c1
    try simp only [decide_eq_true_eq, decide_eq_false_iff_not, Bool.not_eq_true', Bool.not_eq_false', Bool.or_eq_true, Bool.and_eq_true, Bool.or_eq_false_iff, Bool.and_eq_false_iff, Int.not_lt, Int.not_le] at c1p
    have hr : 0 ≤ r ∧ r < 6 := by simp at c1; omega
    refine G_skip ?_
    refine GQ_sub (.cons (k := 1) rfl (.cons (k := 2) rfl (.nil _))) ?_
    refine GQ_then ?_
    refine G_seq ?_
    refine G_seq ?_
    refine G_region ?_
    refine GL_step rfl (PS_move rfl) ?_
    refine GL_step rfl (PS_fieldAddr fa34_0 rfl) ?_
    refine GL_step rfl (PS_indexAddr ia26 rfl rfl (by omega) (by omega)) ?_
    refine GL_step rfl (PS_fieldAddr fa25_1 rfl) ?_
    refine GL_step rfl (PS_load rfl tys4 (.head _) ((Land.l0.comp (Lens.arr (n := 6) Room.fl (by omega) (by omega))).comp Room.l1) rfl rfl) ?_
    refine GL_step rfl (PS_not rfl) ?_
    refine GL_nil ?_
    refine GQ_sub (.cons (k := 1) rfl (.cons (k := 2) rfl (.cons (k := 20) rfl (.nil _)))) ?_
    refine GQ_then ?_
    refine G_cond rfl (fun c2 => ?_) (fun c2 => ?_)
    · skip
      have c2p := c2
      try simp only [decide_eq_true_eq, decide_eq_false_iff_not, Bool.not_eq_true', Bool.not_eq_false', Bool.or_eq_true, Bool.and_eq_true, Bool.or_eq_false_iff, Bool.and_eq_false_iff, Int.not_lt, Int.not_le] at c2p
      refine G_seq ?_
      refine G_region ?_
      refine GL_step rfl (PS_assign rfl) ?_
      refine GL_nil ?_
      refine GQ_sub (.cons (k := 4) rfl (.nil _)) ?_
      refine GQ_then ?_
      refine G_ret ?_
      refine GQ_then_ret ?_
      refine GQ_ret rfl (.tmp rfl .nil) ?_
      intro w1 hS; refine ⟨congrArg Value.bool ?_, hS.toKeep⟩; rw [show X.bright r = _ from (if_f c1).trans (if_t c2)]
    · skip
      have c2p := c2
      try simp only [decide_eq_true_eq, decide_eq_false_iff_not, Bool.not_eq_true', Bool.not_eq_false', Bool.or_eq_true, Bool.and_eq_true, Bool.or_eq_false_iff, Bool.and_eq_false_iff, Int.not_lt, Int.not_le] at c2p
      refine G_skip ?_
      refine GQ_sub (.cons (k := 1) rfl (.cons (k := 2) rfl (.nil _))) ?_
      refine GQ_then ?_
      refine G_seq ?_
      refine G_seq ?_
      refine G_region ?_
      refine GL_step rfl (PS_fieldAddr fa34_1 rfl) ?_
      refine GL_step rfl (PS_loadA rfl tya29 (.head _) Land.l1 rfl) ?_
      refine GL_step rfl (PS_move rfl) ?_
      refine GL_nil ?_
      refine GQ_sub (.cons (k := 1) rfl (.cons (k := 2) rfl (.cons (k := 22) rfl (.cons (k := 23) rfl (.nil _))))) ?_
      refine GQ_then ?_
      refine G_block ?_
      refine G_subF (.cons (k := 23) rfl (.cons (k := 1) rfl (.cons (k := 2) rfl (.cons (k := 22) rfl (.nil _))))) ?_
      refine G_loop1_ (fun (k : Int) => 0 ≤ k ∧ k ≤ 9 ∧ allFrom 9 (fun i => !X.lit r i) 9 = allFrom 9 (fun i => !X.lit r i) (9 - k).toNat) (fun (k : Int) => (9 - k).toNat) (fun (k : Int) => [(23, .int .i64 k)]) (fun (k : Int) => []) (0) ?_ rfl rfl (fun k hI1 => ?_)
      · exact ⟨by omega, by omega, rfl⟩
      obtain ⟨hI11, hI12, hI13⟩ := hI1
      refine G_seq ?_
      refine G_region ?_
      refine GL_step rfl (PS_lss rfl rfl) ?_
      refine GL_nil ?_
      refine GQ_then ?_
      refine G_seq ?_
      refine G_cond rfl (fun c3 => ?_) (fun c3 => ?_)
      · skip
        have c3p := c3
        try simp only [decide_eq_true_eq, decide_eq_false_iff_not, Bool.not_eq_true', Bool.not_eq_false', Bool.or_eq_true, Bool.and_eq_true, Bool.or_eq_false_iff, Bool.and_eq_false_iff, Int.not_lt, Int.not_le] at c3p
        rw [allFrom_step _ (by omega)] at hI13
        refine G_skip ?_
        refine GQ_sub (.cons (k := 1) rfl (.cons (k := 2) rfl (.cons (k := 22) rfl (.cons (k := 23) rfl (.nil _))))) ?_
        refine GQ_then ?_
        refine G_seq ?_
        refine G_block ?_
        refine G_seq ?_
        refine G_region ?_
        refine GL_step rfl (PS_move rfl) ?_
        refine GL_step rfl (PS_indexAA Thing.fl Tryd.underlying29 tya28 rfl rfl (by omega) (by omega)) ?_
        refine GL_alloc rfl zv28 rfl (fun b2 => ?_)
        refine GL_step rfl (PS_assign rfl) ?_
        refine GL_unit (PU_store (Lens.id Thing.fl.len Thing.fl.one) rfl rfl rfl sz28 rfl .head) ?_
        refine GL_nil ?_
        refine GQ_sub (.cons (k := 1) rfl (.cons (k := 2) rfl (.cons (k := 5) rfl (.cons (k := 6) rfl (.cons (k := 22) rfl (.cons (k := 23) rfl (.nil _))))))) ?_
        refine GQ_then ?_
        refine G_seq ?_
        refine G_seq ?_
        refine G_region ?_
        refine GL_step rfl (PS_fieldAddr fa28_1 rfl) ?_
        refine GL_step rfl (PS_load rfl tys3 (.head _) Thing.l1 rfl rfl) ?_
        refine GL_step rfl (PS_neq rfl rfl) ?_
        refine GL_step rfl (PS_move rfl) ?_
        refine GL_gf (t := 30) rfl rfl rfl (fun q => PS_fieldAddr fa28_4 rfl) ?_
        refine GL_gf (t := 30) rfl rfl rfl (fun q => PS_load (cvE rfl (by rw [q]; rfl)) tys4 (.head _) Thing.l4 rfl rfl) ?_
        refine GL_gf (t := 30) rfl rfl rfl (fun q => PS_not (cvE rfl (by rw [q]; rfl))) ?_
        refine GL_step rfl (PS_or rfl rfl (fun h => by rw [h]; rfl)) ?_
        refine GL_nil ?_
        refine GQ_sub (.cons (k := 1) rfl (.cons (k := 2) rfl (.cons (k := 5) rfl (.cons (k := 22) rfl (.cons (k := 23) rfl (.cons (k := 34) rfl (.nil _))))))) ?_
        refine GQ_then ?_
        refine G_cond rfl (fun c4 => ?_) (fun c4 => ?_)
        · skip
          have c4p := c4
          try simp only [decide_eq_true_eq, decide_eq_false_iff_not, Bool.not_eq_true', Bool.not_eq_false', Bool.or_eq_true, Bool.and_eq_true, Bool.or_eq_false_iff, Bool.and_eq_false_iff, Int.not_lt, Int.not_le] at c4p
          refine G_exit ?_
          refine GQ_then_exit ?_
          refine GQ_block_exit ?_
          refine GQ_sub (.cons (k := 1) rfl (.cons (k := 2) rfl (.cons (k := 22) rfl (.cons (k := 23) rfl (.nil _))))) ?_
          refine GQ_then ?_
          refine G_region ?_
          refine GL_step rfl (PS_add rfl rfl (IntWalk.i64_in _ (by omega))) ?_
          refine GL_step rfl (PS_move rfl) ?_
          refine GL_nil ?_
          refine GQ_sub (.cons (k := 1) rfl (.cons (k := 2) rfl (.cons (k := 22) rfl (.cons (k := 23) rfl (.nil _))))) ?_
          refine GQ_next1_ (k + 1) ?_ ?_ (.cons (k := 23) rfl (.cons (k := 1) rfl (.cons (k := 2) rfl (.cons (k := 22) rfl (.nil _))))) (.cons _ (.refl _))
          · exact ⟨by omega, by omega, by rw [hI13, show X.lit r k = false from by rw [Land.lit, c4]; first | rfl | exact Bool.and_false _]; rfl⟩
          · omega
        · skip
          have c4p := c4
          try simp only [decide_eq_true_eq, decide_eq_false_iff_not, Bool.not_eq_true', Bool.not_eq_false', Bool.or_eq_true, Bool.and_eq_true, Bool.or_eq_false_iff, Bool.and_eq_false_iff, Int.not_lt, Int.not_le] at c4p
          refine G_skip ?_
          refine GQ_sub (.cons (k := 1) rfl (.cons (k := 2) rfl (.cons (k := 5) rfl (.cons (k := 22) rfl (.cons (k := 23) rfl (.nil _)))))) ?_
          refine GQ_then ?_
          refine G_seq ?_
          refine G_region ?_
          refine GL_step rfl (PS_loadA rfl tya34 (.tail _ (.head _)) (Lens.id Land.fl.len Land.fl.one) rfl) ?_
          refine GL_step rfl (PS_move rfl) ?_
          refine GL_pure rfl cf22 (.cons rfl (.cons rfl .nil)) (fun w hS => land_Room_spec _ _ w) ?_
          refine GL_step rfl (PS_move rfl) ?_
          refine GL_step rfl (PS_extract rfl rfl) ?_
          refine GL_step rfl (PS_extract rfl rfl) ?_
          refine GL_step rfl (PS_assign rfl) ?_
          refine GL_step rfl (PS_assign rfl) ?_
          refine GL_nil ?_
          refine GQ_sub (.cons (k := 1) rfl (.cons (k := 2) rfl (.cons (k := 7) rfl (.cons (k := 8) rfl (.cons (k := 22) rfl (.cons (k := 23) rfl (.nil _))))))) ?_
          refine GQ_then ?_
          refine G_seq ?_
          refine G_region ?_
          refine GL_step rfl (PS_move rfl) ?_
          refine GL_step rfl (PS_move rfl) ?_
          refine GL_step rfl (PS_eql rfl rfl) ?_
          refine GL_step rfl (PS_move rfl) ?_
          refine GL_gt (t := 44) rfl rfl rfl (fun q => PS_move rfl) ?_
          refine GL_step rfl (PS_and rfl rfl (fun h => h)) ?_
          refine GL_nil ?_
          refine GQ_sub (.cons (k := 1) rfl (.cons (k := 2) rfl (.cons (k := 22) rfl (.cons (k := 23) rfl (.cons (k := 46) rfl (.nil _)))))) ?_
          refine GQ_then ?_
          refine G_cond rfl (fun c5 => ?_) (fun c5 => ?_)
          · skip
            have c5p := c5
            try simp only [decide_eq_true_eq, decide_eq_false_iff_not, Bool.not_eq_true', Bool.not_eq_false', Bool.or_eq_true, Bool.and_eq_true, Bool.or_eq_false_iff, Bool.and_eq_false_iff, Int.not_lt, Int.not_le] at c5p
            refine G_seq ?_
            refine G_region ?_
            refine GL_step rfl (PS_assign rfl) ?_
            refine GL_nil ?_
            refine GQ_sub (.cons (k := 4) rfl (.nil _)) ?_
            refine GQ_then ?_
            refine G_ret ?_
            refine GQ_block_ret ?_
            refine GQ_then_ret ?_
            refine GQ_then_ret ?_
            refine GQ_block_ret ?_
            refine GQ_then_ret ?_
            refine GQ_ret rfl (.tmp rfl .nil) ?_
            intro w1 hS; refine ⟨congrArg Value.bool ?_, hS.toKeep⟩; rw [show X.bright r = _ from (if_f c1).trans (if_f c2), hI13, show X.lit r k = true from by rw [Land.lit, c4, c5]; rfl]; rfl
          · skip
            have c5p := c5
            try simp only [decide_eq_true_eq, decide_eq_false_iff_not, Bool.not_eq_true', Bool.not_eq_false', Bool.or_eq_true, Bool.and_eq_true, Bool.or_eq_false_iff, Bool.and_eq_false_iff, Int.not_lt, Int.not_le] at c5p
            refine G_skip ?_
            refine GQ_sub (.cons (k := 1) rfl (.cons (k := 2) rfl (.cons (k := 22) rfl (.cons (k := 23) rfl (.nil _))))) ?_
            refine GQ_block ?_
            refine GQ_then ?_
            refine G_region ?_
            refine GL_step rfl (PS_add rfl rfl (IntWalk.i64_in _ (by omega))) ?_
            refine GL_step rfl (PS_move rfl) ?_
            refine GL_nil ?_
            refine GQ_sub (.cons (k := 1) rfl (.cons (k := 2) rfl (.cons (k := 22) rfl (.cons (k := 23) rfl (.nil _))))) ?_
            refine GQ_next1_ (k + 1) ?_ ?_ (.cons (k := 23) rfl (.cons (k := 1) rfl (.cons (k := 2) rfl (.cons (k := 22) rfl (.nil _))))) (.cons _ (.refl _))
            · exact ⟨by omega, by omega, by rw [hI13, show X.lit r k = false from by rw [Land.lit, c5]; first | rfl | exact Bool.and_false _]; rfl⟩
            · omega
      · skip
        have c3p := c3
        try simp only [decide_eq_true_eq, decide_eq_false_iff_not, Bool.not_eq_true', Bool.not_eq_false', Bool.or_eq_true, Bool.and_eq_true, Bool.or_eq_false_iff, Bool.and_eq_false_iff, Int.not_lt, Int.not_le] at c3p
        obtain rfl : k = 9 := by omega
        refine G_exit ?_
        refine GQ_then_exit ?_
        refine GQ_then_exit ?_
        refine GQ_block_exit ?_
        refine GQ_sub (.nil _) ?_
        refine GQ_then ?_
        refine G_seq ?_
        refine G_region ?_
        refine GL_step rfl (PS_assign rfl) ?_
        refine GL_nil ?_
        refine GQ_then ?_
        refine G_ret ?_
        refine GQ_ret rfl (.tmp rfl .nil) ?_
        intro w1 hS; refine ⟨congrArg Value.bool ?_, hS.toKeep⟩; rw [show X.bright r = _ from (if_f c1).trans (if_f c2), hI13]; rfl
theorem sense_Hidden_spec (X : Land) (b : Int) (w : World) : Ret Tryd.prog 10 #[.agg X.enc.toArray, .int .i64 b] w fun v w' => v = .bool (X.hidden b) ∧ Keep w w' := by
  refine Ret_body [] [] Tryd.func10 rfl rfl rfl (St.start w []) ?_
  refine G_seq ?_
  refine G_region ?_
  refine GL_box rfl rfl rfl (fun b1 => ?_)
  refine GL_step rfl (PS_assign rfl) ?_
  refine GL_nil ?_
  refine GQ_sub (.cons (k := 1) rfl (.cons (k := 2) rfl (.nil _))) ?_
  refine GQ_then ?_
  refine G_seq ?_
  refine G_seq ?_
  refine G_region ?_
  refine GL_step rfl (PS_fieldAddr fa34_1 rfl) ?_
  refine GL_step rfl (PS_loadA rfl tya29 (.head _) Land.l1 rfl) ?_
  refine GL_step rfl (PS_move rfl) ?_
  refine GL_nil ?_
  refine GQ_sub (.cons (k := 1) rfl (.cons (k := 8) rfl (.cons (k := 9) rfl (.nil _)))) ?_
  refine GQ_then ?_
  refine G_block ?_
  refine G_subF (.cons (k := 9) rfl (.cons (k := 1) rfl (.cons (k := 8) rfl (.nil _)))) ?_
  refine G_loop1_ (fun (k : Int) => 0 ≤ k ∧ k ≤ 9 ∧ allFrom 9 (fun i => !X.cloaked b i) 9 = allFrom 9 (fun i => !X.cloaked b i) (9 - k).toNat) (fun (k : Int) => (9 - k).toNat) (fun (k : Int) => [(9, .int .i64 k)]) (fun (k : Int) => []) (0) ?_ rfl rfl (fun k hI1 => ?_)
  · exact ⟨by omega, by omega, rfl⟩
  obtain ⟨hI11, hI12, hI13⟩ := hI1
  refine G_seq ?_
  refine G_region ?_
  refine GL_step rfl (PS_lss rfl rfl) ?_
  refine GL_nil ?_
  refine GQ_then ?_
  refine G_seq ?_
  refine G_cond rfl (fun c1 => ?_) (fun c1 => ?_)
  · skip
    have c1p := c1
    try simp only [decide_eq_true_eq, decide_eq_false_iff_not, Bool.not_eq_true', Bool.not_eq_false', Bool.or_eq_true, Bool.and_eq_true, Bool.or_eq_false_iff, Bool.and_eq_false_iff, Int.not_lt, Int.not_le] at c1p
    rw [allFrom_step _ (by omega)] at hI13
    refine G_skip ?_
    refine GQ_sub (.cons (k := 1) rfl (.cons (k := 8) rfl (.cons (k := 9) rfl (.nil _)))) ?_
    refine GQ_then ?_
    refine G_seq ?_
    refine G_block ?_
    refine G_seq ?_
    refine G_region ?_
    refine GL_step rfl (PS_indexAA Thing.fl Tryd.underlying29 tya28 rfl rfl (by omega) (by omega)) ?_
    refine GL_alloc rfl zv28 rfl (fun b2 => ?_)
    refine GL_unit (PU_store (Lens.id Thing.fl.len Thing.fl.one) rfl rfl rfl sz28 rfl .head) ?_
    refine GL_nil ?_
    refine GQ_sub (.cons (k := 1) rfl (.cons (k := 6) rfl (.cons (k := 8) rfl (.cons (k := 9) rfl (.nil _))))) ?_
    refine GQ_then ?_
    refine G_seq ?_
    refine G_region ?_
    refine GL_step rfl (PS_fieldAddr fa28_1 rfl) ?_
    refine GL_step rfl (PS_load rfl tys3 (.head _) Thing.l1 rfl rfl) ?_
    refine GL_step rfl (PS_eql rfl rfl) ?_
    refine GL_step rfl (PS_move rfl) ?_
    refine GL_gt (t := 15) rfl rfl rfl (fun q => PS_fieldAddr fa28_4 rfl) ?_
    refine GL_gt (t := 15) rfl rfl rfl (fun q => PS_load (cvE rfl q) tys4 (.head _) Thing.l4 rfl rfl) ?_
    refine GL_step rfl (PS_and rfl rfl (fun h => h)) ?_
    refine GL_step rfl (PS_move rfl) ?_
    refine GL_gt (t := 19) rfl rfl rfl (fun q => PS_fieldAddr fa28_2 rfl) ?_
    refine GL_gt (t := 19) rfl rfl rfl (fun q => PS_load (cvE rfl q) tys3 (.head _) Thing.l2 rfl rfl) ?_
    refine GL_gt (t := 19) rfl rfl rfl (fun q => PS_eql (cvE rfl q) rfl) ?_
    refine GL_step rfl (PS_and rfl rfl (fun h => h)) ?_
    refine GL_step rfl (PS_move rfl) ?_
    refine GL_gt (t := 24) rfl rfl rfl (fun q => PS_fieldAddr fa28_3 rfl) ?_
    refine GL_gt (t := 24) rfl rfl rfl (fun q => PS_load (cvE rfl q) tys3 (.head _) Thing.l3 rfl rfl) ?_
    refine GL_gt (t := 24) rfl rfl rfl (fun q => PS_move rfl) ?_
    refine GL_gt (t := 24) rfl rfl rfl (fun q => PS_eql (cvE rfl q) (cvE rfl q)) ?_
    refine GL_step rfl (PS_and rfl rfl (fun h => h)) ?_
    refine GL_nil ?_
    refine GQ_sub (.cons (k := 1) rfl (.cons (k := 8) rfl (.cons (k := 9) rfl (.cons (k := 29) rfl (.nil _))))) ?_
    refine GQ_then ?_
    refine G_cond rfl (fun c2 => ?_) (fun c2 => ?_)
    · skip
      have c2p := c2
      try simp only [decide_eq_true_eq, decide_eq_false_iff_not, Bool.not_eq_true', Bool.not_eq_false', Bool.or_eq_true, Bool.and_eq_true, Bool.or_eq_false_iff, Bool.and_eq_false_iff, Int.not_lt, Int.not_le] at c2p
      refine G_seq ?_
      refine G_region ?_
      refine GL_step rfl (PS_assign rfl) ?_
      refine GL_nil ?_
      refine GQ_sub (.cons (k := 4) rfl (.nil _)) ?_
      refine GQ_then ?_
      refine G_ret ?_
      refine GQ_block_ret ?_
      refine GQ_then_ret ?_
      refine GQ_then_ret ?_
      refine GQ_block_ret ?_
      refine GQ_then_ret ?_
      refine GQ_ret rfl (.tmp rfl .nil) ?_
      intro w1 hS; refine ⟨congrArg Value.bool ?_, hS.toKeep⟩; rw [Land.hidden, hI13, show X.cloaked b k = true from c2]; rfl
    · skip
      have c2p := c2
      try simp only [decide_eq_true_eq, decide_eq_false_iff_not, Bool.not_eq_true', Bool.not_eq_false', Bool.or_eq_true, Bool.and_eq_true, Bool.or_eq_false_iff, Bool.and_eq_false_iff, Int.not_lt, Int.not_le] at c2p
      refine G_skip ?_
      refine GQ_sub (.cons (k := 1) rfl (.cons (k := 8) rfl (.cons (k := 9) rfl (.nil _)))) ?_
      refine GQ_block ?_
      refine GQ_then ?_
      refine G_region ?_
      refine GL_step rfl (PS_add rfl rfl (IntWalk.i64_in _ (by omega))) ?_
      refine GL_step rfl (PS_move rfl) ?_
      refine GL_nil ?_
      refine GQ_sub (.cons (k := 1) rfl (.cons (k := 8) rfl (.cons (k := 9) rfl (.nil _)))) ?_
      refine GQ_next1_ (k + 1) ?_ ?_ (.cons (k := 9) rfl (.cons (k := 1) rfl (.cons (k := 8) rfl (.nil _)))) (.cons _ (.refl _))
      · exact ⟨by omega, by omega, by rw [hI13, show X.cloaked b k = false from c2]; rfl⟩
      · omega
  · skip
    have c1p := c1
    try simp only [decide_eq_true_eq, decide_eq_false_iff_not, Bool.not_eq_true', Bool.not_eq_false', Bool.or_eq_true, Bool.and_eq_true, Bool.or_eq_false_iff, Bool.and_eq_false_iff, Int.not_lt, Int.not_le] at c1p
    obtain rfl : k = 9 := by omega
    refine G_exit ?_
    refine GQ_then_exit ?_
    refine GQ_then_exit ?_
    refine GQ_block_exit ?_
    refine GQ_sub (.nil _) ?_
    refine GQ_then ?_
    refine G_seq ?_
    refine G_region ?_
    refine GL_step rfl (PS_assign rfl) ?_
    refine GL_nil ?_
    refine GQ_then ?_
    refine G_ret ?_
    refine GQ_ret rfl (.tmp rfl .nil) ?_
    intro w1 hS; refine ⟨congrArg Value.bool ?_, hS.toKeep⟩; rw [Land.hidden, hI13]; rfl
theorem sense_Sees_spec (X : Land) (a b : Int) (w : World) : Ret Tryd.prog 12 #[.agg X.enc.toArray, .int .i64 a, .int .i64 b] w fun v w' => v = .bool (X.sees a b) ∧ Keep w w' := by
  refine Ret_body [] [] Tryd.func12 rfl rfl rfl (St.start w []) ?_
  refine G_seq ?_
  refine G_region ?_
  refine GL_box rfl rfl rfl (fun b1 => ?_)
  refine GL_step rfl (PS_assign rfl) ?_
  refine GL_nil ?_
  refine GQ_sub (.cons (k := 1) rfl (.cons (k := 2) rfl (.cons (k := 3) rfl (.nil _)))) ?_
  refine GQ_then ?_
  refine G_seq ?_
  refine G_seq ?_
  refine G_region ?_
  refine GL_step rfl (PS_loadA rfl tya34 (.head _) (Lens.id Land.fl.len Land.fl.one) rfl) ?_
  refine GL_step rfl (PS_move rfl) ?_
  refine GL_pure rfl cf24 (.cons rfl (.cons rfl .nil)) (fun w hS => sense_being_spec _ _ w) ?_
  refine GL_step rfl (PS_not rfl) ?_
  refine GL_step rfl (PS_move rfl) ?_
  refine GL_gf (t := 13) rfl rfl rfl (fun q => PS_loadA rfl tya34 (.head _) (Lens.id Land.fl.len Land.fl.one) rfl) ?_
  refine GL_gf (t := 13) rfl rfl rfl (fun q => PS_move rfl) ?_
  refine GL_pgf (t := 13) rfl rfl rfl (fun q => by have q1 := q; (try simp at q1); exact PC_of cf24 (.cons (cvE rfl (by rw [q]; rfl)) (.cons (cvE rfl (by rw [q]; rfl)) .nil)) (fun w hS => sense_being_spec _ _ w)) ?_
  refine GL_gf (t := 13) rfl rfl rfl (fun q => PS_not (cvE rfl (by rw [q]; rfl))) ?_
  refine GL_step rfl (PS_or rfl rfl (fun h => by rw [h]; rfl)) ?_
  refine GL_nil ?_
  refine GQ_sub (.cons (k := 1) rfl (.cons (k := 2) rfl (.cons (k := 3) rfl (.cons (k := 18) rfl (.nil _))))) ?_
  refine GQ_then ?_
  refine G_cond rfl (fun c1 => ?_) (fun c1 => ?_)
  · skip
    have c1p := c1
    try simp only [decide_eq_true_eq, decide_eq_false_iff_not, Bool.not_eq_true', Bool.not_eq_false', Bool.or_eq_true, Bool.and_eq_true, Bool.or_eq_false_iff, Bool.and_eq_false_iff, Int.not_lt, Int.not_le] at c1p
    refine G_seq ?_
    refine G_region ?_
    refine GL_step rfl (PS_assign rfl) ?_
    refine GL_nil ?_
    refine GQ_sub (.cons (k := 6) rfl (.nil _)) ?_
    refine GQ_then ?_
    refine G_ret ?_
    refine GQ_then_ret ?_
    refine GQ_ret rfl (.tmp rfl .nil) ?_
    intro w1 hS; refine ⟨congrArg Value.bool ?_, hS.toKeep⟩; rw [show X.sees a b = _ from (if_t c1)]
  · skip
    have c1p := c1
    try simp only [decide_eq_true_eq, decide_eq_false_iff_not, Bool.not_eq_true', Bool.not_eq_false', Bool.or_eq_true, Bool.and_eq_true, Bool.or_eq_false_iff, Bool.and_eq_false_iff, Int.not_lt, Int.not_le] at c1p
    have hr : (0 ≤ a ∧ a < 6) ∧ 0 ≤ b ∧ b < 6 := by simp at c1; have h1 := Land.being_rng c1.1; have h2 := Land.being_rng c1.2; omega
    refine G_skip ?_
    refine GQ_sub (.cons (k := 1) rfl (.cons (k := 2) rfl (.cons (k := 3) rfl (.nil _)))) ?_
    refine GQ_then ?_
    refine G_seq ?_
    refine G_seq ?_
    refine G_region ?_
    refine GL_step rfl (PS_move rfl) ?_
    refine GL_step rfl (PS_move rfl) ?_
    refine GL_step rfl (PS_eql rfl rfl) ?_
    refine GL_nil ?_
    refine GQ_sub (.cons (k := 1) rfl (.cons (k := 2) rfl (.cons (k := 3) rfl (.cons (k := 21) rfl (.nil _))))) ?_
    refine GQ_then ?_
    refine G_cond rfl (fun c2 => ?_) (fun c2 => ?_)
    · skip
      have c2p := c2
      try simp only [decide_eq_true_eq, decide_eq_false_iff_not, Bool.not_eq_true', Bool.not_eq_false', Bool.or_eq_true, Bool.and_eq_true, Bool.or_eq_false_iff, Bool.and_eq_false_iff, Int.not_lt, Int.not_le] at c2p
      refine G_seq ?_
      refine G_region ?_
      refine GL_step rfl (PS_assign rfl) ?_
      refine GL_nil ?_
      refine GQ_sub (.cons (k := 6) rfl (.nil _)) ?_
      refine GQ_then ?_
      refine G_ret ?_
      refine GQ_then_ret ?_
      refine GQ_ret rfl (.tmp rfl .nil) ?_
      intro w1 hS; refine ⟨congrArg Value.bool ?_, hS.toKeep⟩; rw [show X.sees a b = _ from ((if_f c1).trans (if_t c2))]
    · skip
      have c2p := c2
      try simp only [decide_eq_true_eq, decide_eq_false_iff_not, Bool.not_eq_true', Bool.not_eq_false', Bool.or_eq_true, Bool.and_eq_true, Bool.or_eq_false_iff, Bool.and_eq_false_iff, Int.not_lt, Int.not_le] at c2p
      refine G_skip ?_
      refine GQ_sub (.cons (k := 1) rfl (.cons (k := 2) rfl (.cons (k := 3) rfl (.nil _)))) ?_
      refine GQ_then ?_
      refine G_seq ?_
      refine G_planN (N := 12) [0, 0, 3, 7, 0, 0, 48, 112, 0, 0, 783, 2047] mix (by kernel_rfl) rfl ?_
      refine Plan_float 0 rfl rfl (by kernel_rfl) (OK_s (EX_s (PS_move rfl))) ?_
      refine Plan_float 1 rfl rfl (by kernel_rfl) (OK_s (EX_s (PS_fieldAddr fa34_2 rfl))) ?_
      refine Plan_float 2 rfl rfl (by kernel_rfl) (OK_s (EX_s (PS_indexAddr ia32 rfl rfl (by omega) (by omega)))) ?_
      refine Plan_float 3 rfl rfl (by kernel_rfl) (OK_s (EX_s (PS_loadA rfl tya31 (.head _) (Land.l2.comp (Lens.arr (n := 6) Being.fl (by omega) (by omega))) rfl))) ?_
      refine Plan_float 4 rfl rfl (by kernel_rfl) (OK_s (EX_s (PS_move rfl))) ?_
      refine Plan_float 5 rfl rfl (by kernel_rfl) (OK_s (EX_s (PS_fieldAddr fa34_2 rfl))) ?_
      refine Plan_float 6 rfl rfl (by kernel_rfl) (OK_s (EX_s (PS_indexAddr ia32 rfl rfl (by omega) (by omega)))) ?_
      refine Plan_float 7 rfl rfl (by kernel_rfl) (OK_s (EX_s (PS_loadA rfl tya31 (.head _) (Land.l2.comp (Lens.arr (n := 6) Being.fl (by omega) (by omega))) rfl))) ?_
      refine Plan_two 8 9 rfl rfl (by kernel_rfl) ?_ ?_
      · skip
        refine GL_alloc rfl zv31 rfl (fun b2 => ?_)
        refine GL_hand rfl ⟨?_, ?_⟩
        · exact (Pend_okv rfl (OK_s (EX_s (PS_loadA rfl tya31 (.tail _ (.head _)) (Land.l2.comp (Lens.arr (n := 6) Being.fl (by omega) (by omega))) rfl))) rfl rfl (Pend_okv rfl (OK_s (EX_s (PS_indexAddr ia32 rfl rfl (by omega) (by omega)))) rfl rfl (Pend_okv rfl (OK_s (EX_s (PS_fieldAddr fa34_2 rfl))) rfl rfl (Pend_okv rfl (OK_s (EX_s (PS_move rfl))) rfl rfl (Pend_okv rfl (OK_s (EX_s (PS_loadA rfl tya31 (.tail _ (.head _)) (Land.l2.comp (Lens.arr (n := 6) Being.fl (by omega) (by omega))) rfl))) rfl rfl (Pend_okv rfl (OK_s (EX_s (PS_indexAddr ia32 rfl rfl (by omega) (by omega)))) rfl rfl (Pend_okv rfl (OK_s (EX_s (PS_fieldAddr fa34_2 rfl))) rfl rfl (Pend_okv rfl (OK_s (EX_s (PS_move rfl))) rfl rfl Pend_nil))))))))
        refine Plan_chain 9 rfl (by kernel_rfl) ?_
        refine GL_alloc rfl zv31 rfl (fun b3 => ?_)
        refine GL_hand rfl ⟨?_, ?_⟩
        · exact (Pend_okv rfl (OK_s (EX_s (PS_loadA rfl tya31 (.tail _ (.tail _ (.head _))) (Land.l2.comp (Lens.arr (n := 6) Being.fl (by omega) (by omega))) rfl))) rfl rfl (Pend_okv rfl (OK_s (EX_s (PS_indexAddr ia32 rfl rfl (by omega) (by omega)))) rfl rfl (Pend_okv rfl (OK_s (EX_s (PS_fieldAddr fa34_2 rfl))) rfl rfl (Pend_okv rfl (OK_s (EX_s (PS_move rfl))) rfl rfl (Pend_okv rfl (OK_s (EX_s (PS_loadA rfl tya31 (.tail _ (.tail _ (.head _))) (Land.l2.comp (Lens.arr (n := 6) Being.fl (by omega) (by omega))) rfl))) rfl rfl (Pend_okv rfl (OK_s (EX_s (PS_indexAddr ia32 rfl rfl (by omega) (by omega)))) rfl rfl (Pend_okv rfl (OK_s (EX_s (PS_fieldAddr fa34_2 rfl))) rfl rfl (Pend_okv rfl (OK_s (EX_s (PS_move rfl))) rfl rfl Pend_nil))))))))
        refine Plan_chain 10 rfl (by kernel_rfl) ?_
        refine GL_unit (PU_store (Lens.id Being.fl.len Being.fl.one) rfl rfl rfl sz31 rfl (.tail .head)) ?_
        refine GL_hand0 rfl ⟨?_, ?_⟩
        · exact (Pend_okv rfl (OK_s (EX_s (PS_loadA rfl tya31 (.tail _ (.tail _ (.head _))) (Land.l2.comp (Lens.arr (n := 6) Being.fl (by omega) (by omega))) rfl))) rfl rfl (Pend_okv rfl (OK_s (EX_s (PS_indexAddr ia32 rfl rfl (by omega) (by omega)))) rfl rfl (Pend_okv rfl (OK_s (EX_s (PS_fieldAddr fa34_2 rfl))) rfl rfl (Pend_okv rfl (OK_s (EX_s (PS_move rfl))) rfl rfl (Pend_skip (by kernel_rfl) (Pend_skip (by kernel_rfl) (Pend_skip (by kernel_rfl) (Pend_skip (by kernel_rfl) Pend_nil))))))))
        refine Plan_chain 11 rfl (by kernel_rfl) ?_
        refine GL_unit (PU_store (Lens.id Being.fl.len Being.fl.one) rfl rfl rfl sz31 rfl .head) ?_
        refine GL_hand0 rfl ⟨?_, ?_⟩
        · exact (Pend_skip (by kernel_rfl) (Pend_skip (by kernel_rfl) (Pend_skip (by kernel_rfl) (Pend_skip (by kernel_rfl) (Pend_skip (by kernel_rfl) (Pend_skip (by kernel_rfl) (Pend_skip (by kernel_rfl) (Pend_skip (by kernel_rfl) Pend_nil))))))))
        refine Plan_end (by kernel_rfl) ?_
        refine GQ_sub (.cons (k := 2) rfl (.cons (k := 3) rfl (.cons (k := 7) rfl (.cons (k := 8) rfl (.nil _))))) ?_
        refine GQ_then ?_
        refine G_seq ?_
        refine G_region ?_
        refine GL_step rfl (PS_fieldAddr fa31_3 rfl) ?_
        refine GL_step rfl (PS_load rfl tys3 (.tail _ (.head _)) Being.l3 rfl rfl) ?_
        refine GL_step rfl (PS_fieldAddr fa31_3 rfl) ?_
        refine GL_step rfl (PS_load rfl tys3 (.head _) Being.l3 rfl rfl) ?_
        refine GL_step rfl (PS_eql rfl rfl) ?_
        refine GL_step rfl (PS_move rfl) ?_
        refine GL_gt (t := 35) rfl rfl rfl (fun q => PS_loadA rfl tya34 (.tail _ (.tail _ (.head _))) (Lens.id Land.fl.len Land.fl.one) rfl) ?_
        refine GL_gt (t := 35) rfl rfl rfl (fun q => PS_fieldAddr fa31_3 rfl) ?_
        refine GL_gt (t := 35) rfl rfl rfl (fun q => PS_load (cvE rfl q) tys3 (.tail _ (.head _)) Being.l3 rfl rfl) ?_
        refine GL_pgt (t := 35) rfl rfl rfl (fun q => PC_of cf8 (.cons (cvE rfl q) (.cons (cvE rfl q) .nil)) (fun w hS => sense_Bright_spec _ _ w)) ?_
        refine GL_step rfl (PS_and rfl rfl (fun h => h)) ?_
        refine GL_step rfl (PS_move rfl) ?_
        refine GL_gt (t := 41) rfl rfl rfl (fun q => PS_fieldAddr fa31_2 rfl) ?_
        refine GL_gt (t := 41) rfl rfl rfl (fun q => PS_load (cvE rfl q) tys4 (.tail _ (.head _)) Being.l2 rfl rfl) ?_
        refine GL_gt (t := 41) rfl rfl rfl (fun q => PS_move (cvE rfl q)) ?_
        refine GL_gfc (t := 44) rfl rfl rfl (fun qc q => PS_loadA rfl tya34 (.tail _ (.tail _ (.head _))) (Lens.id Land.fl.len Land.fl.one) rfl) ?_
        refine GL_gfc (t := 44) rfl rfl rfl (fun qc q => PS_move rfl) ?_
        refine GL_pgfc (t := 44) rfl rfl rfl (fun qc q => by have q1 := q; have qc1 := qc; (try simp at q1 qc1); exact PC_of cf10 (.cons (cvE rfl (by rw [qc, q]; rfl)) (.cons (cvE rfl (by rw [qc, q]; rfl)) .nil)) (fun w hS => sense_Hidden_spec _ _ w)) ?_
        refine GL_gfc (t := 44) rfl rfl rfl (fun qc q => PS_not (cvE rfl (by rw [qc, q]; rfl))) ?_
        refine GL_gt (t := 41) rfl rfl rfl (fun q => PS_or (cvE rfl q) rfl (fun h => by rw [q, h]; rfl)) ?_
        refine GL_step rfl (PS_and rfl rfl (fun h => h)) ?_
        refine GL_step rfl (PS_assign rfl) ?_
        refine GL_nil ?_
        refine GQ_sub (.cons (k := 6) rfl (.nil _)) ?_
        refine GQ_then ?_
        refine G_ret ?_
        refine GQ_ret rfl (.tmp rfl .nil) ?_
        intro w1 hS; refine ⟨congrArg Value.bool ?_, hS.toKeep⟩; rw [show X.sees a b = _ from ((if_f c1).trans (if_f c2))]
      · skip
        refine GL_alloc rfl zv31 rfl (fun b4 => ?_)
        refine GL_hand rfl ⟨?_, ?_⟩
        · exact (Pend_okv rfl (OK_s (EX_s (PS_loadA rfl tya31 (.tail _ (.head _)) (Land.l2.comp (Lens.arr (n := 6) Being.fl (by omega) (by omega))) rfl))) rfl rfl (Pend_okv rfl (OK_s (EX_s (PS_indexAddr ia32 rfl rfl (by omega) (by omega)))) rfl rfl (Pend_okv rfl (OK_s (EX_s (PS_fieldAddr fa34_2 rfl))) rfl rfl (Pend_okv rfl (OK_s (EX_s (PS_move rfl))) rfl rfl (Pend_okv rfl (OK_s (EX_s (PS_loadA rfl tya31 (.tail _ (.head _)) (Land.l2.comp (Lens.arr (n := 6) Being.fl (by omega) (by omega))) rfl))) rfl rfl (Pend_okv rfl (OK_s (EX_s (PS_indexAddr ia32 rfl rfl (by omega) (by omega)))) rfl rfl (Pend_okv rfl (OK_s (EX_s (PS_fieldAddr fa34_2 rfl))) rfl rfl (Pend_okv rfl (OK_s (EX_s (PS_move rfl))) rfl rfl Pend_nil))))))))
        refine Plan_chain 8 rfl (by kernel_rfl) ?_
        refine GL_alloc rfl zv31 rfl (fun b5 => ?_)
        refine GL_hand rfl ⟨?_, ?_⟩
        · exact (Pend_okv rfl (OK_s (EX_s (PS_loadA rfl tya31 (.tail _ (.tail _ (.head _))) (Land.l2.comp (Lens.arr (n := 6) Being.fl (by omega) (by omega))) rfl))) rfl rfl (Pend_okv rfl (OK_s (EX_s (PS_indexAddr ia32 rfl rfl (by omega) (by omega)))) rfl rfl (Pend_okv rfl (OK_s (EX_s (PS_fieldAddr fa34_2 rfl))) rfl rfl (Pend_okv rfl (OK_s (EX_s (PS_move rfl))) rfl rfl (Pend_okv rfl (OK_s (EX_s (PS_loadA rfl tya31 (.tail _ (.tail _ (.head _))) (Land.l2.comp (Lens.arr (n := 6) Being.fl (by omega) (by omega))) rfl))) rfl rfl (Pend_okv rfl (OK_s (EX_s (PS_indexAddr ia32 rfl rfl (by omega) (by omega)))) rfl rfl (Pend_okv rfl (OK_s (EX_s (PS_fieldAddr fa34_2 rfl))) rfl rfl (Pend_okv rfl (OK_s (EX_s (PS_move rfl))) rfl rfl Pend_nil))))))))
        refine Plan_chain 10 rfl (by kernel_rfl) ?_
        refine GL_unit (PU_store (Lens.id Being.fl.len Being.fl.one) rfl rfl rfl sz31 rfl .head) ?_
        refine GL_hand0 rfl ⟨?_, ?_⟩
        · exact (Pend_okv rfl (OK_s (EX_s (PS_loadA rfl tya31 (.tail _ (.tail _ (.head _))) (Land.l2.comp (Lens.arr (n := 6) Being.fl (by omega) (by omega))) rfl))) rfl rfl (Pend_okv rfl (OK_s (EX_s (PS_indexAddr ia32 rfl rfl (by omega) (by omega)))) rfl rfl (Pend_okv rfl (OK_s (EX_s (PS_fieldAddr fa34_2 rfl))) rfl rfl (Pend_okv rfl (OK_s (EX_s (PS_move rfl))) rfl rfl (Pend_skip (by kernel_rfl) (Pend_skip (by kernel_rfl) (Pend_skip (by kernel_rfl) (Pend_skip (by kernel_rfl) Pend_nil))))))))
        refine Plan_chain 11 rfl (by kernel_rfl) ?_
        refine GL_unit (PU_store (Lens.id Being.fl.len Being.fl.one) rfl rfl rfl sz31 rfl (.tail .head)) ?_
        refine GL_hand0 rfl ⟨?_, ?_⟩
        · exact (Pend_skip (by kernel_rfl) (Pend_skip (by kernel_rfl) (Pend_skip (by kernel_rfl) (Pend_skip (by kernel_rfl) (Pend_skip (by kernel_rfl) (Pend_skip (by kernel_rfl) (Pend_skip (by kernel_rfl) (Pend_skip (by kernel_rfl) Pend_nil))))))))
        refine Plan_end (by kernel_rfl) ?_
        refine GQ_sub (.cons (k := 2) rfl (.cons (k := 3) rfl (.cons (k := 7) rfl (.cons (k := 8) rfl (.nil _))))) ?_
        refine GQ_then ?_
        refine G_seq ?_
        refine G_region ?_
        refine GL_step rfl (PS_fieldAddr fa31_3 rfl) ?_
        refine GL_step rfl (PS_load rfl tys3 (.head _) Being.l3 rfl rfl) ?_
        refine GL_step rfl (PS_fieldAddr fa31_3 rfl) ?_
        refine GL_step rfl (PS_load rfl tys3 (.tail _ (.head _)) Being.l3 rfl rfl) ?_
        refine GL_step rfl (PS_eql rfl rfl) ?_
        refine GL_step rfl (PS_move rfl) ?_
        refine GL_gt (t := 35) rfl rfl rfl (fun q => PS_loadA rfl tya34 (.tail _ (.tail _ (.head _))) (Lens.id Land.fl.len Land.fl.one) rfl) ?_
        refine GL_gt (t := 35) rfl rfl rfl (fun q => PS_fieldAddr fa31_3 rfl) ?_
        refine GL_gt (t := 35) rfl rfl rfl (fun q => PS_load (cvE rfl q) tys3 (.head _) Being.l3 rfl rfl) ?_
        refine GL_pgt (t := 35) rfl rfl rfl (fun q => PC_of cf8 (.cons (cvE rfl q) (.cons (cvE rfl q) .nil)) (fun w hS => sense_Bright_spec _ _ w)) ?_
        refine GL_step rfl (PS_and rfl rfl (fun h => h)) ?_
        refine GL_step rfl (PS_move rfl) ?_
        refine GL_gt (t := 41) rfl rfl rfl (fun q => PS_fieldAddr fa31_2 rfl) ?_
        refine GL_gt (t := 41) rfl rfl rfl (fun q => PS_load (cvE rfl q) tys4 (.head _) Being.l2 rfl rfl) ?_
        refine GL_gt (t := 41) rfl rfl rfl (fun q => PS_move (cvE rfl q)) ?_
        refine GL_gfc (t := 44) rfl rfl rfl (fun qc q => PS_loadA rfl tya34 (.tail _ (.tail _ (.head _))) (Lens.id Land.fl.len Land.fl.one) rfl) ?_
        refine GL_gfc (t := 44) rfl rfl rfl (fun qc q => PS_move rfl) ?_
        refine GL_pgfc (t := 44) rfl rfl rfl (fun qc q => by have q1 := q; have qc1 := qc; (try simp at q1 qc1); exact PC_of cf10 (.cons (cvE rfl (by rw [qc, q]; rfl)) (.cons (cvE rfl (by rw [qc, q]; rfl)) .nil)) (fun w hS => sense_Hidden_spec _ _ w)) ?_
        refine GL_gfc (t := 44) rfl rfl rfl (fun qc q => PS_not (cvE rfl (by rw [qc, q]; rfl))) ?_
        refine GL_gt (t := 41) rfl rfl rfl (fun q => PS_or (cvE rfl q) rfl (fun h => by rw [q, h]; rfl)) ?_
        refine GL_step rfl (PS_and rfl rfl (fun h => h)) ?_
        refine GL_step rfl (PS_assign rfl) ?_
        refine GL_nil ?_
        refine GQ_sub (.cons (k := 6) rfl (.nil _)) ?_
        refine GQ_then ?_
        refine G_ret ?_
        refine GQ_ret rfl (.tmp rfl .nil) ?_
        intro w1 hS; refine ⟨congrArg Value.bool ?_, hS.toKeep⟩; rw [show X.sees a b = _ from ((if_f c1).trans (if_f c2))]
theorem sense_loud_spec (k : Int) (w : World) : Ret Tryd.prog 26 #[.int .i64 k] w fun v w' => v = .bool (Land.loud k) ∧ Keep w w' := by
  refine Ret_body [] [] Tryd.func26 rfl rfl rfl (St.start w []) ?_
  refine G_seq ?_
  refine G_region ?_
  refine GL_step rfl (PS_assign rfl) ?_
  refine GL_nil ?_
  refine GQ_sub (.cons (k := 0) rfl (.nil _)) ?_
  refine GQ_then ?_
  refine G_seq ?_
  refine G_region ?_
  refine GL_step rfl (PS_move rfl) ?_
  refine GL_step rfl (PS_eql rfl rfl) ?_
  refine GL_step rfl (PS_move rfl) ?_
  refine GL_gf (t := 5) rfl rfl rfl (fun q => PS_move rfl) ?_
  refine GL_gf (t := 5) rfl rfl rfl (fun q => PS_eql (cvE rfl (by rw [q]; rfl)) rfl) ?_
  refine GL_step rfl (PS_or rfl rfl (fun h => by rw [h]; rfl)) ?_
  refine GL_step rfl (PS_move rfl) ?_
  refine GL_gf (t := 9) rfl rfl rfl (fun q => PS_move rfl) ?_
  refine GL_gf (t := 9) rfl rfl rfl (fun q => PS_eql (cvE rfl (by rw [q]; rfl)) rfl) ?_
  refine GL_step rfl (PS_or rfl rfl (fun h => by rw [h]; rfl)) ?_
  refine GL_step rfl (PS_assign rfl) ?_
  refine GL_nil ?_
  refine GQ_sub (.cons (k := 2) rfl (.nil _)) ?_
  refine GQ_then ?_
  refine G_ret ?_
  refine GQ_ret rfl (.tmp rfl .nil) ?_
  intro w1 hS; refine ⟨?_, hS.toKeep⟩; rfl
theorem sense_Perceives_spec (X : Land) (b : Int) (e : Ing.Event) (w : World) : Ret Tryd.prog 14 #[.agg X.enc.toArray, .int .i64 b, .agg e.enc.toArray] w fun v w' => v = .int .i64 (X.perceives b e) ∧ Keep w w' := by
  refine Ret_body [] [] Tryd.func14 rfl rfl rfl (St.start w []) ?_
  refine G_seq ?_
  refine G_region ?_
  refine GL_box rfl rfl rfl (fun b1 => ?_)
  refine GL_box rfl rfl rfl (fun b2 => ?_)
  refine GL_step rfl (PS_assign rfl) ?_
  refine GL_nil ?_
  refine GQ_sub (.cons (k := 1) rfl (.cons (k := 3) rfl (.cons (k := 5) rfl (.nil _)))) ?_
  refine GQ_then ?_
  refine G_seq ?_
  refine G_block ?_
  refine G_seq ?_
  refine G_region ?_
  refine GL_step rfl (PS_loadA rfl tya34 (.tail _ (.head _)) (Lens.id Land.fl.len Land.fl.one) rfl) ?_
  refine GL_step rfl (PS_move rfl) ?_
  refine GL_pure rfl cf24 (.cons rfl (.cons rfl .nil)) (fun w hS => sense_being_spec _ _ w) ?_
  refine GL_step rfl (PS_not rfl) ?_
  refine GL_step rfl (PS_assign rfl) ?_
  refine GL_nil ?_
  refine GQ_sub (.cons (k := 1) rfl (.cons (k := 3) rfl (.cons (k := 5) rfl (.cons (k := 8) rfl (.nil _))))) ?_
  refine GQ_then ?_
  refine G_cond rfl (fun c1 => ?_) (fun c1 => ?_)
  · skip
    have c1p := c1
    try simp only [decide_eq_true_eq, decide_eq_false_iff_not, Bool.not_eq_true', Bool.not_eq_false', Bool.or_eq_true, Bool.and_eq_true, Bool.or_eq_false_iff, Bool.and_eq_false_iff, Int.not_lt, Int.not_le] at c1p
    refine G_seq ?_
    refine G_region ?_
    refine GL_step rfl (PS_assign rfl) ?_
    refine GL_nil ?_
    refine GQ_sub (.cons (k := 6) rfl (.nil _)) ?_
    refine GQ_then ?_
    refine G_ret ?_
    refine GQ_block_ret ?_
    refine GQ_then_ret ?_
    refine GQ_ret rfl (.tmp rfl .nil) ?_
    intro w1 hS; refine ⟨?_, hS.toKeep⟩; rw [show X.perceives b e = _ from (if_t c1)]; rfl
  · skip
    have c1p := c1
    try simp only [decide_eq_true_eq, decide_eq_false_iff_not, Bool.not_eq_true', Bool.not_eq_false', Bool.or_eq_true, Bool.and_eq_true, Bool.or_eq_false_iff, Bool.and_eq_false_iff, Int.not_lt, Int.not_le] at c1p
    have hr : 0 ≤ b ∧ b < 6 := by simp at c1; have h1 := Land.being_rng c1; omega
    refine G_seq ?_
    refine G_region ?_
    refine GL_step rfl (PS_move rfl) ?_
    refine GL_step rfl (PS_fieldAddr fa36_2 rfl) ?_
    refine GL_step rfl (PS_load rfl tys3 (.head _) Ing.Event.l2 rfl rfl) ?_
    refine GL_step rfl (PS_eql rfl rfl) ?_
    refine GL_step rfl (PS_assign rfl) ?_
    refine GL_nil ?_
    refine GQ_sub (.cons (k := 1) rfl (.cons (k := 3) rfl (.cons (k := 5) rfl (.cons (k := 13) rfl (.nil _))))) ?_
    refine GQ_then ?_
    refine G_cond rfl (fun c2 => ?_) (fun c2 => ?_)
    · skip
      have c2p := c2
      try simp only [decide_eq_true_eq, decide_eq_false_iff_not, Bool.not_eq_true', Bool.not_eq_false', Bool.or_eq_true, Bool.and_eq_true, Bool.or_eq_false_iff, Bool.and_eq_false_iff, Int.not_lt, Int.not_le] at c2p
      refine G_seq ?_
      refine G_seq ?_
      refine G_region ?_
      refine GL_step rfl (PS_fieldAddr fa36_3 rfl) ?_
      refine GL_step rfl (PS_load rfl tys3 (.head _) Ing.Event.l3 rfl rfl) ?_
      refine GL_step rfl (PS_lss rfl rfl) ?_
      refine GL_step rfl (PS_move rfl) ?_
      refine GL_gf (t := 21) rfl rfl rfl (fun q => PS_fieldAddr fa36_3 rfl) ?_
      refine GL_gf (t := 21) rfl rfl rfl (fun q => PS_load (cvE rfl (by rw [q]; rfl)) tys3 (.head _) Ing.Event.l3 rfl rfl) ?_
      refine GL_gf (t := 21) rfl rfl rfl (fun q => PS_geq (cvE rfl (by rw [q]; rfl)) rfl) ?_
      refine GL_step rfl (PS_or rfl rfl (fun h => by rw [h]; rfl)) ?_
      refine GL_step rfl (PS_move rfl) ?_
      refine GL_gf (t := 26) rfl rfl rfl (fun q => PS_loadA rfl tya34 (.tail _ (.head _)) (Lens.id Land.fl.len Land.fl.one) rfl) ?_
      refine GL_gf (t := 26) rfl rfl rfl (fun q => PS_move rfl) ?_
      refine GL_gf (t := 26) rfl rfl rfl (fun q => PS_fieldAddr fa36_3 rfl) ?_
      refine GL_gf (t := 26) rfl rfl rfl (fun q => PS_load (cvE rfl (by rw [q]; rfl)) tys3 (.head _) Ing.Event.l3 rfl rfl) ?_
      refine GL_pgf (t := 26) rfl rfl rfl (fun q => by have q1 := q; (try simp at q1); exact PC_of cf12 (.cons (cvE rfl (by rw [q]; rfl)) (.cons (cvE rfl (by rw [q]; rfl)) (.cons (cvE rfl (by rw [q]; rfl)) .nil))) (fun w hS => sense_Sees_spec _ _ _ w)) ?_
      refine GL_step rfl (PS_or rfl rfl (fun h => by rw [h]; rfl)) ?_
      refine GL_nil ?_
      refine GQ_sub (.cons (k := 32) rfl (.nil _)) ?_
      refine GQ_then ?_
      refine G_cond rfl (fun c3 => ?_) (fun c3 => ?_)
      · skip
        have c3p := c3
        try simp only [decide_eq_true_eq, decide_eq_false_iff_not, Bool.not_eq_true', Bool.not_eq_false', Bool.or_eq_true, Bool.and_eq_true, Bool.or_eq_false_iff, Bool.and_eq_false_iff, Int.not_lt, Int.not_le] at c3p
        refine G_seq ?_
        refine G_region ?_
        refine GL_step rfl (PS_assign rfl) ?_
        refine GL_nil ?_
        refine GQ_sub (.cons (k := 6) rfl (.nil _)) ?_
        refine GQ_then ?_
        refine G_ret ?_
        refine GQ_then_ret ?_
        refine GQ_block_ret ?_
        refine GQ_then_ret ?_
        refine GQ_ret rfl (.tmp rfl .nil) ?_
        intro w1 hS; refine ⟨?_, hS.toKeep⟩; rw [show X.perceives b e = _ from ((if_f c1).trans ((if_t c2).trans (if_t c3)))]; rfl
      · skip
        have c3p := c3
        try simp only [decide_eq_true_eq, decide_eq_false_iff_not, Bool.not_eq_true', Bool.not_eq_false', Bool.or_eq_true, Bool.and_eq_true, Bool.or_eq_false_iff, Bool.and_eq_false_iff, Int.not_lt, Int.not_le] at c3p
        refine G_skip ?_
        refine GQ_sub (.nil _) ?_
        refine GQ_then ?_
        refine G_seq ?_
        refine G_region ?_
        refine GL_step rfl (PS_assign rfl) ?_
        refine GL_nil ?_
        refine GQ_then ?_
        refine G_ret ?_
        refine GQ_block_ret ?_
        refine GQ_then_ret ?_
        refine GQ_ret rfl (.tmp rfl .nil) ?_
        intro w1 hS; refine ⟨?_, hS.toKeep⟩; rw [show X.perceives b e = _ from ((if_f c1).trans ((if_t c2).trans (if_f c3)))]; rfl
    · skip
      have c2p := c2
      try simp only [decide_eq_true_eq, decide_eq_false_iff_not, Bool.not_eq_true', Bool.not_eq_false', Bool.or_eq_true, Bool.and_eq_true, Bool.or_eq_false_iff, Bool.and_eq_false_iff, Int.not_lt, Int.not_le] at c2p
      refine G_seq ?_
      refine G_planN (N := 14) [0, 1, 3, 7, 15, 15, 63, 127, 255, 15, 527, 2047, 4095, 8191] mix (by kernel_rfl) rfl ?_
      refine Plan_float 0 rfl rfl (by kernel_rfl) (OK_s (EX_s (PS_fieldAddr fa36_0 rfl))) ?_
      refine Plan_float 1 rfl rfl (by kernel_rfl) (OK_s (EX_s (PS_load rfl tys3 (.head _) Ing.Event.l0 rfl rfl))) ?_
      refine Plan_float 2 rfl rfl (by kernel_rfl) (OK_s (EX_s (PS_eql rfl rfl))) ?_
      refine Plan_float 3 rfl rfl (by kernel_rfl) (OK_s (EX_s (PS_move rfl))) ?_
      refine Plan_float 4 rfl rfl (by kernel_rfl) (OK_gf (t := 37) rfl rfl (fun q => EX_s (PS_move rfl))) ?_
      refine Plan_float 5 rfl rfl (by kernel_rfl) (OK_gf (t := 37) rfl rfl (fun q => EX_s (PS_fieldAddr fa34_2 rfl))) ?_
      refine Plan_float 6 rfl rfl (by kernel_rfl) (OK_gf (t := 37) rfl rfl (fun q => by have q1 := q; (try simp at q1); exact EX_s (PS_indexAddr ia32 (cvE rfl (by rw [q]; rfl)) (cvE rfl (by rw [q]; rfl)) (by omega) (by omega)))) ?_
      refine Plan_float 7 rfl rfl (by kernel_rfl) (OK_gf (t := 37) rfl rfl (fun q => EX_s (PS_fieldAddr fa31_3 (cvE rfl (by rw [q]; rfl))))) ?_
      refine Plan_float 8 rfl rfl (by kernel_rfl) (OK_gf (t := 37) rfl rfl (fun q => by have q1 := q; (try simp at q1); exact EX_s (PS_load (cvE rfl (by rw [q]; rfl)) tys3 (.tail _ (.head _)) ((Land.l2.comp (Lens.arr (n := 6) Being.fl (by omega) (by omega))).comp Being.l3) rfl rfl))) ?_
      refine Plan_float 9 rfl rfl (by kernel_rfl) (OK_gf (t := 37) rfl rfl (fun q => EX_s (PS_fieldAddr fa36_1 rfl))) ?_
      refine Plan_float 10 rfl rfl (by kernel_rfl) (OK_gf (t := 37) rfl rfl (fun q => EX_s (PS_load (cvE rfl (by rw [q]; rfl)) tys3 (.head _) Ing.Event.l1 rfl rfl))) ?_
      refine Plan_float 11 rfl rfl (by kernel_rfl) (OK_gf (t := 37) rfl rfl (fun q => EX_s (PS_neq (cvE rfl (by rw [q]; rfl)) (cvE rfl (by rw [q]; rfl))))) ?_
      refine Plan_float 12 rfl rfl (by kernel_rfl) (OK_s (EX_s (PS_or rfl rfl (fun h => by rw [h]; rfl)))) ?_
      refine Plan_float 13 rfl rfl (by kernel_rfl) (OK_s (EX_s (PS_assign rfl))) ?_
      refine Plan_end (by kernel_rfl) ?_
      refine GQ_sub (.cons (k := 1) rfl (.cons (k := 3) rfl (.cons (k := 5) rfl (.cons (k := 33) rfl (.nil _))))) ?_
      refine GQ_then ?_
      refine G_cond rfl (fun c4 => ?_) (fun c4 => ?_)
      · skip
        have c4p := c4
        try simp only [decide_eq_true_eq, decide_eq_false_iff_not, Bool.not_eq_true', Bool.not_eq_false', Bool.or_eq_true, Bool.and_eq_true, Bool.or_eq_false_iff, Bool.and_eq_false_iff, Int.not_lt, Int.not_le] at c4p
        refine G_seq ?_
        refine G_region ?_
        refine GL_step rfl (PS_assign rfl) ?_
        refine GL_nil ?_
        refine GQ_sub (.cons (k := 6) rfl (.nil _)) ?_
        refine GQ_then ?_
        refine G_ret ?_
        refine GQ_block_ret ?_
        refine GQ_then_ret ?_
        refine GQ_ret rfl (.tmp rfl .nil) ?_
        intro w1 hS; refine ⟨?_, hS.toKeep⟩; rw [show X.perceives b e = _ from ((if_f c1).trans ((if_f c2).trans (if_t c4)))]; rfl
      · skip
        have c4p := c4
        try simp only [decide_eq_true_eq, decide_eq_false_iff_not, Bool.not_eq_true', Bool.not_eq_false', Bool.or_eq_true, Bool.and_eq_true, Bool.or_eq_false_iff, Bool.and_eq_false_iff, Int.not_lt, Int.not_le] at c4p
        refine G_skip ?_
        refine GQ_sub (.cons (k := 1) rfl (.cons (k := 3) rfl (.cons (k := 5) rfl (.nil _)))) ?_
        refine GQ_block ?_
        refine GQ_then ?_
        refine G_seq ?_
        refine G_region ?_
        refine GL_step rfl (PS_assign rfl) ?_
        refine GL_nil ?_
        refine GQ_then ?_
        refine G_seq ?_
        refine G_seq ?_
        refine G_region ?_
        refine GL_step rfl (PS_loadA rfl tya34 (.tail _ (.head _)) (Lens.id Land.fl.len Land.fl.one) rfl) ?_
        refine GL_step rfl (PS_move rfl) ?_
        refine GL_step rfl (PS_fieldAddr fa36_2 rfl) ?_
        refine GL_step rfl (PS_load rfl tys3 (.head _) Ing.Event.l2 rfl rfl) ?_
        refine GL_pure rfl cf12 (.cons rfl (.cons rfl (.cons rfl .nil))) (fun w hS => sense_Sees_spec _ _ _ w) ?_
        refine GL_step rfl (PS_not rfl) ?_
        refine GL_nil ?_
        refine GQ_sub (.cons (k := 1) rfl (.cons (k := 3) rfl (.cons (k := 5) rfl (.cons (k := 7) rfl (.cons (k := 52) rfl (.nil _)))))) ?_
        refine GQ_then ?_
        refine G_cond rfl (fun c5 => ?_) (fun c5 => ?_)
        · skip
          have c5p := c5
          try simp only [decide_eq_true_eq, decide_eq_false_iff_not, Bool.not_eq_true', Bool.not_eq_false', Bool.or_eq_true, Bool.and_eq_true, Bool.or_eq_false_iff, Bool.and_eq_false_iff, Int.not_lt, Int.not_le] at c5p
          refine G_seq ?_
          refine G_seq ?_
          refine G_region ?_
          refine GL_step rfl (PS_fieldAddr fa36_0 rfl) ?_
          refine GL_step rfl (PS_load rfl tys3 (.head _) Ing.Event.l0 rfl rfl) ?_
          refine GL_pure rfl cf26 (.cons rfl .nil) (fun w hS => sense_loud_spec _ w) ?_
          refine GL_step rfl (PS_not rfl) ?_
          refine GL_nil ?_
          refine GQ_sub (.cons (k := 1) rfl (.cons (k := 3) rfl (.cons (k := 5) rfl (.cons (k := 7) rfl (.cons (k := 56) rfl (.nil _)))))) ?_
          refine GQ_then ?_
          refine G_cond rfl (fun c6 => ?_) (fun c6 => ?_)
          · skip
            have c6p := c6
            try simp only [decide_eq_true_eq, decide_eq_false_iff_not, Bool.not_eq_true', Bool.not_eq_false', Bool.or_eq_true, Bool.and_eq_true, Bool.or_eq_false_iff, Bool.and_eq_false_iff, Int.not_lt, Int.not_le] at c6p
            refine G_seq ?_
            refine G_region ?_
            refine GL_step rfl (PS_assign rfl) ?_
            refine GL_nil ?_
            refine GQ_sub (.cons (k := 6) rfl (.nil _)) ?_
            refine GQ_then ?_
            refine G_ret ?_
            refine GQ_then_ret ?_
            refine GQ_then_ret ?_
            refine GQ_ret rfl (.tmp rfl .nil) ?_
            intro w1 hS; refine ⟨?_, hS.toKeep⟩; rw [show X.perceives b e = _ from ((if_f c1).trans ((if_f c2).trans ((if_f c4).trans ((if_t c5).trans (if_t c6)))))]; rfl
          · skip
            have c6p := c6
            try simp only [decide_eq_true_eq, decide_eq_false_iff_not, Bool.not_eq_true', Bool.not_eq_false', Bool.or_eq_true, Bool.and_eq_true, Bool.or_eq_false_iff, Bool.and_eq_false_iff, Int.not_lt, Int.not_le] at c6p
            refine G_skip ?_
            refine GQ_sub (.cons (k := 1) rfl (.cons (k := 3) rfl (.cons (k := 5) rfl (.cons (k := 7) rfl (.nil _))))) ?_
            refine GQ_then ?_
            refine G_region ?_
            refine GL_step rfl (PS_move rfl) ?_
            refine GL_step rfl (PS_add rfl rfl (IntWalk.i64_in _ (by omega))) ?_
            refine GL_step rfl (PS_assign rfl) ?_
            refine GL_nil ?_
            refine GQ_sub (.cons (k := 1) rfl (.cons (k := 3) rfl (.cons (k := 5) rfl (.cons (k := 7) rfl (.nil _))))) ?_
            refine GQ_then ?_
            refine G_seq ?_
            refine G_seq ?_
            refine G_region ?_
            refine GL_step rfl (PS_fieldAddr fa36_3 rfl) ?_
            refine GL_step rfl (PS_load rfl tys3 (.head _) Ing.Event.l3 rfl rfl) ?_
            refine GL_step rfl (PS_geq rfl rfl) ?_
            refine GL_step rfl (PS_move rfl) ?_
            refine GL_gt (t := 62) rfl rfl rfl (fun q => PS_fieldAddr fa36_3 rfl) ?_
            refine GL_gt (t := 62) rfl rfl rfl (fun q => PS_load (cvE rfl q) tys3 (.head _) Ing.Event.l3 rfl rfl) ?_
            refine GL_gt (t := 62) rfl rfl rfl (fun q => PS_lss (cvE rfl q) rfl) ?_
            refine GL_step rfl (PS_and rfl rfl (fun h => h)) ?_
            refine GL_step rfl (PS_move rfl) ?_
            refine GL_gt (t := 67) rfl rfl rfl (fun q => PS_loadA rfl tya34 (.tail _ (.head _)) (Lens.id Land.fl.len Land.fl.one) rfl) ?_
            refine GL_gt (t := 67) rfl rfl rfl (fun q => PS_move rfl) ?_
            refine GL_gt (t := 67) rfl rfl rfl (fun q => PS_fieldAddr fa36_3 rfl) ?_
            refine GL_gt (t := 67) rfl rfl rfl (fun q => PS_load (cvE rfl q) tys3 (.head _) Ing.Event.l3 rfl rfl) ?_
            refine GL_pgt (t := 67) rfl rfl rfl (fun q => PC_of cf12 (.cons (cvE rfl q) (.cons (cvE rfl q) (.cons (cvE rfl q) .nil))) (fun w hS => sense_Sees_spec _ _ _ w)) ?_
            refine GL_gt (t := 67) rfl rfl rfl (fun q => PS_not (cvE rfl q)) ?_
            refine GL_step rfl (PS_and rfl rfl (fun h => h)) ?_
            refine GL_nil ?_
            refine GQ_sub (.cons (k := 7) rfl (.cons (k := 74) rfl (.nil _))) ?_
            refine GQ_then ?_
            refine G_cond rfl (fun c7 => ?_) (fun c7 => ?_)
            · skip
              have c7p := c7
              try simp only [decide_eq_true_eq, decide_eq_false_iff_not, Bool.not_eq_true', Bool.not_eq_false', Bool.or_eq_true, Bool.and_eq_true, Bool.or_eq_false_iff, Bool.and_eq_false_iff, Int.not_lt, Int.not_le] at c7p
              refine G_region ?_
              refine GL_step rfl (PS_move rfl) ?_
              refine GL_step rfl (PS_add rfl rfl (IntWalk.i64_in _ (by omega))) ?_
              refine GL_step rfl (PS_assign rfl) ?_
              refine GL_nil ?_
              refine GQ_sub (.cons (k := 7) rfl (.nil _)) ?_
              refine GQ_then ?_
              refine G_seq ?_
              refine G_region ?_
              refine GL_step rfl (PS_move rfl) ?_
              refine GL_step rfl (PS_assign rfl) ?_
              refine GL_nil ?_
              refine GQ_sub (.cons (k := 6) rfl (.nil _)) ?_
              refine GQ_then ?_
              refine G_ret ?_
              refine GQ_ret rfl (.tmp rfl .nil) ?_
              intro w1 hS; refine ⟨?_, hS.toKeep⟩; rw [show X.perceives b e = _ from ((if_f c1).trans ((if_f c2).trans ((if_f c4).trans ((if_t c5).trans ((if_f c6).trans (if_t c7))))))]; rfl
            · skip
              have c7p := c7
              try simp only [decide_eq_true_eq, decide_eq_false_iff_not, Bool.not_eq_true', Bool.not_eq_false', Bool.or_eq_true, Bool.and_eq_true, Bool.or_eq_false_iff, Bool.and_eq_false_iff, Int.not_lt, Int.not_le] at c7p
              refine G_skip ?_
              refine GQ_sub (.cons (k := 7) rfl (.nil _)) ?_
              refine GQ_then ?_
              refine G_seq ?_
              refine G_region ?_
              refine GL_step rfl (PS_move rfl) ?_
              refine GL_step rfl (PS_assign rfl) ?_
              refine GL_nil ?_
              refine GQ_sub (.cons (k := 6) rfl (.nil _)) ?_
              refine GQ_then ?_
              refine G_ret ?_
              refine GQ_ret rfl (.tmp rfl .nil) ?_
              intro w1 hS; refine ⟨?_, hS.toKeep⟩; rw [show X.perceives b e = _ from ((if_f c1).trans ((if_f c2).trans ((if_f c4).trans ((if_t c5).trans ((if_f c6).trans (if_f c7))))))]; rfl
        · skip
          have c5p := c5
          try simp only [decide_eq_true_eq, decide_eq_false_iff_not, Bool.not_eq_true', Bool.not_eq_false', Bool.or_eq_true, Bool.and_eq_true, Bool.or_eq_false_iff, Bool.and_eq_false_iff, Int.not_lt, Int.not_le] at c5p
          refine G_skip ?_
          refine GQ_sub (.cons (k := 1) rfl (.cons (k := 3) rfl (.cons (k := 5) rfl (.cons (k := 7) rfl (.nil _))))) ?_
          refine GQ_then ?_
          refine G_seq ?_
          refine G_seq ?_
          refine G_region ?_
          refine GL_step rfl (PS_fieldAddr fa36_3 rfl) ?_
          refine GL_step rfl (PS_load rfl tys3 (.head _) Ing.Event.l3 rfl rfl) ?_
          refine GL_step rfl (PS_geq rfl rfl) ?_
          refine GL_step rfl (PS_move rfl) ?_
          refine GL_gt (t := 62) rfl rfl rfl (fun q => PS_fieldAddr fa36_3 rfl) ?_
          refine GL_gt (t := 62) rfl rfl rfl (fun q => PS_load (cvE rfl q) tys3 (.head _) Ing.Event.l3 rfl rfl) ?_
          refine GL_gt (t := 62) rfl rfl rfl (fun q => PS_lss (cvE rfl q) rfl) ?_
          refine GL_step rfl (PS_and rfl rfl (fun h => h)) ?_
          refine GL_step rfl (PS_move rfl) ?_
          refine GL_gt (t := 67) rfl rfl rfl (fun q => PS_loadA rfl tya34 (.tail _ (.head _)) (Lens.id Land.fl.len Land.fl.one) rfl) ?_
          refine GL_gt (t := 67) rfl rfl rfl (fun q => PS_move rfl) ?_
          refine GL_gt (t := 67) rfl rfl rfl (fun q => PS_fieldAddr fa36_3 rfl) ?_
          refine GL_gt (t := 67) rfl rfl rfl (fun q => PS_load (cvE rfl q) tys3 (.head _) Ing.Event.l3 rfl rfl) ?_
          refine GL_pgt (t := 67) rfl rfl rfl (fun q => PC_of cf12 (.cons (cvE rfl q) (.cons (cvE rfl q) (.cons (cvE rfl q) .nil))) (fun w hS => sense_Sees_spec _ _ _ w)) ?_
          refine GL_gt (t := 67) rfl rfl rfl (fun q => PS_not (cvE rfl q)) ?_
          refine GL_step rfl (PS_and rfl rfl (fun h => h)) ?_
          refine GL_nil ?_
          refine GQ_sub (.cons (k := 7) rfl (.cons (k := 74) rfl (.nil _))) ?_
          refine GQ_then ?_
          refine G_cond rfl (fun c8 => ?_) (fun c8 => ?_)
          · skip
            have c8p := c8
            try simp only [decide_eq_true_eq, decide_eq_false_iff_not, Bool.not_eq_true', Bool.not_eq_false', Bool.or_eq_true, Bool.and_eq_true, Bool.or_eq_false_iff, Bool.and_eq_false_iff, Int.not_lt, Int.not_le] at c8p
            refine G_region ?_
            refine GL_step rfl (PS_move rfl) ?_
            refine GL_step rfl (PS_add rfl rfl (IntWalk.i64_in _ (by omega))) ?_
            refine GL_step rfl (PS_assign rfl) ?_
            refine GL_nil ?_
            refine GQ_sub (.cons (k := 7) rfl (.nil _)) ?_
            refine GQ_then ?_
            refine G_seq ?_
            refine G_region ?_
            refine GL_step rfl (PS_move rfl) ?_
            refine GL_step rfl (PS_assign rfl) ?_
            refine GL_nil ?_
            refine GQ_sub (.cons (k := 6) rfl (.nil _)) ?_
            refine GQ_then ?_
            refine G_ret ?_
            refine GQ_ret rfl (.tmp rfl .nil) ?_
            intro w1 hS; refine ⟨?_, hS.toKeep⟩; rw [show X.perceives b e = _ from ((if_f c1).trans ((if_f c2).trans ((if_f c4).trans ((if_f c5).trans (if_t c8)))))]; rfl
          · skip
            have c8p := c8
            try simp only [decide_eq_true_eq, decide_eq_false_iff_not, Bool.not_eq_true', Bool.not_eq_false', Bool.or_eq_true, Bool.and_eq_true, Bool.or_eq_false_iff, Bool.and_eq_false_iff, Int.not_lt, Int.not_le] at c8p
            refine G_skip ?_
            refine GQ_sub (.cons (k := 7) rfl (.nil _)) ?_
            refine GQ_then ?_
            refine G_seq ?_
            refine G_region ?_
            refine GL_step rfl (PS_move rfl) ?_
            refine GL_step rfl (PS_assign rfl) ?_
            refine GL_nil ?_
            refine GQ_sub (.cons (k := 6) rfl (.nil _)) ?_
            refine GQ_then ?_
            refine G_ret ?_
            refine GQ_ret rfl (.tmp rfl .nil) ?_
            intro w1 hS; refine ⟨?_, hS.toKeep⟩; rw [show X.perceives b e = _ from ((if_f c1).trans ((if_f c2).trans ((if_f c4).trans ((if_f c5).trans (if_f c8)))))]; rfl
theorem sense_All_spec (X : Land) (e : Ing.Event) (w : World) : Ret Tryd.prog 16 #[.agg X.enc.toArray, .agg e.enc.toArray] w fun v w' => v = .agg (X.allN e 6).enc.toArray ∧ Keep w w' := by
  refine Ret_body [] [] Tryd.func16 rfl rfl rfl (St.start w []) ?_
  refine G_seq ?_
  refine G_region ?_
  refine GL_box rfl rfl rfl (fun b1 => ?_)
  refine GL_box rfl rfl rfl (fun b2 => ?_)
  refine GL_alloc rfl zv36 rfl (fun b3 => ?_)
  refine GL_nil ?_
  refine GQ_sub (.cons (k := 2) rfl (.cons (k := 3) rfl (.cons (k := 4) rfl (.nil _)))) ?_
  refine GQ_then ?_
  refine G_seq ?_
  refine G_seq ?_
  refine G_region ?_
  refine GL_step rfl (PS_move rfl) ?_
  refine GL_nil ?_
  refine GQ_then ?_
  refine G_block ?_
  refine G_subF (.cons (k := 6) rfl (.cons (k := 2) rfl (.cons (k := 3) rfl (.cons (k := 4) rfl (.nil _))))) ?_
  refine G_pull (.tail .head) ?_
  refine G_loop1_ (fun (k : Int) => 0 ≤ k ∧ k ≤ 6) (fun (k : Int) => (6 - k).toNat) (fun (k : Int) => [(6, .int .i64 k)]) (fun (k : Int) => [Res.box b2 36 (Ing.Event.enc (X.allN e k.toNat))]) (0) ?_ rfl rfl (fun k hI1 => ?_)
  · exact ⟨Int.le_refl _, by omega⟩
  obtain ⟨hI11, hI12⟩ := hI1
  refine G_seq ?_
  refine G_region ?_
  refine GL_step rfl (PS_lss rfl rfl) ?_
  refine GL_nil ?_
  refine GQ_then ?_
  refine G_seq ?_
  refine G_cond rfl (fun c1 => ?_) (fun c1 => ?_)
  · skip
    have c1p := c1
    try simp only [decide_eq_true_eq, decide_eq_false_iff_not, Bool.not_eq_true', Bool.not_eq_false', Bool.or_eq_true, Bool.and_eq_true, Bool.or_eq_false_iff, Bool.and_eq_false_iff, Int.not_lt, Int.not_le] at c1p
    refine G_skip ?_
    refine GQ_sub (.cons (k := 2) rfl (.cons (k := 3) rfl (.cons (k := 4) rfl (.cons (k := 6) rfl (.nil _))))) ?_
    refine GQ_then ?_
    refine G_seq ?_
    refine G_block ?_
    refine G_seq ?_
    refine G_region ?_
    refine GL_step rfl (PS_move rfl) ?_
    refine GL_step rfl (PS_assign rfl) ?_
    refine GL_nil ?_
    refine GQ_sub (.cons (k := 2) rfl (.cons (k := 3) rfl (.cons (k := 4) rfl (.cons (k := 5) rfl (.cons (k := 6) rfl (.nil _)))))) ?_
    refine GQ_then ?_
    refine G_region ?_
    refine GL_step rfl (PS_move rfl) ?_
    refine GL_step rfl (PS_loadA rfl tya34 (.tail _ (.tail _ (.head _))) (Lens.id Land.fl.len Land.fl.one) rfl) ?_
    refine GL_step rfl (PS_move rfl) ?_
    refine GL_step rfl (PS_loadA rfl tya36 (.head _) (Lens.id Ing.Event.fl.len Ing.Event.fl.one) rfl) ?_
    refine GL_pure rfl cf14 (.cons rfl (.cons rfl (.cons rfl .nil))) (fun w hS => sense_Perceives_spec _ _ _ w) ?_
    refine GL_step rfl (PS_fieldAddr fa36_10 rfl) ?_
    refine GL_step rfl (PS_indexAddr ia22 rfl rfl (by omega) (by omega)) ?_
    refine GL_unit (PU_store (Ing.Event.l10.comp (Lens.arr (n := 6) flI (by omega) (by omega))) rfl rfl rfl sz3 rfl .head) ?_
    refine GL_nil ?_
    refine GQ_sub (.cons (k := 2) rfl (.cons (k := 3) rfl (.cons (k := 4) rfl (.cons (k := 6) rfl (.nil _))))) ?_
    refine GQ_block ?_
    refine GQ_then ?_
    refine G_region ?_
    refine GL_step rfl (PS_add rfl rfl (IntWalk.i64_in _ (by omega))) ?_
    refine GL_step rfl (PS_move rfl) ?_
    refine GL_nil ?_
    refine GQ_sub (.cons (k := 2) rfl (.cons (k := 3) rfl (.cons (k := 4) rfl (.cons (k := 6) rfl (.nil _))))) ?_
    refine GQ_next1_ (k + 1) ?_ ?_ (.cons (k := 6) rfl (.cons (k := 2) rfl (.cons (k := 3) rfl (.cons (k := 4) rfl (.nil _))))) (by rw [Land.allN_step (by omega)]; exact (.refl _))
    · exact ⟨by omega, by omega⟩
    · omega
  · skip
    have c1p := c1
    try simp only [decide_eq_true_eq, decide_eq_false_iff_not, Bool.not_eq_true', Bool.not_eq_false', Bool.or_eq_true, Bool.and_eq_true, Bool.or_eq_false_iff, Bool.and_eq_false_iff, Int.not_lt, Int.not_le] at c1p
    obtain rfl : k = 6 := by omega
    refine G_exit ?_
    refine GQ_then_exit ?_
    refine GQ_then_exit ?_
    refine GQ_block_exit ?_
    refine GQ_sub (.cons (k := 3) rfl (.cons (k := 4) rfl (.nil _))) ?_
    refine GQ_then ?_
    refine G_seq ?_
    refine G_region ?_
    refine GL_step rfl (PS_loadA rfl tya36 (.head _) (Lens.id Ing.Event.fl.len Ing.Event.fl.one) rfl) ?_
    refine GL_unit (PU_store (Lens.id Ing.Event.fl.len Ing.Event.fl.one) rfl rfl rfl sz36 rfl (.tail .head)) ?_
    refine GL_nil ?_
    refine GQ_sub (.cons (k := 4) rfl (.nil _)) ?_
    refine GQ_then ?_
    refine G_ret ?_
    refine GQ_ret rfl (.cell rfl (.tail _ (.head _)) (.inl ⟨(by rw [Ing.Event.fl.len]; exact tya36), rfl⟩) .nil) ?_
    intro w1 hS; refine ⟨?_, hS.toKeep⟩; rfl
theorem law_senses_spec  (w : World) (gl0 : GV 2 pow10V w) (gl1 : GV 0 Land.verbsV w) : Ret Tryd.prog 18 #[] w fun v w' => v = .bool true ∧ Keep w w' := by
  refine Ret_body [] [] Tryd.func18 rfl rfl rfl (St.start w []) ?_
  refine G_seq ?_
  refine G_region ?_
  refine GL_step rfl (PS_assign rfl) ?_
  refine GL_nil ?_
  refine GQ_sub (.nil _) ?_
  refine GQ_then ?_
  refine G_seq ?_
  refine G_region ?_
  refine GL_pure rfl cf27 .nil (fun w hS => land_New_spec w) ?_
  refine GL_step rfl (PS_build pl36 zv36 rfl (.cons Ing.Event.l0 rfl rfl rfl (.cons Ing.Event.l2 rfl rfl rfl (.cons Ing.Event.l3 rfl rfl rfl (.cons Ing.Event.l6 rfl rfl rfl (.cons Ing.Event.l9 rfl rfl rfl .nil)))))) ?_
  refine GL_pure rfl cf16 (.cons rfl (.cons rfl .nil)) (fun w hS => sense_All_spec Land.new Land.sensed w) ?_
  refine GL_alloc rfl zv36 rfl (fun b1 => ?_)
  refine GL_unit (PU_store (Lens.id Ing.Event.fl.len Ing.Event.fl.one) rfl rfl rfl sz36 rfl .head) ?_
  refine GL_nil ?_
  refine GQ_sub (.cons (k := 1) rfl (.nil _)) ?_
  refine GQ_then ?_
  refine G_seq ?_
  refine G_region ?_
  refine GL_step rfl (PS_loadA rfl tya36 (.head _) (Lens.id Ing.Event.fl.len Ing.Event.fl.one) rfl) ?_
  refine GL_pure rfl cf19 (.cons rfl (.cons rfl .nil)) (fun w hS => sense_Tell_spec (Land.new.allN Land.sensed 6) 0 ⟨by decide, by decide, by decide, by decide, by decide, by decide⟩ w (gl0.st hS) (gl1.st hS)) ?_
  refine GL_step rfl (PS_move rfl) ?_
  refine GL_step rfl (PS_extract rfl rfl) ?_
  refine GL_step rfl (PS_extract rfl rfl) ?_
  refine GL_step rfl (PS_assign rfl) ?_
  refine GL_step rfl (PS_assign rfl) ?_
  refine GL_nil ?_
  refine GQ_sub (.cons (k := 1) rfl (.cons (k := 2) rfl (.cons (k := 3) rfl (.nil _)))) ?_
  refine GQ_then ?_
  refine G_seq ?_
  refine G_region ?_
  refine GL_step rfl (PS_move rfl) ?_
  refine GL_step rfl (PS_move rfl) ?_
  refine GL_gt (t := 13) rfl rfl rfl (fun q => PS_move rfl) ?_
  refine GL_gt (t := 13) rfl rfl rfl (fun q => PS_eql_str (cvE rfl q) rfl) ?_
  refine GL_step rfl (PS_and rfl rfl (fun h => h)) ?_
  refine GL_step rfl (PS_move rfl) ?_
  refine GL_gt (t := 17) rfl rfl rfl (fun q => PS_fieldAddr fa36_10 rfl) ?_
  refine GL_gt (t := 17) rfl rfl rfl (fun q => PS_indexAddr ia22 (cvE rfl q) rfl (by decide) (by decide)) ?_
  refine GL_gt (t := 17) rfl rfl rfl (fun q => PS_load (cvE rfl q) tys3 (.head _) (Ing.Event.l10.comp (Lens.arr (n := 6) flI (by decide) (by decide))) rfl rfl) ?_
  refine GL_gt (t := 17) rfl rfl rfl (fun q => PS_eql (cvE rfl q) rfl) ?_
  refine GL_step rfl (PS_and rfl rfl (fun h => h)) ?_
  refine GL_step rfl (PS_assign rfl) ?_
  refine GL_nil ?_
  refine GQ_sub (.cons (k := 0) rfl (.nil _)) ?_
  refine GQ_then ?_
  refine G_ret ?_
  refine GQ_ret rfl (.tmp rfl .nil) ?_
  intro w1 hS; refine ⟨congrArg Value.bool ?_, hS.toKeep⟩; first | rfl | kernel_rfl
end Go.Proofs.YtclcdddimmelaaaDoor
