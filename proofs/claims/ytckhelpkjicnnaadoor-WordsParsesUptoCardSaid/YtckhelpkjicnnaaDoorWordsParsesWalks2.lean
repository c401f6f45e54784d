/- What the functions that the law WordsParses reaches compute: walks, part 2. No condition. -/
import Derived.Test.YtckhelpkjicnnaaDoorCards
import Derived.Test.YtckhelpkjicnnaaDoorTie
import Derived.Deep.DeepHandedRow
import Derived.Test.YtckhelpkjicnnaaDoorRows
import Derived.Test.YtckhelpkjicnnaaDoorEc3
import Derived.Test.YtckhelpkjicnnaaDoorWa1
import Derived.Test.YtckhelpkjicnnaaDoorWordsParsesWalks
set_option linter.unusedSimpArgs false
set_option linter.unusedVariables false
set_option maxRecDepth 100000
namespace Go.Proofs.YtckhelpkjicnnaaDoor
open Go Go.Ing Go.RowKit Go.ChangeShapes Go.WideShapes Go.ChangeAt
theorem ref_NounOf_spec (u : Str) (hu : u.length ≤ 5000000) (w : World) : Ret Tryd.prog 19 #[vstr u] w fun v w' => v = .tuple #[.int .i64 (Words.noun u).1, vstr (Words.noun u).2.1, .bool (Words.noun u).2.2.1, .int .i64 (Words.noun u).2.2.2] ∧ Keep w w' := by
  refine Ret_body [] [] Tryd.func19 rfl rfl rfl (St.start w []) ?_
  refine G_seq ?_
  refine G_region ?_
  refine GL_step rfl (PS_assign rfl) ?_
  refine GL_step rfl (PS_assign rfl) ?_
  refine GL_step rfl (PS_assign rfl) ?_
  refine GL_step rfl (PS_assign rfl) ?_
  refine GL_nil ?_
  refine GQ_sub (.cons (k := 0) rfl (.nil _)) ?_
  refine GQ_then ?_
  refine G_seq ?_
  refine G_region ?_
  refine GL_step rfl (PS_move rfl) ?_
  refine GL_callL rfl cf30 (.cons rfl (.cons rfl .nil)) .nil (strings_Split_spec _ 46 (by omega)) (fun v1 B hv => ?_)
  obtain ⟨y2, rfl, y3, rfl⟩ := hv
  refine GL_step rfl (PS_assign rfl) ?_
  refine GL_nil ?_
  refine GQ_sub (.cons (k := 0) rfl (.cons (k := 6) rfl (.nil _))) ?_
  refine GQ_then ?_
  refine G_seq ?_
  refine G_block ?_
  refine G_seq ?_
  refine G_region ?_
  refine GL_step rfl (PS_move rfl) ?_
  refine GL_step rfl (PS_eql_str rfl rfl) ?_
  refine GL_step rfl (PS_assign rfl) ?_
  refine GL_nil ?_
  refine GQ_sub (.cons (k := 0) rfl (.cons (k := 6) rfl (.cons (k := 12) rfl (.nil _)))) ?_
  refine GQ_then ?_
  refine G_cond rfl (fun c1 => ?_) (fun c1 => ?_)
  · skip
    have c1p := c1
    try simp only [decide_eq_true_eq, decide_eq_false_iff_not, Bool.not_eq_true', Bool.not_eq_false', Bool.or_eq_true, Bool.and_eq_true, Bool.or_eq_false_iff, Bool.and_eq_false_iff, Int.not_lt, Int.not_le] at c1p
    refine G_seq ?_
    refine G_region ?_
    refine GL_step rfl (PS_assign rfl) ?_
    refine GL_step rfl (PS_assign rfl) ?_
    refine GL_step rfl (PS_assign rfl) ?_
    refine GL_step rfl (PS_assign rfl) ?_
    refine GL_nil ?_
    refine GQ_sub (.cons (k := 2) rfl (.cons (k := 3) rfl (.cons (k := 4) rfl (.cons (k := 5) rfl (.nil _))))) ?_
    refine GQ_then ?_
    refine G_ret ?_
    refine GQ_block_ret ?_
    refine GQ_then_ret ?_
    refine GQ_ret rfl (.tmp rfl (.tmp rfl (.tmp rfl (.tmp rfl .nil)))) ?_
    intro w1 hS; refine ⟨?_, hS.toKeep⟩; rw [← Words.nounR_eq, show Words.nounR u = _ from (if_t c1)]; rfl
  · skip
    have c1p := c1
    try simp only [decide_eq_true_eq, decide_eq_false_iff_not, Bool.not_eq_true', Bool.not_eq_false', Bool.or_eq_true, Bool.and_eq_true, Bool.or_eq_false_iff, Bool.and_eq_false_iff, Int.not_lt, Int.not_le] at c1p
    have hlen := y3
    have hpl := Words.pieces_len 46 u
    have hk0 : ((Words.pieces 46 u).getD (0 : Int).toNat []).length ≤ u.length := Words.pieces_le _
    refine G_seq ?_
    refine G_region ?_
    refine GL_step rfl (PS_move rfl) ?_
    refine GL_step rfl (PS_len_slice rfl Tryd.underlying28 rfl) ?_
    refine GL_step rfl (PS_eql rfl rfl) ?_
    refine GL_step rfl (PS_move rfl) ?_
    refine GL_gt (t := 19) rfl rfl rfl (fun q => PS_move rfl) ?_
    refine GL_gt (t := 19) rfl rfl rfl (fun q => PS_neq_str (cvE rfl q) rfl) ?_
    refine GL_step rfl (PS_and rfl rfl (fun h => h)) ?_
    refine GL_step rfl (PS_assign rfl) ?_
    refine GL_nil ?_
    refine GQ_sub (.cons (k := 0) rfl (.cons (k := 6) rfl (.cons (k := 15) rfl (.nil _)))) ?_
    refine GQ_then ?_
    refine G_cond rfl (fun c2 => ?_) (fun c2 => ?_)
    · skip
      have c2p := c2
      try simp only [decide_eq_true_eq, decide_eq_false_iff_not, Bool.not_eq_true', Bool.not_eq_false', Bool.or_eq_true, Bool.and_eq_true, Bool.or_eq_false_iff, Bool.and_eq_false_iff, Int.not_lt, Int.not_le] at c2p
      rw [hlen] at c2
      refine G_seq ?_
      refine G_region ?_
      refine GL_step rfl (PS_move rfl) ?_
      refine GL_step rfl (PS_assign rfl) ?_
      refine GL_step rfl (PS_assign rfl) ?_
      refine GL_step rfl (PS_assign rfl) ?_
      refine GL_step rfl (PS_assign rfl) ?_
      refine GL_nil ?_
      refine GQ_sub (.cons (k := 2) rfl (.cons (k := 3) rfl (.cons (k := 4) rfl (.cons (k := 5) rfl (.nil _))))) ?_
      refine GQ_then ?_
      refine G_ret ?_
      refine GQ_block_ret ?_
      refine GQ_then_ret ?_
      refine GQ_ret rfl (.tmp rfl (.tmp rfl (.tmp rfl (.tmp rfl .nil)))) ?_
      intro w1 hS; refine ⟨?_, hS.toKeep⟩; rw [← Words.nounR_eq, show Words.nounR u = _ from ((if_f c1).trans (if_t c2))]; rfl
    · skip
      have c2p := c2
      try simp only [decide_eq_true_eq, decide_eq_false_iff_not, Bool.not_eq_true', Bool.not_eq_false', Bool.or_eq_true, Bool.and_eq_true, Bool.or_eq_false_iff, Bool.and_eq_false_iff, Int.not_lt, Int.not_le] at c2p
      rw [hlen] at c2
      refine G_seq ?_
      refine G_region ?_
      refine GL_step rfl (PS_move rfl) ?_
      refine GL_step rfl (PS_len_slice rfl Tryd.underlying28 rfl) ?_
      refine GL_step rfl (PS_neq rfl rfl) ?_
      refine GL_step rfl (PS_move rfl) ?_
      refine GL_gf (t := 28) rfl rfl rfl (fun q => PS_move rfl) ?_
      refine GL_gf (t := 28) rfl rfl rfl (fun q => by have q1 := q; (try simp at q1); exact PS_idxS is28 (by decide) (Kn.own (.head _)) (cvE rfl (by rw [q]; rfl)) rfl (by omega) (by first | omega | (simp at q; omega))) ?_
      refine GL_gf (t := 28) rfl rfl rfl (fun q => by have q1 := q; (try simp at q1); exact PS_ldStr (cvE rfl (by rw [q]; rfl)) tys9 (Kn.own (.head _)) (by first | omega | (simp at q; omega))) ?_
      refine GL_gf (t := 28) rfl rfl rfl (fun q => PS_eql_str (cvE rfl (by rw [q]; rfl)) rfl) ?_
      refine GL_step rfl (PS_or rfl rfl (fun h => by rw [h]; rfl)) ?_
      refine GL_step rfl (PS_assign rfl) ?_
      refine GL_nil ?_
      refine GQ_sub (.cons (k := 6) rfl (.cons (k := 24) rfl (.nil _))) ?_
      refine GQ_then ?_
      refine G_cond rfl (fun c3 => ?_) (fun c3 => ?_)
      · skip
        have c3p := c3
        try simp only [decide_eq_true_eq, decide_eq_false_iff_not, Bool.not_eq_true', Bool.not_eq_false', Bool.or_eq_true, Bool.and_eq_true, Bool.or_eq_false_iff, Bool.and_eq_false_iff, Int.not_lt, Int.not_le] at c3p
        rw [hlen] at c3
        refine G_seq ?_
        refine G_region ?_
        refine GL_step rfl (PS_assign rfl) ?_
        refine GL_step rfl (PS_assign rfl) ?_
        refine GL_step rfl (PS_assign rfl) ?_
        refine GL_step rfl (PS_assign rfl) ?_
        refine GL_nil ?_
        refine GQ_sub (.cons (k := 2) rfl (.cons (k := 3) rfl (.cons (k := 4) rfl (.cons (k := 5) rfl (.nil _))))) ?_
        refine GQ_then ?_
        refine G_ret ?_
        refine GQ_block_ret ?_
        refine GQ_then_ret ?_
        refine GQ_ret rfl (.tmp rfl (.tmp rfl (.tmp rfl (.tmp rfl .nil)))) ?_
        intro w1 hS; refine ⟨?_, hS.toKeep⟩; rw [← Words.nounR_eq, show Words.nounR u = _ from ((if_f c1).trans ((if_f c2).trans (if_t c3)))]; rfl
      · skip
        have c3p := c3
        try simp only [decide_eq_true_eq, decide_eq_false_iff_not, Bool.not_eq_true', Bool.not_eq_false', Bool.or_eq_true, Bool.and_eq_true, Bool.or_eq_false_iff, Bool.and_eq_false_iff, Int.not_lt, Int.not_le] at c3p
        rw [hlen] at c3
        refine G_seq ?_
        refine G_region ?_
        refine GL_step rfl (PS_move rfl) ?_
        refine GL_step rfl (PS_idxS is28 (by decide) (Kn.own (.head _)) rfl rfl (by omega) (by first | omega | (simp at q; omega))) ?_
        refine GL_step rfl (PS_ldStr rfl tys9 (Kn.own (.head _)) (by first | omega | (simp at q; omega))) ?_
        refine GL_step rfl (PS_eql_str rfl rfl) ?_
        refine GL_step rfl (PS_assign rfl) ?_
        refine GL_nil ?_
        refine GQ_sub (.cons (k := 6) rfl (.cons (k := 34) rfl (.nil _))) ?_
        refine GQ_then ?_
        refine G_cond rfl (fun c4 => ?_) (fun c4 => ?_)
        · skip
          have c4p := c4
          try simp only [decide_eq_true_eq, decide_eq_false_iff_not, Bool.not_eq_true', Bool.not_eq_false', Bool.or_eq_true, Bool.and_eq_true, Bool.or_eq_false_iff, Bool.and_eq_false_iff, Int.not_lt, Int.not_le] at c4p
          refine G_seq ?_
          refine G_planN (N := 7) [0, 1, 3, 0, 15, 31, 63] mix (by kernel_rfl) rfl ?_
          refine Plan_float 0 rfl rfl (by kernel_rfl) (OK_s (EX_s (PS_move rfl))) ?_
          refine Plan_float 1 rfl rfl (by kernel_rfl) (OK_s (EX_s (PS_idxS is28 (by decide) (Kn.own (.head _)) rfl rfl (by omega) (by first | omega | (simp at q; omega))))) ?_
          refine Plan_float 2 rfl rfl (by kernel_rfl) (OK_s (EX_s (PS_ldStr rfl tys9 (Kn.own (.head _)) (by first | omega | (simp at q; omega))))) ?_
          refine Plan_float 3 rfl rfl (by kernel_rfl) (OK_s (EX_s (PS_assign rfl))) ?_
          refine Plan_float 4 rfl rfl (by kernel_rfl) (OK_s (EX_s (PS_assign rfl))) ?_
          refine Plan_float 5 rfl rfl (by kernel_rfl) (OK_s (EX_s (PS_assign rfl))) ?_
          refine Plan_float 6 rfl rfl (by kernel_rfl) (OK_s (EX_s (PS_assign rfl))) ?_
          refine Plan_end (by kernel_rfl) ?_
          refine GQ_sub (.cons (k := 2) rfl (.cons (k := 3) rfl (.cons (k := 4) rfl (.cons (k := 5) rfl (.nil _))))) ?_
          refine GQ_then ?_
          refine G_ret ?_
          refine GQ_block_ret ?_
          refine GQ_then_ret ?_
          refine GQ_ret rfl (.tmp rfl (.tmp rfl (.tmp rfl (.tmp rfl .nil)))) ?_
          intro w1 hS; refine ⟨?_, hS.toKeep⟩; rw [← Words.nounR_eq, show Words.nounR u = _ from ((if_f c1).trans ((if_f c2).trans ((if_f c3).trans (if_t c4))))]; rfl
        · skip
          have c4p := c4
          try simp only [decide_eq_true_eq, decide_eq_false_iff_not, Bool.not_eq_true', Bool.not_eq_false', Bool.or_eq_true, Bool.and_eq_true, Bool.or_eq_false_iff, Bool.and_eq_false_iff, Int.not_lt, Int.not_le] at c4p
          refine G_skip ?_
          refine GQ_sub (.cons (k := 6) rfl (.nil _)) ?_
          refine GQ_block ?_
          refine GQ_then ?_
          refine G_seq ?_
          refine G_region ?_
          refine GL_step rfl (PS_assign rfl) ?_
          refine GL_nil ?_
          refine GQ_then ?_
          refine G_seq ?_
          refine G_seq ?_
          refine G_region ?_
          refine GL_step rfl (PS_move rfl) ?_
          refine GL_step rfl (PS_idxS is28 (by decide) (Kn.own (.head _)) rfl rfl (by omega) (by first | omega | (simp at q; omega))) ?_
          refine GL_step rfl (PS_ldStr rfl tys9 (Kn.own (.head _)) (by first | omega | (simp at q; omega))) ?_
          refine GL_bytes rfl Tryd.underlying9 Tryd.underlying53 Tryd.underlying5 rfl (fun h5 h5l => ?_)
          refine GL_step rfl (PS_len_slice rfl Tryd.underlying53 rfl) ?_
          refine GL_step rfl (PS_move rfl) ?_
          refine GL_nil ?_
          refine GQ_sub (.cons (k := 6) rfl (.cons (k := 7) rfl (.cons (k := 45) rfl (.cons (k := 46) rfl (.cons (k := 47) rfl (.nil _)))))) ?_
          refine GQ_then ?_
          refine G_block ?_
          refine G_subF (.cons (k := 7) rfl (.cons (k := 47) rfl (.cons (k := 6) rfl (.cons (k := 45) rfl (.cons (k := 46) rfl (.nil _)))))) ?_
          refine G_loop2_ (fun (k : Int) (n : Int) => 0 ≤ k ∧ k ≤ (((Words.pieces 46 u).getD (0 : Int).toNat []).length : Int) ∧ Words.digF ((Words.pieces 46 u).getD (0 : Int).toNat []) ((Words.pieces 46 u).getD (0 : Int).toNat []).length 0 = Words.digF ((Words.pieces 46 u).getD (0 : Int).toNat []) ((((Words.pieces 46 u).getD (0 : Int).toNat []).length : Int) - k).toNat n ∧ 0 ≤ n ∧ n ≤ 99 ∧ (k = 0 → n = 0) ∧ (k ≤ 1 → n ≤ 9)) (fun (k : Int) (n : Int) => ((((Words.pieces 46 u).getD (0 : Int).toNat []).length : Int) - k).toNat) (fun (k : Int) (n : Int) => [(7, .int .i64 n), (47, .int .i64 k)]) (fun (k : Int) (n : Int) => []) (0) (0) ?_ rfl rfl (fun k n hI1 => ?_)
          · exact ⟨by omega, by omega, by rw [Int.sub_zero]; rfl, by omega, by omega, fun _ => rfl, by omega⟩
          obtain ⟨hI11, hI12, hI13, hI14, hI15, hI16, hI17⟩ := hI1
          refine G_seq ?_
          refine G_region ?_
          refine GL_step rfl (PS_lss rfl rfl) ?_
          refine GL_nil ?_
          refine GQ_then ?_
          refine G_seq ?_
          refine G_cond rfl (fun c5 => ?_) (fun c5 => ?_)
          · skip
            have c5p := c5
            try simp only [decide_eq_true_eq, decide_eq_false_iff_not, Bool.not_eq_true', Bool.not_eq_false', Bool.or_eq_true, Bool.and_eq_true, Bool.or_eq_false_iff, Bool.and_eq_false_iff, Int.not_lt, Int.not_le] at c5p
            rw [Words.digF_step (k := ((Words.pieces 46 u).getD (0 : Int).toNat [])) hI11 (by omega)] at hI13
            have hc8 := (((Words.pieces 46 u).getD (0 : Int).toNat []).getD k.toNat 0).toNat_lt
            refine G_skip ?_
            refine GQ_sub (.cons (k := 6) rfl (.cons (k := 7) rfl (.cons (k := 45) rfl (.cons (k := 46) rfl (.cons (k := 47) rfl (.nil _)))))) ?_
            refine GQ_then ?_
            refine G_seq ?_
            refine G_block ?_
            refine G_seq ?_
            refine G_region ?_
            refine GL_step rfl (PS_move rfl) ?_
            refine GL_step rfl (PS_idxS is53 (by decide) (Kn.own (.head _)) rfl rfl (by omega) (by first | omega | (simp at q; omega))) ?_
            refine GL_step rfl (PS_ldY rfl tys5 (Kn.own (.head _)) (by first | omega | (simp at q; omega))) ?_
            refine GL_step rfl (PS_assign rfl) ?_
            refine GL_step rfl (PS_assign rfl) ?_
            refine GL_nil ?_
            refine GQ_sub (.cons (k := 6) rfl (.cons (k := 7) rfl (.cons (k := 8) rfl (.cons (k := 9) rfl (.cons (k := 45) rfl (.cons (k := 46) rfl (.cons (k := 47) rfl (.nil _)))))))) ?_
            refine GQ_then ?_
            refine G_seq ?_
            refine G_seq ?_
            refine G_region ?_
            refine GL_step rfl (PS_move rfl) ?_
            refine GL_step rfl (PS_lss rfl rfl) ?_
            refine GL_step rfl (PS_move rfl) ?_
            refine GL_gf (t := 54) rfl rfl rfl (fun q => PS_move rfl) ?_
            refine GL_gf (t := 54) rfl rfl rfl (fun q => PS_gtr (cvE rfl (by rw [q]; rfl)) rfl) ?_
            refine GL_step rfl (PS_or rfl rfl (fun h => by rw [h]; rfl)) ?_
            refine GL_step rfl (PS_move rfl) ?_
            refine GL_gf (t := 58) rfl rfl rfl (fun q => PS_move rfl) ?_
            refine GL_gf (t := 58) rfl rfl rfl (fun q => PS_eql (cvE rfl (by rw [q]; rfl)) rfl) ?_
            refine GL_gf (t := 58) rfl rfl rfl (fun q => PS_move (cvE rfl (by rw [q]; rfl))) ?_
            refine GL_gtc (t := 61) rfl rfl rfl (fun qc q => PS_move rfl) ?_
            refine GL_gtc (t := 61) rfl rfl rfl (fun qc q => PS_eql (cvE rfl (by rw [qc, q]; rfl)) rfl) ?_
            refine GL_gf (t := 58) rfl rfl rfl (fun q => PS_and (cvE rfl (by rw [q]; rfl)) rfl (fun h => by rw [q, h]; rfl)) ?_
            refine GL_step rfl (PS_or rfl rfl (fun h => by rw [h]; rfl)) ?_
            refine GL_step rfl (PS_move rfl) ?_
            refine GL_gf (t := 66) rfl rfl rfl (fun q => PS_move rfl) ?_
            refine GL_gf (t := 66) rfl rfl rfl (fun q => PS_gtr (cvE rfl (by rw [q]; rfl)) rfl) ?_
            refine GL_step rfl (PS_or rfl rfl (fun h => by rw [h]; rfl)) ?_
            refine GL_nil ?_
            refine GQ_sub (.cons (k := 6) rfl (.cons (k := 7) rfl (.cons (k := 9) rfl (.cons (k := 45) rfl (.cons (k := 46) rfl (.cons (k := 47) rfl (.cons (k := 69) rfl (.nil _)))))))) ?_
            refine GQ_then ?_
            refine G_cond rfl (fun c6 => ?_) (fun c6 => ?_)
            · skip
              have c6p := c6
              try simp only [decide_eq_true_eq, decide_eq_false_iff_not, Bool.not_eq_true', Bool.not_eq_false', Bool.or_eq_true, Bool.and_eq_true, Bool.or_eq_false_iff, Bool.and_eq_false_iff, Int.not_lt, Int.not_le] at c6p
              have hdn := hI13.trans (if_t c6)
              refine G_seq ?_
              refine G_region ?_
              refine GL_step rfl (PS_assign rfl) ?_
              refine GL_step rfl (PS_assign rfl) ?_
              refine GL_step rfl (PS_assign rfl) ?_
              refine GL_step rfl (PS_assign rfl) ?_
              refine GL_nil ?_
              refine GQ_sub (.cons (k := 2) rfl (.cons (k := 3) rfl (.cons (k := 4) rfl (.cons (k := 5) rfl (.nil _))))) ?_
              refine GQ_then ?_
              refine G_ret ?_
              refine GQ_then_ret ?_
              refine GQ_block_ret ?_
              refine GQ_then_ret ?_
              refine GQ_then_ret ?_
              refine GQ_block_ret ?_
              refine GQ_then_ret ?_
              refine GQ_ret rfl (.tmp rfl (.tmp rfl (.tmp rfl (.tmp rfl .nil)))) ?_
              intro w1 hS; refine ⟨?_, hS.toKeep⟩; rw [← Words.nounR_eq, show Words.nounR u = Words.nounD ((Words.pieces 46 u).getD (0 : Int).toNat []) ((Words.pieces 46 u).getD 1 []) from ((if_f c1).trans ((if_f c2).trans ((if_f c3).trans (if_f c4)))), Words.nounD_none hdn]; rfl
            · skip
              have c6p := c6
              try simp only [decide_eq_true_eq, decide_eq_false_iff_not, Bool.not_eq_true', Bool.not_eq_false', Bool.or_eq_true, Bool.and_eq_true, Bool.or_eq_false_iff, Bool.and_eq_false_iff, Int.not_lt, Int.not_le] at c6p
              have cb : Words.digBad k ((((Words.pieces 46 u).getD (0 : Int).toNat []).getD k.toNat 0).toNat : Int) = false := c6
              have hb9 : 48 ≤ ((((Words.pieces 46 u).getD (0 : Int).toNat []).getD k.toNat 0).toNat : Int) ∧ ((((Words.pieces 46 u).getD (0 : Int).toNat []).getD k.toNat 0).toNat : Int) ≤ 57 ∧ k ≤ 1 := by simp at c6; omega
              refine G_skip ?_
              refine GQ_sub (.cons (k := 6) rfl (.cons (k := 7) rfl (.cons (k := 9) rfl (.cons (k := 45) rfl (.cons (k := 46) rfl (.cons (k := 47) rfl (.nil _))))))) ?_
              refine GQ_then ?_
              refine G_region ?_
              refine GL_step rfl (PS_move rfl) ?_
              refine GL_step rfl (PS_mul rfl rfl (IntWalk.i64_in _ (by first | omega | (simp at q; omega)))) ?_
              refine GL_step rfl (PS_move rfl) ?_
              refine GL_step rfl (PS_sub rfl rfl (IntWalk.u8_in _ (by first | omega | (simp at q; omega)))) ?_
              refine GL_step rfl (PS_toInt Tryd.underlying3 Tryd.underlying5 rfl (IntWalk.i64_in _ (by first | omega | (simp at q; omega)))) ?_
              refine GL_step rfl (PS_add rfl rfl (IntWalk.i64_in _ (by first | omega | (simp at q; omega)))) ?_
              refine GL_step rfl (PS_assign rfl) ?_
              refine GL_nil ?_
              refine GQ_sub (.cons (k := 6) rfl (.cons (k := 7) rfl (.cons (k := 45) rfl (.cons (k := 46) rfl (.cons (k := 47) rfl (.nil _)))))) ?_
              refine GQ_block ?_
              refine GQ_then ?_
              refine G_region ?_
              refine GL_step rfl (PS_add rfl rfl (IntWalk.i64_in _ (by first | omega | (simp at q; omega)))) ?_
              refine GL_step rfl (PS_move rfl) ?_
              refine GL_nil ?_
              refine GQ_sub (.cons (k := 6) rfl (.cons (k := 7) rfl (.cons (k := 45) rfl (.cons (k := 46) rfl (.cons (k := 47) rfl (.nil _)))))) ?_
              refine GQ_next2_ (k + 1) _ ?_ ?_ (.cons (k := 7) rfl (.cons (k := 47) rfl (.cons (k := 6) rfl (.cons (k := 45) rfl (.cons (k := 46) rfl (.nil _)))))) (.refl _)
              · exact ⟨by omega, by omega, by rw [hI13, if_f cb], by omega, by omega, by omega, by omega⟩
              · omega
          · skip
            have c5p := c5
            try simp only [decide_eq_true_eq, decide_eq_false_iff_not, Bool.not_eq_true', Bool.not_eq_false', Bool.or_eq_true, Bool.and_eq_true, Bool.or_eq_false_iff, Bool.and_eq_false_iff, Int.not_lt, Int.not_le] at c5p
            obtain rfl : k = (((Words.pieces 46 u).getD (0 : Int).toNat []).length : Int) := by omega
            have hds := hI13.trans (show Words.digF ((Words.pieces 46 u).getD (0 : Int).toNat []) ((((Words.pieces 46 u).getD (0 : Int).toNat []).length : Int) - (((Words.pieces 46 u).getD (0 : Int).toNat []).length : Int)).toNat n = some n by rw [Int.sub_self]; rfl)
            refine G_exit ?_
            refine GQ_then_exit ?_
            refine GQ_then_exit ?_
            refine GQ_block_exit ?_
            refine GQ_sub (.cons (k := 6) rfl (.cons (k := 7) rfl (.nil _))) ?_
            refine GQ_then ?_
            refine G_seq ?_
            refine G_seq ?_
            refine G_region ?_
            refine GL_step rfl (PS_move rfl) ?_
            refine GL_step rfl (PS_eql rfl rfl) ?_
            refine GL_nil ?_
            refine GQ_sub (.cons (k := 6) rfl (.cons (k := 7) rfl (.cons (k := 78) rfl (.nil _)))) ?_
            refine GQ_then ?_
            refine G_cond rfl (fun c7 => ?_) (fun c7 => ?_)
            · skip
              have c7p := c7
              try simp only [decide_eq_true_eq, decide_eq_false_iff_not, Bool.not_eq_true', Bool.not_eq_false', Bool.or_eq_true, Bool.and_eq_true, Bool.or_eq_false_iff, Bool.and_eq_false_iff, Int.not_lt, Int.not_le] at c7p
              refine G_seq ?_
              refine G_region ?_
              refine GL_step rfl (PS_assign rfl) ?_
              refine GL_step rfl (PS_assign rfl) ?_
              refine GL_step rfl (PS_assign rfl) ?_
              refine GL_step rfl (PS_assign rfl) ?_
              refine GL_nil ?_
              refine GQ_sub (.cons (k := 2) rfl (.cons (k := 3) rfl (.cons (k := 4) rfl (.cons (k := 5) rfl (.nil _))))) ?_
              refine GQ_then ?_
              refine G_ret ?_
              refine GQ_then_ret ?_
              refine GQ_ret rfl (.tmp rfl (.tmp rfl (.tmp rfl (.tmp rfl .nil)))) ?_
              intro w1 hS; refine ⟨?_, hS.toKeep⟩; rw [← Words.nounR_eq, show Words.nounR u = Words.nounD ((Words.pieces 46 u).getD (0 : Int).toNat []) ((Words.pieces 46 u).getD 1 []) from ((if_f c1).trans ((if_f c2).trans ((if_f c3).trans (if_f c4)))), Words.nounD_some hds, if_t c7]; rfl
            · skip
              have c7p := c7
              try simp only [decide_eq_true_eq, decide_eq_false_iff_not, Bool.not_eq_true', Bool.not_eq_false', Bool.or_eq_true, Bool.and_eq_true, Bool.or_eq_false_iff, Bool.and_eq_false_iff, Int.not_lt, Int.not_le] at c7p
              refine G_skip ?_
              refine GQ_sub (.cons (k := 6) rfl (.cons (k := 7) rfl (.nil _))) ?_
              refine GQ_then ?_
              refine G_seq ?_
              refine G_planN (N := 8) [0, 0, 2, 6, 1, 31, 63, 127] mix (by kernel_rfl) rfl ?_
              refine Plan_float 0 rfl rfl (by kernel_rfl) (OK_s (EX_s (PS_move rfl))) ?_
              refine Plan_float 1 rfl rfl (by kernel_rfl) (OK_s (EX_s (PS_move rfl))) ?_
              refine Plan_float 2 rfl rfl (by kernel_rfl) (OK_s (EX_s (PS_idxS is28 (by decide) (Kn.own (.tail _ (.head _))) rfl rfl (by omega) (by first | omega | (simp at q; omega))))) ?_
              refine Plan_float 3 rfl rfl (by kernel_rfl) (OK_s (EX_s (PS_ldStr rfl tys9 (Kn.own (.tail _ (.head _))) (by first | omega | (simp at q; omega))))) ?_
              refine Plan_float 4 rfl rfl (by kernel_rfl) (OK_s (EX_s (PS_assign rfl))) ?_
              refine Plan_float 5 rfl rfl (by kernel_rfl) (OK_s (EX_s (PS_assign rfl))) ?_
              refine Plan_float 6 rfl rfl (by kernel_rfl) (OK_s (EX_s (PS_assign rfl))) ?_
              refine Plan_float 7 rfl rfl (by kernel_rfl) (OK_s (EX_s (PS_assign rfl))) ?_
              refine Plan_end (by kernel_rfl) ?_
              refine GQ_sub (.cons (k := 2) rfl (.cons (k := 3) rfl (.cons (k := 4) rfl (.cons (k := 5) rfl (.nil _))))) ?_
              refine GQ_then ?_
              refine G_ret ?_
              refine GQ_ret rfl (.tmp rfl (.tmp rfl (.tmp rfl (.tmp rfl .nil)))) ?_
              intro w1 hS; refine ⟨?_, hS.toKeep⟩; rw [← Words.nounR_eq, show Words.nounR u = Words.nounD ((Words.pieces 46 u).getD (0 : Int).toNat []) ((Words.pieces 46 u).getD 1 []) from ((if_f c1).trans ((if_f c2).trans ((if_f c3).trans (if_f c4)))), Words.nounD_some hds, if_f c7]; rfl
theorem ref_ParseOrder_spec (s : Str) (hs : s.length ≤ 4000000) (w : World) (gl0 : GV 1 Land.verbsV w) : Ret Tryd.prog 9 #[vstr s] w fun v w' => v = .tuple #[.agg (Words.parse s).1.enc.toArray, .int .i64 (Words.parse s).2] ∧ Keep w w' := by
  refine Ret_body [] [] Tryd.func9 rfl rfl rfl (St.start w []) ?_
  refine G_seq ?_
  refine G_region ?_
  refine GL_alloc rfl zv23 rfl (fun b1 => ?_)
  refine GL_step rfl (PS_assign rfl) ?_
  refine GL_nil ?_
  refine GQ_sub (.cons (k := 0) rfl (.cons (k := 2) rfl (.nil _))) ?_
  refine GQ_then ?_
  refine G_seq ?_
  refine G_region ?_
  refine GL_step rfl (PS_assign rfl) ?_
  refine GL_nil ?_
  refine GQ_then ?_
  refine G_seq ?_
  refine G_region ?_
  refine GL_step rfl (PS_move rfl) ?_
  refine GL_callL rfl cf12 (.cons rfl .nil) .nil (ref_WordsOf_spec _ hs) (fun v1 B hv => ?_)
  obtain ⟨y2, rfl, y3, rfl⟩ := hv
  refine GL_step rfl (PS_assign rfl) ?_
  refine GL_nil ?_
  refine GQ_sub (.cons (k := 0) rfl (.cons (k := 2) rfl (.cons (k := 4) rfl (.cons (k := 5) rfl (.nil _))))) ?_
  refine GQ_then ?_
  refine G_seq ?_
  refine G_seq ?_
  refine G_region ?_
  refine GL_step rfl (PS_move rfl) ?_
  refine GL_step rfl (PS_len_slice rfl Tryd.underlying28 rfl) ?_
  refine GL_step rfl (PS_eql rfl rfl) ?_
  refine GL_nil ?_
  refine GQ_sub (.cons (k := 0) rfl (.cons (k := 2) rfl (.cons (k := 4) rfl (.cons (k := 5) rfl (.cons (k := 21) rfl (.nil _)))))) ?_
  refine GQ_then ?_
  refine G_cond rfl (fun c1 => ?_) (fun c1 => ?_)
  · skip
    have c1p := c1
    try simp only [decide_eq_true_eq, decide_eq_false_iff_not, Bool.not_eq_true', Bool.not_eq_false', Bool.or_eq_true, Bool.and_eq_true, Bool.or_eq_false_iff, Bool.and_eq_false_iff, Int.not_lt, Int.not_le] at c1p
    have hlen := y3
    (try simp only [Hd.cut] at c1)
    rw [hlen] at c1
    refine G_seq ?_
    refine G_region ?_
    refine GL_step rfl (PS_build pl23 zv23 rfl .nil) ?_
    refine GL_step rfl (PS_move rfl) ?_
    refine GL_unit (PU_store (Lens.id Order.fl.len Order.fl.one) rfl rfl rfl sz23 rfl (.tail .head)) ?_
    refine GL_step rfl (PS_assign rfl) ?_
    refine GL_nil ?_
    refine GQ_sub (.cons (k := 2) rfl (.cons (k := 3) rfl (.nil _))) ?_
    refine GQ_then ?_
    refine G_ret ?_
    refine GQ_then_ret ?_
    refine GQ_ret rfl (.cell rfl (.tail _ (.head _)) (.inl ⟨(by rw [Order.fl.len]; exact tya23), rfl⟩) (.tmp rfl .nil)) ?_
    intro w1 hS; refine ⟨?_, hS.toKeep⟩; rw [← Words.parseR_eq, show Words.parseR s = _ from (if_t c1)]; rfl
  · skip
    have c1p := c1
    try simp only [decide_eq_true_eq, decide_eq_false_iff_not, Bool.not_eq_true', Bool.not_eq_false', Bool.or_eq_true, Bool.and_eq_true, Bool.or_eq_false_iff, Bool.and_eq_false_iff, Int.not_lt, Int.not_le] at c1p
    have hlen := y3
    (try simp only [Hd.cut] at c1)
    rw [hlen] at c1
    refine G_skip ?_
    refine GQ_sub (.cons (k := 0) rfl (.cons (k := 2) rfl (.cons (k := 4) rfl (.cons (k := 5) rfl (.nil _))))) ?_
    refine GQ_then ?_
    refine G_seq ?_
    refine G_region ?_
    refine GL_step rfl (PS_move rfl) ?_
    refine GL_step rfl (PS_idxS is28 (by decide) (Kn.own (.head _)) rfl rfl (by omega) (by first | omega | (simp only [Hd.cut] at *; omega) | (simp [Hd.cut] at q ⊢; omega))) ?_
    refine GL_step rfl (PS_ldStr rfl tys9 (Kn.own (.head _)) (by first | omega | (simp only [List.length_drop, Hd.cut] at *; omega) | (simp [Hd.cut] at q ⊢; omega))) ?_
    refine GL_pure rfl cf17 (.cons rfl .nil) (fun w hS => ref_VerbOf_spec _ w (gl0.st hS)) ?_
    refine GL_step rfl (PS_move rfl) ?_
    refine GL_step rfl (PS_extract rfl rfl) ?_
    refine GL_step rfl (PS_extract rfl rfl) ?_
    refine GL_step rfl (PS_assign rfl) ?_
    refine GL_step rfl (PS_assign rfl) ?_
    refine GL_nil ?_
    refine GQ_sub (.cons (k := 0) rfl (.cons (k := 2) rfl (.cons (k := 4) rfl (.cons (k := 5) rfl (.cons (k := 6) rfl (.cons (k := 7) rfl (.nil _))))))) ?_
    refine GQ_then ?_
    refine G_seq ?_
    refine G_seq ?_
    refine G_region ?_
    refine GL_step rfl (PS_move rfl) ?_
    refine GL_step rfl (PS_neq rfl rfl) ?_
    refine GL_nil ?_
    refine GQ_sub (.cons (k := 0) rfl (.cons (k := 2) rfl (.cons (k := 4) rfl (.cons (k := 5) rfl (.cons (k := 6) rfl (.cons (k := 7) rfl (.cons (k := 32) rfl (.nil _)))))))) ?_
    refine GQ_then ?_
    refine G_cond rfl (fun c2 => ?_) (fun c2 => ?_)
    · skip
      have c2p := c2
      try simp only [decide_eq_true_eq, decide_eq_false_iff_not, Bool.not_eq_true', Bool.not_eq_false', Bool.or_eq_true, Bool.and_eq_true, Bool.or_eq_false_iff, Bool.and_eq_false_iff, Int.not_lt, Int.not_le] at c2p
      refine G_seq ?_
      refine G_region ?_
      refine GL_step rfl (PS_build pl23 zv23 rfl .nil) ?_
      refine GL_step rfl (PS_move rfl) ?_
      refine GL_unit (PU_store (Lens.id Order.fl.len Order.fl.one) rfl rfl rfl sz23 rfl (.tail .head)) ?_
      refine GL_step rfl (PS_assign rfl) ?_
      refine GL_nil ?_
      refine GQ_sub (.cons (k := 2) rfl (.cons (k := 3) rfl (.nil _))) ?_
      refine GQ_then ?_
      refine G_ret ?_
      refine GQ_then_ret ?_
      refine GQ_ret rfl (.cell rfl (.tail _ (.head _)) (.inl ⟨(by rw [Order.fl.len]; exact tya23), rfl⟩) (.tmp rfl .nil)) ?_
      intro w1 hS; refine ⟨?_, hS.toKeep⟩; rw [← Words.parseR_eq, show Words.parseR s = _ from ((if_f c1).trans (if_t c2))]; rfl
    · skip
      have c2p := c2
      try simp only [decide_eq_true_eq, decide_eq_false_iff_not, Bool.not_eq_true', Bool.not_eq_false', Bool.or_eq_true, Bool.and_eq_true, Bool.or_eq_false_iff, Bool.and_eq_false_iff, Int.not_lt, Int.not_le] at c2p
      refine G_skip ?_
      refine GQ_sub (.cons (k := 0) rfl (.cons (k := 2) rfl (.cons (k := 4) rfl (.cons (k := 5) rfl (.cons (k := 6) rfl (.nil _)))))) ?_
      refine GQ_then ?_
      refine G_seq ?_
      refine G_region ?_
      refine GL_step rfl (PS_move rfl) ?_
      refine GL_step rfl (PS_build pl23 zv23 rfl (.cons Order.l0 rfl rfl rfl .nil)) ?_
      refine GL_alloc rfl zv23 rfl (fun b2 => ?_)
      refine GL_unit (PU_store (Lens.id Order.fl.len Order.fl.one) rfl rfl rfl sz23 rfl .head) ?_
      refine GL_nil ?_
      refine GQ_sub (.cons (k := 0) rfl (.cons (k := 2) rfl (.cons (k := 4) rfl (.cons (k := 5) rfl (.cons (k := 6) rfl (.cons (k := 8) rfl (.nil _))))))) ?_
      refine GQ_then ?_
      refine G_seq ?_
      refine G_seq ?_
      refine G_region ?_
      refine GL_step rfl (PS_move rfl) ?_
      refine GL_step rfl (PS_eql rfl rfl) ?_
      refine GL_nil ?_
      refine GQ_sub (.cons (k := 0) rfl (.cons (k := 2) rfl (.cons (k := 4) rfl (.cons (k := 5) rfl (.cons (k := 6) rfl (.cons (k := 8) rfl (.cons (k := 38) rfl (.nil _)))))))) ?_
      refine GQ_then ?_
      refine G_cond rfl (fun c3 => ?_) (fun c3 => ?_)
      · skip
        have c3p := c3
        try simp only [decide_eq_true_eq, decide_eq_false_iff_not, Bool.not_eq_true', Bool.not_eq_false', Bool.or_eq_true, Bool.and_eq_true, Bool.or_eq_false_iff, Bool.and_eq_false_iff, Int.not_lt, Int.not_le] at c3p
        refine G_seq ?_
        refine G_block ?_
        refine G_subF (.cons (k := 0) rfl (.cons (k := 2) rfl (.cons (k := 4) rfl (.cons (k := 8) rfl (.nil _))))) ?_
        refine G_loop1_ (fun (r : Str) => Words.trL 32 s = Words.trL 32 r ∧ r.length ≤ s.length) (fun (r : Str) => r.length) (fun (r : Str) => [(0, vstr r)]) (fun (r : Str) => []) (s) ?_ rfl rfl (fun r hI1 => ?_)
        · exact ⟨rfl, by first | exact Nat.le_refl _ | assumption⟩
        obtain ⟨hI11, hI12⟩ := hI1
        refine G_seq ?_
        refine G_seq ?_
        refine G_region ?_
        refine GL_step rfl (PS_move rfl) ?_
        refine GL_step rfl (PS_len_str rfl Tryd.underlying9 rfl) ?_
        refine GL_step rfl (PS_gtr rfl rfl) ?_
        refine GL_step rfl (PS_move rfl) ?_
        refine GL_gt (t := 42) rfl rfl rfl (fun q => PS_move rfl) ?_
        refine GL_gt (t := 42) rfl rfl rfl (fun q => by have q1 := q; (try simp at q1); exact PS_index_str Tryd.underlying9 (cvE rfl q) rfl (by decide) (by first | omega | (simp only [Hd.cut]; omega) | (simp only [Hd.cut] at *; omega))) ?_
        refine GL_gt (t := 42) rfl rfl rfl (fun q => PS_eql (cvE rfl q) rfl) ?_
        refine GL_step rfl (PS_and rfl rfl (fun h => h)) ?_
        refine GL_nil ?_
        refine GQ_sub (.cons (k := 0) rfl (.cons (k := 2) rfl (.cons (k := 4) rfl (.cons (k := 8) rfl (.cons (k := 46) rfl (.nil _)))))) ?_
        refine GQ_then ?_
        refine G_cond rfl (fun c4 => ?_) (fun c4 => ?_)
        · skip
          have c4p := c4
          try simp only [decide_eq_true_eq, decide_eq_false_iff_not, Bool.not_eq_true', Bool.not_eq_false', Bool.or_eq_true, Bool.and_eq_true, Bool.or_eq_false_iff, Bool.and_eq_false_iff, Int.not_lt, Int.not_le] at c4p
          have hlt : 0 < r.length := by simp at c4; omega
          refine G_skip ?_
          refine GQ_sub (.cons (k := 0) rfl (.cons (k := 2) rfl (.cons (k := 4) rfl (.cons (k := 8) rfl (.nil _))))) ?_
          refine GQ_then ?_
          refine G_block ?_
          refine G_region ?_
          refine GL_step rfl (PS_move rfl) ?_
          refine GL_step rfl (PS_subSl Tryd.underlying9 rfl rfl (by decide) (by first | omega | (simp only [Hd.cut]; omega) | (simp only [Hd.cut] at *; omega))) ?_
          refine GL_step rfl (PS_assign rfl) ?_
          refine GL_nil ?_
          refine GQ_sub (.cons (k := 0) rfl (.cons (k := 2) rfl (.cons (k := 4) rfl (.cons (k := 8) rfl (.nil _))))) ?_
          refine GQ_block ?_
          refine GQ_next1_ _ ?_ ?_ (.cons (k := 0) rfl (.cons (k := 2) rfl (.cons (k := 4) rfl (.cons (k := 8) rfl (.nil _))))) (.refl _)
          · exact ⟨by rw [hI11, Words.trL_t (c := 32) c4] <;> rfl, by first | (simp; done) | (simp; omega)⟩
          · first | (simp; done) | (simp; omega)
        · skip
          have c4p := c4
          try simp only [decide_eq_true_eq, decide_eq_false_iff_not, Bool.not_eq_true', Bool.not_eq_false', Bool.or_eq_true, Bool.and_eq_true, Bool.or_eq_false_iff, Bool.and_eq_false_iff, Int.not_lt, Int.not_le] at c4p
          have e1 : Words.trL 32 s = r := hI11.trans (Words.trL_f (c := 32) c4)
          refine G_exit ?_
          refine GQ_then_exit ?_
          refine GQ_then_exit ?_
          refine GQ_block_exit ?_
          refine GQ_sub (.cons (k := 0) rfl (.cons (k := 2) rfl (.cons (k := 4) rfl (.cons (k := 8) rfl (.nil _))))) ?_
          refine GQ_then ?_
          refine G_seq ?_
          refine G_block ?_
          refine G_subF (.cons (k := 0) rfl (.cons (k := 2) rfl (.cons (k := 4) rfl (.cons (k := 8) rfl (.nil _))))) ?_
          refine G_loop1_ (fun (q : Str) => Words.dn r = Words.dn q ∧ q.length ≤ s.length) (fun (q : Str) => q.length) (fun (q : Str) => [(0, vstr q)]) (fun (q : Str) => []) (r) ?_ rfl rfl (fun q hI2 => ?_)
          · exact ⟨rfl, by first | exact Nat.le_refl _ | assumption⟩
          obtain ⟨hI21, hI22⟩ := hI2
          refine G_seq ?_
          refine G_seq ?_
          refine G_region ?_
          refine GL_step rfl (PS_move rfl) ?_
          refine GL_step rfl (PS_len_str rfl Tryd.underlying9 rfl) ?_
          refine GL_step rfl (PS_gtr rfl rfl) ?_
          refine GL_step rfl (PS_move rfl) ?_
          refine GL_gt (t := 52) rfl rfl rfl (fun q => PS_move rfl) ?_
          refine GL_gt (t := 52) rfl rfl rfl (fun q => by have q1 := q; (try simp at q1); exact PS_index_str Tryd.underlying9 (cvE rfl q) rfl (by decide) (by first | omega | (simp only [Hd.cut]; omega) | (simp only [Hd.cut] at *; omega))) ?_
          refine GL_gt (t := 52) rfl rfl rfl (fun q => PS_neq (cvE rfl q) rfl) ?_
          refine GL_step rfl (PS_and rfl rfl (fun h => h)) ?_
          refine GL_nil ?_
          refine GQ_sub (.cons (k := 0) rfl (.cons (k := 2) rfl (.cons (k := 4) rfl (.cons (k := 8) rfl (.cons (k := 56) rfl (.nil _)))))) ?_
          refine GQ_then ?_
          refine G_cond rfl (fun c5 => ?_) (fun c5 => ?_)
          · skip
            have c5p := c5
            try simp only [decide_eq_true_eq, decide_eq_false_iff_not, Bool.not_eq_true', Bool.not_eq_false', Bool.or_eq_true, Bool.and_eq_true, Bool.or_eq_false_iff, Bool.and_eq_false_iff, Int.not_lt, Int.not_le] at c5p
            have hlt : 0 < q.length := by simp at c5; omega
            refine G_skip ?_
            refine GQ_sub (.cons (k := 0) rfl (.cons (k := 2) rfl (.cons (k := 4) rfl (.cons (k := 8) rfl (.nil _))))) ?_
            refine GQ_then ?_
            refine G_block ?_
            refine G_region ?_
            refine GL_step rfl (PS_move rfl) ?_
            refine GL_step rfl (PS_subSl Tryd.underlying9 rfl rfl (by decide) (by first | omega | (simp only [Hd.cut]; omega) | (simp only [Hd.cut] at *; omega))) ?_
            refine GL_step rfl (PS_assign rfl) ?_
            refine GL_nil ?_
            refine GQ_sub (.cons (k := 0) rfl (.cons (k := 2) rfl (.cons (k := 4) rfl (.cons (k := 8) rfl (.nil _))))) ?_
            refine GQ_block ?_
            refine GQ_next1_ _ ?_ ?_ (.cons (k := 0) rfl (.cons (k := 2) rfl (.cons (k := 4) rfl (.cons (k := 8) rfl (.nil _))))) (.refl _)
            · exact ⟨by rw [hI21, Words.dn_t c5] <;> rfl, by first | (simp; done) | (simp; omega)⟩
            · first | (simp; done) | (simp; omega)
          · skip
            have c5p := c5
            try simp only [decide_eq_true_eq, decide_eq_false_iff_not, Bool.not_eq_true', Bool.not_eq_false', Bool.or_eq_true, Bool.and_eq_true, Bool.or_eq_false_iff, Bool.and_eq_false_iff, Int.not_lt, Int.not_le] at c5p
            have e2 : Words.dn r = q := hI21.trans (Words.dn_f c5)
            refine G_exit ?_
            refine GQ_then_exit ?_
            refine GQ_then_exit ?_
            refine GQ_block_exit ?_
            refine GQ_sub (.cons (k := 0) rfl (.cons (k := 2) rfl (.cons (k := 4) rfl (.cons (k := 8) rfl (.nil _))))) ?_
            refine GQ_then ?_
            refine G_seq ?_
            refine G_block ?_
            refine G_subF (.cons (k := 0) rfl (.cons (k := 2) rfl (.cons (k := 4) rfl (.cons (k := 8) rfl (.nil _))))) ?_
            refine G_loop1_ (fun (t : Str) => Words.trL 32 q = Words.trL 32 t ∧ t.length ≤ s.length) (fun (t : Str) => t.length) (fun (t : Str) => [(0, vstr t)]) (fun (t : Str) => []) (q) ?_ rfl rfl (fun t hI3 => ?_)
            · exact ⟨rfl, by first | exact Nat.le_refl _ | assumption⟩
            obtain ⟨hI31, hI32⟩ := hI3
            refine G_seq ?_
            refine G_seq ?_
            refine G_region ?_
            refine GL_step rfl (PS_move rfl) ?_
            refine GL_step rfl (PS_len_str rfl Tryd.underlying9 rfl) ?_
            refine GL_step rfl (PS_gtr rfl rfl) ?_
            refine GL_step rfl (PS_move rfl) ?_
            refine GL_gt (t := 62) rfl rfl rfl (fun q => PS_move rfl) ?_
            refine GL_gt (t := 62) rfl rfl rfl (fun q => by have q1 := q; (try simp at q1); exact PS_index_str Tryd.underlying9 (cvE rfl q) rfl (by decide) (by first | omega | (simp only [Hd.cut]; omega) | (simp only [Hd.cut] at *; omega))) ?_
            refine GL_gt (t := 62) rfl rfl rfl (fun q => PS_eql (cvE rfl q) rfl) ?_
            refine GL_step rfl (PS_and rfl rfl (fun h => h)) ?_
            refine GL_nil ?_
            refine GQ_sub (.cons (k := 0) rfl (.cons (k := 2) rfl (.cons (k := 4) rfl (.cons (k := 8) rfl (.cons (k := 66) rfl (.nil _)))))) ?_
            refine GQ_then ?_
            refine G_cond rfl (fun c6 => ?_) (fun c6 => ?_)
            · skip
              have c6p := c6
              try simp only [decide_eq_true_eq, decide_eq_false_iff_not, Bool.not_eq_true', Bool.not_eq_false', Bool.or_eq_true, Bool.and_eq_true, Bool.or_eq_false_iff, Bool.and_eq_false_iff, Int.not_lt, Int.not_le] at c6p
              have hlt : 0 < t.length := by simp at c6; omega
              refine G_skip ?_
              refine GQ_sub (.cons (k := 0) rfl (.cons (k := 2) rfl (.cons (k := 4) rfl (.cons (k := 8) rfl (.nil _))))) ?_
              refine GQ_then ?_
              refine G_block ?_
              refine G_region ?_
              refine GL_step rfl (PS_move rfl) ?_
              refine GL_step rfl (PS_subSl Tryd.underlying9 rfl rfl (by decide) (by first | omega | (simp only [Hd.cut]; omega) | (simp only [Hd.cut] at *; omega))) ?_
              refine GL_step rfl (PS_assign rfl) ?_
              refine GL_nil ?_
              refine GQ_sub (.cons (k := 0) rfl (.cons (k := 2) rfl (.cons (k := 4) rfl (.cons (k := 8) rfl (.nil _))))) ?_
              refine GQ_block ?_
              refine GQ_next1_ _ ?_ ?_ (.cons (k := 0) rfl (.cons (k := 2) rfl (.cons (k := 4) rfl (.cons (k := 8) rfl (.nil _))))) (.refl _)
              · exact ⟨by rw [hI31, Words.trL_t (c := 32) c6] <;> rfl, by first | (simp; done) | (simp; omega)⟩
              · first | (simp; done) | (simp; omega)
            · skip
              have c6p := c6
              try simp only [decide_eq_true_eq, decide_eq_false_iff_not, Bool.not_eq_true', Bool.not_eq_false', Bool.or_eq_true, Bool.and_eq_true, Bool.or_eq_false_iff, Bool.and_eq_false_iff, Int.not_lt, Int.not_le] at c6p
              have e3 : Words.trL 32 q = t := hI31.trans (Words.trL_f (c := 32) c6)
              refine G_exit ?_
              refine GQ_then_exit ?_
              refine GQ_then_exit ?_
              refine GQ_block_exit ?_
              refine GQ_sub (.cons (k := 0) rfl (.cons (k := 2) rfl (.cons (k := 4) rfl (.cons (k := 8) rfl (.nil _))))) ?_
              refine GQ_then ?_
              refine G_seq ?_
              refine G_block ?_
              refine G_subF (.cons (k := 0) rfl (.cons (k := 2) rfl (.cons (k := 4) rfl (.cons (k := 8) rfl (.nil _))))) ?_
              refine G_loop1_ (fun (z : Str) => Words.trR 32 t = Words.trR 32 z ∧ z.length ≤ s.length) (fun (z : Str) => z.length) (fun (z : Str) => [(0, vstr z)]) (fun (z : Str) => []) (t) ?_ rfl rfl (fun z hI4 => ?_)
              · exact ⟨rfl, by first | exact Nat.le_refl _ | assumption⟩
              obtain ⟨hI41, hI42⟩ := hI4
              refine G_seq ?_
              refine G_seq ?_
              refine G_region ?_
              refine GL_step rfl (PS_move rfl) ?_
              refine GL_step rfl (PS_len_str rfl Tryd.underlying9 rfl) ?_
              refine GL_step rfl (PS_gtr rfl rfl) ?_
              refine GL_step rfl (PS_move rfl) ?_
              refine GL_gt (t := 72) rfl rfl rfl (fun q => PS_move rfl) ?_
              refine GL_gt (t := 72) rfl rfl rfl (fun q => PS_move rfl) ?_
              refine GL_gt (t := 72) rfl rfl rfl (fun q => PS_len_str rfl Tryd.underlying9 (cvE rfl q)) ?_
              refine GL_gt (t := 72) rfl rfl rfl (fun q => by have q1 := q; (try simp at q1); exact PS_sub (cvE rfl q) rfl (IntWalk.i64_in _ (by first | omega | (simp only [Hd.cut]; omega) | (simp only [Hd.cut] at *; omega)))) ?_
              refine GL_gt (t := 72) rfl rfl rfl (fun q => by have q1 := q; (try simp at q1); exact PS_index_str Tryd.underlying9 (cvE rfl q) (cvE rfl q) (by first | omega | (simp only [Hd.cut]; omega) | (simp only [Hd.cut] at *; omega)) (by first | omega | (simp only [Hd.cut]; omega) | (simp only [Hd.cut] at *; omega))) ?_
              refine GL_gt (t := 72) rfl rfl rfl (fun q => PS_eql (cvE rfl q) rfl) ?_
              refine GL_step rfl (PS_and rfl rfl (fun h => h)) ?_
              refine GL_nil ?_
              refine GQ_sub (.cons (k := 0) rfl (.cons (k := 2) rfl (.cons (k := 4) rfl (.cons (k := 8) rfl (.cons (k := 79) rfl (.nil _)))))) ?_
              refine GQ_then ?_
              refine G_cond rfl (fun c7 => ?_) (fun c7 => ?_)
              · skip
                have c7p := c7
                try simp only [decide_eq_true_eq, decide_eq_false_iff_not, Bool.not_eq_true', Bool.not_eq_false', Bool.or_eq_true, Bool.and_eq_true, Bool.or_eq_false_iff, Bool.and_eq_false_iff, Int.not_lt, Int.not_le] at c7p
                have hlt : 0 < z.length := by simp at c7; omega
                refine G_skip ?_
                refine GQ_sub (.cons (k := 0) rfl (.cons (k := 2) rfl (.cons (k := 4) rfl (.cons (k := 8) rfl (.nil _))))) ?_
                refine GQ_then ?_
                refine G_block ?_
                refine G_region ?_
                refine GL_step rfl (PS_move rfl) ?_
                refine GL_step rfl (PS_move rfl) ?_
                refine GL_step rfl (PS_len_str rfl Tryd.underlying9 rfl) ?_
                refine GL_step rfl (PS_sub rfl rfl (IntWalk.i64_in _ (by first | omega | (simp only [Hd.cut]; omega) | (simp only [Hd.cut] at *; omega)))) ?_
                refine GL_step rfl (PS_subSh Tryd.underlying9 rfl rfl (by first | omega | (simp only [Hd.cut]; omega) | (simp only [Hd.cut] at *; omega)) (by first | omega | (simp only [Hd.cut]; omega) | (simp only [Hd.cut] at *; omega))) ?_
                refine GL_step rfl (PS_assign rfl) ?_
                refine GL_nil ?_
                refine GQ_sub (.cons (k := 0) rfl (.cons (k := 2) rfl (.cons (k := 4) rfl (.cons (k := 8) rfl (.nil _))))) ?_
                refine GQ_block ?_
                refine GQ_next1_ _ ?_ ?_ (.cons (k := 0) rfl (.cons (k := 2) rfl (.cons (k := 4) rfl (.cons (k := 8) rfl (.nil _))))) (.refl _)
                · exact ⟨by rw [hI41, Words.trR_t (c := 32) c7] <;> rfl, by first | (simp; done) | (simp; omega)⟩
                · first | (simp; done) | (simp; omega)
              · skip
                have c7p := c7
                try simp only [decide_eq_true_eq, decide_eq_false_iff_not, Bool.not_eq_true', Bool.not_eq_false', Bool.or_eq_true, Bool.and_eq_true, Bool.or_eq_false_iff, Bool.and_eq_false_iff, Int.not_lt, Int.not_le] at c7p
                have e4 : Words.trR 32 t = z := hI41.trans (Words.trR_f (c := 32) c7)
                refine G_exit ?_
                refine GQ_then_exit ?_
                refine GQ_then_exit ?_
                refine GQ_block_exit ?_
                refine GQ_sub (.cons (k := 0) rfl (.cons (k := 2) rfl (.cons (k := 4) rfl (.cons (k := 8) rfl (.nil _))))) ?_
                refine GQ_then ?_
                refine G_seq ?_
                refine G_seq ?_
                refine G_region ?_
                refine GL_step rfl (PS_move rfl) ?_
                refine GL_step rfl (PS_eql_str rfl rfl) ?_
                refine GL_nil ?_
                refine GQ_sub (.cons (k := 0) rfl (.cons (k := 2) rfl (.cons (k := 4) rfl (.cons (k := 8) rfl (.cons (k := 86) rfl (.nil _)))))) ?_
                refine GQ_then ?_
                refine G_cond rfl (fun c8 => ?_) (fun c8 => ?_)
                · skip
                  have c8p := c8
                  try simp only [decide_eq_true_eq, decide_eq_false_iff_not, Bool.not_eq_true', Bool.not_eq_false', Bool.or_eq_true, Bool.and_eq_true, Bool.or_eq_false_iff, Bool.and_eq_false_iff, Int.not_lt, Int.not_le] at c8p
                  refine G_seq ?_
                  refine G_region ?_
                  refine GL_step rfl (PS_build pl23 zv23 rfl .nil) ?_
                  refine GL_step rfl (PS_move rfl) ?_
                  refine GL_unit (PU_store (Lens.id Order.fl.len Order.fl.one) rfl rfl rfl sz23 rfl (.tail (.tail .head))) ?_
                  refine GL_step rfl (PS_assign rfl) ?_
                  refine GL_nil ?_
                  refine GQ_sub (.cons (k := 2) rfl (.cons (k := 3) rfl (.nil _))) ?_
                  refine GQ_then ?_
                  refine G_ret ?_
                  refine GQ_then_ret ?_
                  refine GQ_then_ret ?_
                  refine GQ_ret rfl (.cell rfl (.tail _ (.tail _ (.head _))) (.inl ⟨(by rw [Order.fl.len]; exact tya23), rfl⟩) (.tmp rfl .nil)) ?_
                  intro w1 hS; refine ⟨?_, hS.toKeep⟩; have hz : Words.saidR s = z := by unfold Words.saidR; rw [e1, e2, e3, e4]
                  rw [← Words.parseR_eq, show Words.parseR s = _ from ((if_f c1).trans ((if_f c2).trans (if_t c3))), hz, if_t c8]; rfl
                · skip
                  have c8p := c8
                  try simp only [decide_eq_true_eq, decide_eq_false_iff_not, Bool.not_eq_true', Bool.not_eq_false', Bool.or_eq_true, Bool.and_eq_true, Bool.or_eq_false_iff, Bool.and_eq_false_iff, Int.not_lt, Int.not_le] at c8p
                  refine G_skip ?_
                  refine GQ_sub (.cons (k := 0) rfl (.cons (k := 2) rfl (.cons (k := 8) rfl (.nil _)))) ?_
                  refine GQ_then ?_
                  refine G_seq ?_
                  refine G_region ?_
                  refine GL_step rfl (PS_move rfl) ?_
                  refine GL_step rfl (PS_fieldAddr fa23_5 rfl) ?_
                  refine GL_unit (PU_store Order.l5 rfl rfl rfl sz9 rfl .head) ?_
                  refine GL_nil ?_
                  refine GQ_sub (.cons (k := 2) rfl (.cons (k := 8) rfl (.nil _))) ?_
                  refine GQ_then ?_
                  refine G_seq ?_
                  refine G_region ?_
                  refine GL_step rfl (PS_loadA rfl tya23 (.head _) (Lens.id Order.fl.len Order.fl.one) rfl) ?_
                  refine GL_unit (PU_store (Lens.id Order.fl.len Order.fl.one) rfl rfl rfl sz23 rfl (.tail (.tail .head))) ?_
                  refine GL_step rfl (PS_assign rfl) ?_
                  refine GL_nil ?_
                  refine GQ_sub (.cons (k := 2) rfl (.cons (k := 3) rfl (.nil _))) ?_
                  refine GQ_then ?_
                  refine G_ret ?_
                  refine GQ_then_ret ?_
                  refine GQ_ret rfl (.cell rfl (.tail _ (.tail _ (.head _))) (.inl ⟨(by rw [Order.fl.len]; exact tya23), rfl⟩) (.tmp rfl .nil)) ?_
                  intro w1 hS; refine ⟨?_, hS.toKeep⟩; have hz : Words.saidR s = z := by unfold Words.saidR; rw [e1, e2, e3, e4]
                  rw [← Words.parseR_eq, show Words.parseR s = _ from ((if_f c1).trans ((if_f c2).trans (if_t c3))), hz, if_f c8]; rfl
      · skip
        have c3p := c3
        try simp only [decide_eq_true_eq, decide_eq_false_iff_not, Bool.not_eq_true', Bool.not_eq_false', Bool.or_eq_true, Bool.and_eq_true, Bool.or_eq_false_iff, Bool.and_eq_false_iff, Int.not_lt, Int.not_le] at c3p
        refine G_skip ?_
        refine GQ_sub (.cons (k := 2) rfl (.cons (k := 4) rfl (.cons (k := 5) rfl (.cons (k := 6) rfl (.cons (k := 8) rfl (.nil _)))))) ?_
        refine GQ_then ?_
        refine G_seq ?_
        refine G_region ?_
        refine GL_step rfl (PS_move rfl) ?_
        refine GL_step rfl (PS_lss rfl rfl) ?_
        refine GL_step rfl (PS_move rfl) ?_
        refine GL_gf (t := 94) rfl rfl rfl (fun q => PS_move rfl) ?_
        refine GL_gf (t := 94) rfl rfl rfl (fun q => PS_gtr (cvE rfl (by rw [q]; rfl)) rfl) ?_
        refine GL_step rfl (PS_or rfl rfl (fun h => by rw [h]; rfl)) ?_
        refine GL_step rfl (PS_assign rfl) ?_
        refine GL_nil ?_
        refine GQ_sub (.cons (k := 2) rfl (.cons (k := 4) rfl (.cons (k := 5) rfl (.cons (k := 6) rfl (.cons (k := 8) rfl (.cons (k := 9) rfl (.nil _))))))) ?_
        refine GQ_then ?_
        refine G_seq ?_
        refine G_seq ?_
        refine G_region ?_
        refine GL_step rfl (PS_move rfl) ?_
        refine GL_step rfl (PS_move rfl) ?_
        refine GL_step rfl (PS_len_slice rfl Tryd.underlying28 rfl) ?_
        refine GL_step rfl (PS_eql rfl rfl) ?_
        refine GL_step rfl (PS_neq_bool Tryd.underlying4 rfl rfl) ?_
        refine GL_nil ?_
        refine GQ_sub (.cons (k := 2) rfl (.cons (k := 4) rfl (.cons (k := 5) rfl (.cons (k := 6) rfl (.cons (k := 8) rfl (.cons (k := 9) rfl (.cons (k := 102) rfl (.nil _)))))))) ?_
        refine GQ_then ?_
        refine G_cond rfl (fun c9 => ?_) (fun c9 => ?_)
        · skip
          have c9p := c9
          try simp only [decide_eq_true_eq, decide_eq_false_iff_not, Bool.not_eq_true', Bool.not_eq_false', Bool.or_eq_true, Bool.and_eq_true, Bool.or_eq_false_iff, Bool.and_eq_false_iff, Int.not_lt, Int.not_le] at c9p
          (try simp only [Hd.cut] at c9)
          rw [hlen] at c9
          refine G_seq ?_
          refine G_region ?_
          refine GL_step rfl (PS_build pl23 zv23 rfl .nil) ?_
          refine GL_step rfl (PS_move rfl) ?_
          refine GL_unit (PU_store (Lens.id Order.fl.len Order.fl.one) rfl rfl rfl sz23 rfl (.tail (.tail .head))) ?_
          refine GL_step rfl (PS_assign rfl) ?_
          refine GL_nil ?_
          refine GQ_sub (.cons (k := 2) rfl (.cons (k := 3) rfl (.nil _))) ?_
          refine GQ_then ?_
          refine G_ret ?_
          refine GQ_then_ret ?_
          refine GQ_ret rfl (.cell rfl (.tail _ (.tail _ (.head _))) (.inl ⟨(by rw [Order.fl.len]; exact tya23), rfl⟩) (.tmp rfl .nil)) ?_
          intro w1 hS; refine ⟨?_, hS.toKeep⟩; rw [← Words.parseR_eq, show Words.parseR s = _ from ((if_f c1).trans ((if_f c2).trans ((if_f c3).trans (if_t c9))))]; rfl
        · skip
          have c9p := c9
          try simp only [decide_eq_true_eq, decide_eq_false_iff_not, Bool.not_eq_true', Bool.not_eq_false', Bool.or_eq_true, Bool.and_eq_true, Bool.or_eq_false_iff, Bool.and_eq_false_iff, Int.not_lt, Int.not_le] at c9p
          (try simp only [Hd.cut] at c9)
          rw [hlen] at c9
          have k9 := c9
          refine G_skip ?_
          refine GQ_sub (.cons (k := 2) rfl (.cons (k := 4) rfl (.cons (k := 5) rfl (.cons (k := 6) rfl (.cons (k := 8) rfl (.cons (k := 9) rfl (.nil _))))))) ?_
          refine GQ_then ?_
          refine G_seq ?_
          refine G_seq ?_
          refine G_region ?_
          refine GL_step rfl (PS_move rfl) ?_
          refine GL_nil ?_
          refine GQ_sub (.cons (k := 2) rfl (.cons (k := 4) rfl (.cons (k := 5) rfl (.cons (k := 6) rfl (.cons (k := 8) rfl (.cons (k := 105) rfl (.nil _))))))) ?_
          refine GQ_then ?_
          refine G_cond rfl (fun c10 => ?_) (fun c10 => ?_)
          · skip
            have c10p := c10
            try simp only [decide_eq_true_eq, decide_eq_false_iff_not, Bool.not_eq_true', Bool.not_eq_false', Bool.or_eq_true, Bool.and_eq_true, Bool.or_eq_false_iff, Bool.and_eq_false_iff, Int.not_lt, Int.not_le] at c10p
            refine G_seq ?_
            refine G_region ?_
            refine GL_step rfl (PS_loadA rfl tya23 (.head _) (Lens.id Order.fl.len Order.fl.one) rfl) ?_
            refine GL_unit (PU_store (Lens.id Order.fl.len Order.fl.one) rfl rfl rfl sz23 rfl (.tail (.tail .head))) ?_
            refine GL_step rfl (PS_assign rfl) ?_
            refine GL_nil ?_
            refine GQ_sub (.cons (k := 2) rfl (.cons (k := 3) rfl (.nil _))) ?_
            refine GQ_then ?_
            refine G_ret ?_
            refine GQ_then_ret ?_
            refine GQ_ret rfl (.cell rfl (.tail _ (.tail _ (.head _))) (.inl ⟨(by rw [Order.fl.len]; exact tya23), rfl⟩) (.tmp rfl .nil)) ?_
            intro w1 hS; refine ⟨?_, hS.toKeep⟩; rw [← Words.parseR_eq, show Words.parseR s = _ from ((if_f c1).trans ((if_f c2).trans ((if_f c3).trans ((if_f c9).trans (if_t c10)))))]; rfl
          · skip
            have c10p := c10
            try simp only [decide_eq_true_eq, decide_eq_false_iff_not, Bool.not_eq_true', Bool.not_eq_false', Bool.or_eq_true, Bool.and_eq_true, Bool.or_eq_false_iff, Bool.and_eq_false_iff, Int.not_lt, Int.not_le] at c10p
            have hl2 : 2 ≤ (Words.words s).length := Words.two_of k9 c10 (by simpa using c1)
            refine G_skip ?_
            refine GQ_sub (.cons (k := 2) rfl (.cons (k := 4) rfl (.cons (k := 5) rfl (.cons (k := 6) rfl (.cons (k := 8) rfl (.nil _)))))) ?_
            refine GQ_then ?_
            refine G_seq ?_
            refine G_seq ?_
            refine G_region ?_
            refine GL_step rfl (PS_move rfl) ?_
            refine GL_step rfl (PS_idxS is28 (by decide) (Kn.own (.tail _ (.head _))) rfl rfl (by omega) (by first | omega | (simp only [Hd.cut] at *; omega) | (simp [Hd.cut] at q ⊢; omega))) ?_
            refine GL_step rfl (PS_ldStr rfl tys9 (Kn.own (.tail _ (.head _))) (by first | omega | (simp only [List.length_drop, Hd.cut] at *; omega) | (simp [Hd.cut] at q ⊢; omega))) ?_
            refine GL_pure rfl cf17 (.cons rfl .nil) (fun w hS => ref_VerbOf_spec _ w (gl0.st hS)) ?_
            refine GL_step rfl (PS_move rfl) ?_
            refine GL_step rfl (PS_extract rfl rfl) ?_
            refine GL_step rfl (PS_extract rfl rfl) ?_
            refine GL_step rfl (PS_assign rfl) ?_
            refine GL_step rfl (PS_assign rfl) ?_
            refine GL_nil ?_
            refine GQ_sub (.cons (k := 2) rfl (.cons (k := 4) rfl (.cons (k := 5) rfl (.cons (k := 6) rfl (.cons (k := 8) rfl (.cons (k := 10) rfl (.cons (k := 11) rfl (.nil _)))))))) ?_
            refine GQ_then ?_
            refine G_seq ?_
            refine G_region ?_
            refine GL_step rfl (PS_move rfl) ?_
            refine GL_step rfl (PS_eql rfl rfl) ?_
            refine GL_step rfl (PS_move rfl) ?_
            refine GL_gf (t := 116) rfl rfl rfl (fun q => PS_move rfl) ?_
            refine GL_gf (t := 116) rfl rfl rfl (fun q => PS_eql (cvE rfl (by rw [q]; rfl)) rfl) ?_
            refine GL_step rfl (PS_or rfl rfl (fun h => by rw [h]; rfl)) ?_
            refine GL_step rfl (PS_move rfl) ?_
            refine GL_gt (t := 120) rfl rfl rfl (fun q => PS_move rfl) ?_
            refine GL_gt (t := 120) rfl rfl rfl (fun q => PS_len_slice rfl Tryd.underlying28 (cvE rfl q)) ?_
            refine GL_gt (t := 120) rfl rfl rfl (fun q => PS_eql (cvE rfl q) rfl) ?_
            refine GL_step rfl (PS_and rfl rfl (fun h => h)) ?_
            refine GL_step rfl (PS_move rfl) ?_
            refine GL_gt (t := 125) rfl rfl rfl (fun q => PS_move rfl) ?_
            refine GL_gt (t := 125) rfl rfl rfl (fun q => PS_eql (cvE rfl q) rfl) ?_
            refine GL_step rfl (PS_and rfl rfl (fun h => h)) ?_
            refine GL_step rfl (PS_move rfl) ?_
            refine GL_gt (t := 129) rfl rfl rfl (fun q => PS_move rfl) ?_
            refine GL_gt (t := 129) rfl rfl rfl (fun q => PS_lss (cvE rfl q) rfl) ?_
            refine GL_step rfl (PS_and rfl rfl (fun h => h)) ?_
            refine GL_nil ?_
            refine GQ_sub (.cons (k := 2) rfl (.cons (k := 4) rfl (.cons (k := 5) rfl (.cons (k := 6) rfl (.cons (k := 8) rfl (.cons (k := 10) rfl (.cons (k := 132) rfl (.nil _)))))))) ?_
            refine GQ_then ?_
            refine G_cond rfl (fun c11 => ?_) (fun c11 => ?_)
            · skip
              have c11p := c11
              try simp only [decide_eq_true_eq, decide_eq_false_iff_not, Bool.not_eq_true', Bool.not_eq_false', Bool.or_eq_true, Bool.and_eq_true, Bool.or_eq_false_iff, Bool.and_eq_false_iff, Int.not_lt, Int.not_le] at c11p
              (try simp only [Hd.cut] at c11)
              rw [hlen] at c11
              have hd : 0 ≤ (Words.verb (((Words.words s)).getD (1 : Int).toNat [])).1 ∧ (Words.verb (((Words.words s)).getD (1 : Int).toNat [])).1 < 6 := ⟨(Words.verb_rng _).1, by have h := c11; rw [Bool.and_eq_true] at h; exact of_decide_eq_true h.2⟩
              refine G_seq ?_
              refine G_region ?_
              refine GL_step rfl (PS_move rfl) ?_
              refine GL_step rfl (PS_indexAddr ia46 rfl rfl (by first | omega | (simp only [Hd.cut]; omega) | (simp only [Hd.cut] at *; omega)) (by first | omega | (simp only [Hd.cut]; omega) | (simp only [Hd.cut] at *; omega))) ?_
              refine GL_step rfl (PS_ldGV gl0 rfl tys9 (Land.verbs_at hd.1 hd.2)) ?_
              refine GL_step rfl (PS_fieldAddr fa23_3 rfl) ?_
              refine GL_unit (PU_store Order.l3 rfl rfl rfl sz9 rfl .head) ?_
              refine GL_step rfl (PS_fieldAddr fa23_1 rfl) ?_
              refine GL_unit (PU_store Order.l1 rfl rfl rfl sz3 rfl .head) ?_
              refine GL_nil ?_
              refine GQ_sub (.cons (k := 2) rfl (.cons (k := 8) rfl (.nil _))) ?_
              refine GQ_then ?_
              refine G_seq ?_
              refine G_region ?_
              refine GL_step rfl (PS_loadA rfl tya23 (.head _) (Lens.id Order.fl.len Order.fl.one) rfl) ?_
              refine GL_unit (PU_store (Lens.id Order.fl.len Order.fl.one) rfl rfl rfl sz23 rfl (.tail (.tail .head))) ?_
              refine GL_step rfl (PS_assign rfl) ?_
              refine GL_nil ?_
              refine GQ_sub (.cons (k := 2) rfl (.cons (k := 3) rfl (.nil _))) ?_
              refine GQ_then ?_
              refine G_ret ?_
              refine GQ_then_ret ?_
              refine GQ_ret rfl (.cell rfl (.tail _ (.tail _ (.head _))) (.inl ⟨(by rw [Order.fl.len]; exact tya23), rfl⟩) (.tmp rfl .nil)) ?_
              intro w1 hS; refine ⟨?_, hS.toKeep⟩; rw [← Words.parseR_eq, show Words.parseR s = _ from ((if_f c1).trans ((if_f c2).trans ((if_f c3).trans ((if_f c9).trans ((if_f c10).trans (if_t c11))))))]; rfl
            · skip
              have c11p := c11
              try simp only [decide_eq_true_eq, decide_eq_false_iff_not, Bool.not_eq_true', Bool.not_eq_false', Bool.or_eq_true, Bool.and_eq_true, Bool.or_eq_false_iff, Bool.and_eq_false_iff, Int.not_lt, Int.not_le] at c11p
              (try simp only [Hd.cut] at c11)
              rw [hlen] at c11
              refine G_skip ?_
              refine GQ_sub (.cons (k := 2) rfl (.cons (k := 4) rfl (.cons (k := 5) rfl (.cons (k := 6) rfl (.cons (k := 8) rfl (.nil _)))))) ?_
              refine GQ_then ?_
              refine G_seq ?_
              refine G_region ?_
              refine GL_step rfl (PS_move rfl) ?_
              refine GL_step rfl (PS_idxS is28 (by decide) (Kn.own (.tail _ (.head _))) rfl rfl (by omega) (by first | omega | (simp only [Hd.cut] at *; omega) | (simp [Hd.cut] at q ⊢; omega))) ?_
              refine GL_step rfl (PS_ldStr rfl tys9 (Kn.own (.tail _ (.head _))) (by first | omega | (simp only [List.length_drop, Hd.cut] at *; omega) | (simp [Hd.cut] at q ⊢; omega))) ?_
              refine GL_pure rfl cf19 (.cons rfl .nil) (fun w hS => ref_NounOf_spec _ (by have := Words.words_le s (1 : Int).toNat; omega) w) ?_
              refine GL_step rfl (PS_move rfl) ?_
              refine GL_step rfl (PS_extract rfl rfl) ?_
              refine GL_step rfl (PS_extract rfl rfl) ?_
              refine GL_step rfl (PS_extract rfl rfl) ?_
              refine GL_step rfl (PS_extract rfl rfl) ?_
              refine GL_step rfl (PS_assign rfl) ?_
              refine GL_step rfl (PS_assign rfl) ?_
              refine GL_step rfl (PS_assign rfl) ?_
              refine GL_step rfl (PS_assign rfl) ?_
              refine GL_nil ?_
              refine GQ_sub (.cons (k := 2) rfl (.cons (k := 4) rfl (.cons (k := 5) rfl (.cons (k := 6) rfl (.cons (k := 7) rfl (.cons (k := 8) rfl (.cons (k := 12) rfl (.cons (k := 13) rfl (.cons (k := 14) rfl (.nil _)))))))))) ?_
              refine GQ_then ?_
              refine G_seq ?_
              refine G_seq ?_
              refine G_region ?_
              refine GL_step rfl (PS_move rfl) ?_
              refine GL_step rfl (PS_neq rfl rfl) ?_
              refine GL_step rfl (PS_move rfl) ?_
              refine GL_gf (t := 150) rfl rfl rfl (fun q => PS_move rfl) ?_
              refine GL_gf (t := 150) rfl rfl rfl (fun q => PS_move (cvE rfl (by rw [q]; rfl))) ?_
              refine GL_gtc (t := 152) rfl rfl rfl (fun qc q => PS_move rfl) ?_
              refine GL_gtc (t := 152) rfl rfl rfl (fun qc q => PS_neq (cvE rfl (by rw [qc, q]; rfl)) rfl) ?_
              refine GL_gf (t := 150) rfl rfl rfl (fun q => PS_and (cvE rfl (by rw [q]; rfl)) rfl (fun h => by rw [q, h]; rfl)) ?_
              refine GL_gf (t := 150) rfl rfl rfl (fun q => PS_move (cvE rfl (by rw [q]; rfl))) ?_
              refine GL_gtc (t := 156) rfl rfl rfl (fun qc q => PS_move rfl) ?_
              refine GL_gtc (t := 156) rfl rfl rfl (fun qc q => PS_neq (cvE rfl (by rw [qc, q]; rfl)) rfl) ?_
              refine GL_gf (t := 150) rfl rfl rfl (fun q => PS_and (cvE rfl (by rw [q]; rfl)) rfl (fun h => by rw [q, h]; rfl)) ?_
              refine GL_gf (t := 150) rfl rfl rfl (fun q => PS_move (cvE rfl (by rw [q]; rfl))) ?_
              refine GL_gtc (t := 160) rfl rfl rfl (fun qc q => PS_move rfl) ?_
              refine GL_gtc (t := 160) rfl rfl rfl (fun qc q => PS_neq (cvE rfl (by rw [qc, q]; rfl)) rfl) ?_
              refine GL_gf (t := 150) rfl rfl rfl (fun q => PS_and (cvE rfl (by rw [q]; rfl)) rfl (fun h => by rw [q, h]; rfl)) ?_
              refine GL_step rfl (PS_or rfl rfl (fun h => by rw [h]; rfl)) ?_
              refine GL_nil ?_
              refine GQ_sub (.cons (k := 2) rfl (.cons (k := 4) rfl (.cons (k := 5) rfl (.cons (k := 6) rfl (.cons (k := 8) rfl (.cons (k := 12) rfl (.cons (k := 13) rfl (.cons (k := 14) rfl (.cons (k := 164) rfl (.nil _)))))))))) ?_
              refine GQ_then ?_
              refine G_cond rfl (fun c12 => ?_) (fun c12 => ?_)
              · skip
                have c12p := c12
                try simp only [decide_eq_true_eq, decide_eq_false_iff_not, Bool.not_eq_true', Bool.not_eq_false', Bool.or_eq_true, Bool.and_eq_true, Bool.or_eq_false_iff, Bool.and_eq_false_iff, Int.not_lt, Int.not_le] at c12p
                refine G_seq ?_
                refine G_region ?_
                refine GL_step rfl (PS_build pl23 zv23 rfl .nil) ?_
                refine GL_step rfl (PS_move rfl) ?_
                refine GL_unit (PU_store (Lens.id Order.fl.len Order.fl.one) rfl rfl rfl sz23 rfl (.tail (.tail .head))) ?_
                refine GL_step rfl (PS_assign rfl) ?_
                refine GL_nil ?_
                refine GQ_sub (.cons (k := 2) rfl (.cons (k := 3) rfl (.nil _))) ?_
                refine GQ_then ?_
                refine G_ret ?_
                refine GQ_then_ret ?_
                refine GQ_ret rfl (.cell rfl (.tail _ (.tail _ (.head _))) (.inl ⟨(by rw [Order.fl.len]; exact tya23), rfl⟩) (.tmp rfl .nil)) ?_
                intro w1 hS; refine ⟨?_, hS.toKeep⟩; rw [← Words.parseR_eq, show Words.parseR s = _ from ((if_f c1).trans ((if_f c2).trans ((if_f c3).trans ((if_f c9).trans ((if_f c10).trans ((if_f c11).trans (if_t c12)))))))]; rfl
              · skip
                have c12p := c12
                try simp only [decide_eq_true_eq, decide_eq_false_iff_not, Bool.not_eq_true', Bool.not_eq_false', Bool.or_eq_true, Bool.and_eq_true, Bool.or_eq_false_iff, Bool.and_eq_false_iff, Int.not_lt, Int.not_le] at c12p
                refine G_skip ?_
                refine GQ_sub (.cons (k := 2) rfl (.cons (k := 4) rfl (.cons (k := 5) rfl (.cons (k := 6) rfl (.cons (k := 8) rfl (.cons (k := 12) rfl (.cons (k := 13) rfl (.cons (k := 14) rfl (.nil _))))))))) ?_
                refine GQ_then ?_
                refine G_seq ?_
                refine G_region ?_
                refine GL_step rfl (PS_move rfl) ?_
                refine GL_step rfl (PS_move rfl) ?_
                refine GL_step rfl (PS_move rfl) ?_
                refine GL_step rfl (PS_fieldAddr fa23_1 rfl) ?_
                refine GL_unit (PU_store Order.l1 rfl rfl rfl sz3 rfl .head) ?_
                refine GL_step rfl (PS_fieldAddr fa23_3 rfl) ?_
                refine GL_unit (PU_store Order.l3 rfl rfl rfl sz9 rfl .head) ?_
                refine GL_step rfl (PS_fieldAddr fa23_2 rfl) ?_
                refine GL_unit (PU_store Order.l2 rfl rfl rfl sz4 rfl .head) ?_
                refine GL_nil ?_
                refine GQ_sub (.cons (k := 2) rfl (.cons (k := 4) rfl (.cons (k := 5) rfl (.cons (k := 6) rfl (.cons (k := 8) rfl (.nil _)))))) ?_
                refine GQ_then ?_
                refine G_seq ?_
                refine G_region ?_
                refine GL_step rfl (PS_move rfl) ?_
                refine GL_cutFromF flS rfl Tryd.underlying28 sz9 rfl rfl (by decide) (by first | omega | (simp only [Hd.cut]; omega) | (simp only [Hd.cut] at *; omega)) (fun _ => (.tail .head)) ?_
                refine GL_step rfl (PS_assign rfl) ?_
                refine GL_nil ?_
                refine GQ_sub (.cons (k := 2) rfl (.cons (k := 4) rfl (.cons (k := 6) rfl (.cons (k := 8) rfl (.cons (k := 15) rfl (.nil _)))))) ?_
                refine GQ_then ?_
                refine G_seq ?_
                refine G_region ?_
                refine GL_makeMap rfl (fun b3 => ?_)
                refine GL_unit (PU_mapSet Tryd.underlying50 Tryd.underlying3 rfl rfl rfl rfl .head).2 ?_
                refine GL_unit (PU_mapSet Tryd.underlying50 Tryd.underlying3 rfl rfl rfl rfl .head).2 ?_
                refine GL_unit (PU_mapSet Tryd.underlying50 Tryd.underlying3 rfl rfl rfl rfl .head).2 ?_
                refine GL_step rfl (PS_move rfl) ?_
                refine GL_step rfl (PS_move rfl) ?_
                refine GL_step rfl (PS_conv (PS_lookup1 Tryd.underlying50 Tryd.underlying3 zv9 rfl rfl (.head _)) (Words.join_look _)) ?_
                refine GL_step rfl (PS_assign rfl) ?_
                refine GL_nil ?_
                refine GQ_sub (.cons (k := 2) rfl (.cons (k := 4) rfl (.cons (k := 6) rfl (.cons (k := 8) rfl (.cons (k := 15) rfl (.cons (k := 16) rfl (.nil _))))))) ?_
                refine GQ_then ?_
                refine G_seq ?_
                refine G_seq ?_
                refine G_region ?_
                refine GL_step rfl (PS_move rfl) ?_
                refine GL_step rfl (PS_neq_str rfl rfl) ?_
                refine GL_step rfl (PS_move rfl) ?_
                refine GL_gt (t := 181) rfl rfl rfl (fun q => PS_move rfl) ?_
                refine GL_gt (t := 181) rfl rfl rfl (fun q => PS_len_slice rfl Tryd.underlying28 (cvE rfl q)) ?_
                refine GL_gt (t := 181) rfl rfl rfl (fun q => PS_gtr (cvE rfl q) rfl) ?_
                refine GL_step rfl (PS_and rfl rfl (fun h => h)) ?_
                refine GL_step rfl (PS_move rfl) ?_
                refine GL_gt (t := 186) rfl rfl rfl (fun q => PS_move rfl) ?_
                refine GL_gt (t := 186) rfl rfl rfl (fun q => by have q1 := q; (try simp at q1); exact PS_idxS is28 (by decide) (Kn.own (.tail _ (.tail _ (.head _)))) (cvE rfl q) rfl (by omega) (by first | omega | (simp only [Hd.cut] at *; omega) | (simp [Hd.cut] at q ⊢; omega))) ?_
                refine GL_gt (t := 186) rfl rfl rfl (fun q => by have q1 := q; (try simp at q1); exact PS_ldStr (cvE rfl q) tys9 (Kn.own (.tail _ (.tail _ (.head _)))) (by first | omega | (simp only [List.length_drop, Hd.cut] at *; omega) | (simp [Hd.cut] at q ⊢; omega))) ?_
                refine GL_gt (t := 186) rfl rfl rfl (fun q => PS_move rfl) ?_
                refine GL_gt (t := 186) rfl rfl rfl (fun q => PS_eql_str (cvE rfl q) (cvE rfl q)) ?_
                refine GL_step rfl (PS_and rfl rfl (fun h => h)) ?_
                refine GL_nil ?_
                refine GQ_sub (.cons (k := 2) rfl (.cons (k := 4) rfl (.cons (k := 6) rfl (.cons (k := 8) rfl (.cons (k := 15) rfl (.cons (k := 16) rfl (.cons (k := 192) rfl (.nil _)))))))) ?_
                refine GQ_then ?_
                refine G_cond rfl (fun c13 => ?_) (fun c13 => ?_)
                · skip
                  have c13p := c13
                  try simp only [decide_eq_true_eq, decide_eq_false_iff_not, Bool.not_eq_true', Bool.not_eq_false', Bool.or_eq_true, Bool.and_eq_true, Bool.or_eq_false_iff, Bool.and_eq_false_iff, Int.not_lt, Int.not_le] at c13p
                  (try simp only [Hd.cut] at c13)
                  rw [hlen] at c13
                  refine G_seq ?_
                  refine G_region ?_
                  refine GL_step rfl (PS_move rfl) ?_
                  refine GL_cutFromF flS rfl Tryd.underlying28 sz9 rfl rfl (by decide) (by first | omega | (simp only [Hd.cut]; omega) | (simp only [Hd.cut] at *; omega)) (fun _ => (.tail (.tail .head))) ?_
                  refine GL_step rfl (PS_assign rfl) ?_
                  refine GL_nil ?_
                  refine GQ_sub (.cons (k := 2) rfl (.cons (k := 4) rfl (.cons (k := 6) rfl (.cons (k := 8) rfl (.cons (k := 15) rfl (.cons (k := 16) rfl (.nil _))))))) ?_
                  refine GQ_then ?_
                  refine G_seq ?_
                  refine G_region ?_
                  refine GL_step rfl (PS_move rfl) ?_
                  refine GL_step rfl (PS_len_slice rfl Tryd.underlying28 rfl) ?_
                  refine GL_step rfl (PS_eql rfl rfl) ?_
                  refine GL_nil ?_
                  refine GQ_sub (.cons (k := 2) rfl (.cons (k := 4) rfl (.cons (k := 6) rfl (.cons (k := 8) rfl (.cons (k := 15) rfl (.cons (k := 16) rfl (.cons (k := 197) rfl (.nil _)))))))) ?_
                  refine GQ_then ?_
                  refine G_cond rfl (fun c14 => ?_) (fun c14 => ?_)
                  · skip
                    have c14p := c14
                    try simp only [decide_eq_true_eq, decide_eq_false_iff_not, Bool.not_eq_true', Bool.not_eq_false', Bool.or_eq_true, Bool.and_eq_true, Bool.or_eq_false_iff, Bool.and_eq_false_iff, Int.not_lt, Int.not_le] at c14p
                    (try simp only [Hd.cut] at c14)
                    rw [hlen] at c14
                    refine G_seq ?_
                    refine G_region ?_
                    refine GL_step rfl (PS_build pl23 zv23 rfl .nil) ?_
                    refine GL_step rfl (PS_move rfl) ?_
                    refine GL_unit (PU_store (Lens.id Order.fl.len Order.fl.one) rfl rfl rfl sz23 rfl (.tail (.tail (.tail .head)))) ?_
                    refine GL_step rfl (PS_assign rfl) ?_
                    refine GL_nil ?_
                    refine GQ_sub (.cons (k := 2) rfl (.cons (k := 3) rfl (.nil _))) ?_
                    refine GQ_then ?_
                    refine G_ret ?_
                    refine GQ_then_ret ?_
                    refine GQ_ret rfl (.cell rfl (.tail _ (.tail _ (.tail _ (.head _)))) (.inl ⟨(by rw [Order.fl.len]; exact tya23), rfl⟩) (.tmp rfl .nil)) ?_
                    intro w1 hS; refine ⟨?_, hS.toKeep⟩; rw [← Words.parseR_eq, show Words.parseR s = _ from ((if_f c1).trans ((if_f c2).trans ((if_f c3).trans ((if_f c9).trans ((if_f c10).trans ((if_f c11).trans ((if_f c12).trans ((if_t c13).trans (if_t c14)))))))))]; rfl
                  · skip
                    have c14p := c14
                    try simp only [decide_eq_true_eq, decide_eq_false_iff_not, Bool.not_eq_true', Bool.not_eq_false', Bool.or_eq_true, Bool.and_eq_true, Bool.or_eq_false_iff, Bool.and_eq_false_iff, Int.not_lt, Int.not_le] at c14p
                    (try simp only [Hd.cut] at c14)
                    rw [hlen] at c14
                    refine G_skip ?_
                    refine GQ_sub (.cons (k := 2) rfl (.cons (k := 4) rfl (.cons (k := 6) rfl (.cons (k := 8) rfl (.cons (k := 15) rfl (.cons (k := 16) rfl (.nil _))))))) ?_
                    refine GQ_then ?_
                    refine G_seq ?_
                    refine G_seq ?_
                    refine G_region ?_
                    refine GL_step rfl (PS_move rfl) ?_
                    refine GL_step rfl (PS_len_slice rfl Tryd.underlying28 rfl) ?_
                    refine GL_step rfl (PS_eql rfl rfl) ?_
                    refine GL_step rfl (PS_move rfl) ?_
                    refine GL_gt (t := 203) rfl rfl rfl (fun q => PS_move rfl) ?_
                    refine GL_gt (t := 203) rfl rfl rfl (fun q => PS_neq (cvE rfl q) rfl) ?_
                    refine GL_step rfl (PS_and rfl rfl (fun h => h)) ?_
                    refine GL_step rfl (PS_move rfl) ?_
                    refine GL_gt (t := 207) rfl rfl rfl (fun q => PS_move rfl) ?_
                    refine GL_gt (t := 207) rfl rfl rfl (fun q => PS_neq (cvE rfl q) rfl) ?_
                    refine GL_step rfl (PS_and rfl rfl (fun h => h)) ?_
                    refine GL_nil ?_
                    refine GQ_sub (.cons (k := 2) rfl (.cons (k := 4) rfl (.cons (k := 8) rfl (.cons (k := 15) rfl (.cons (k := 16) rfl (.cons (k := 210) rfl (.nil _))))))) ?_
                    refine GQ_then ?_
                    refine G_cond rfl (fun c15 => ?_) (fun c15 => ?_)
                    · skip
                      have c15p := c15
                      try simp only [decide_eq_true_eq, decide_eq_false_iff_not, Bool.not_eq_true', Bool.not_eq_false', Bool.or_eq_true, Bool.and_eq_true, Bool.or_eq_false_iff, Bool.and_eq_false_iff, Int.not_lt, Int.not_le] at c15p
                      (try simp only [Hd.cut] at c15)
                      rw [hlen] at c15
                      refine G_seq ?_
                      refine G_region ?_
                      refine GL_step rfl (PS_loadA rfl tya23 (.tail _ (.head _)) (Lens.id Order.fl.len Order.fl.one) rfl) ?_
                      refine GL_unit (PU_store (Lens.id Order.fl.len Order.fl.one) rfl rfl rfl sz23 rfl (.tail (.tail (.tail .head)))) ?_
                      refine GL_step rfl (PS_assign rfl) ?_
                      refine GL_nil ?_
                      refine GQ_sub (.cons (k := 2) rfl (.cons (k := 3) rfl (.nil _))) ?_
                      refine GQ_then ?_
                      refine G_ret ?_
                      refine GQ_then_ret ?_
                      refine GQ_ret rfl (.cell rfl (.tail _ (.tail _ (.tail _ (.head _)))) (.inl ⟨(by rw [Order.fl.len]; exact tya23), rfl⟩) (.tmp rfl .nil)) ?_
                      intro w1 hS; refine ⟨?_, hS.toKeep⟩; rw [← Words.parseR_eq, show Words.parseR s = _ from ((if_f c1).trans ((if_f c2).trans ((if_f c3).trans ((if_f c9).trans ((if_f c10).trans ((if_f c11).trans ((if_f c12).trans ((if_t c13).trans ((if_f c14).trans (if_t c15))))))))))]; rfl
                    · skip
                      have c15p := c15
                      try simp only [decide_eq_true_eq, decide_eq_false_iff_not, Bool.not_eq_true', Bool.not_eq_false', Bool.or_eq_true, Bool.and_eq_true, Bool.or_eq_false_iff, Bool.and_eq_false_iff, Int.not_lt, Int.not_le] at c15p
                      (try simp only [Hd.cut] at c15)
                      rw [hlen] at c15
                      refine G_skip ?_
                      refine GQ_sub (.cons (k := 2) rfl (.cons (k := 4) rfl (.cons (k := 8) rfl (.cons (k := 15) rfl (.cons (k := 16) rfl (.nil _)))))) ?_
                      refine GQ_then ?_
                      refine G_seq ?_
                      refine G_seq ?_
                      refine G_region ?_
                      refine GL_step rfl (PS_move rfl) ?_
                      refine GL_step rfl (PS_len_slice rfl Tryd.underlying28 rfl) ?_
                      refine GL_step rfl (PS_neq rfl rfl) ?_
                      refine GL_step rfl (PS_move rfl) ?_
                      refine GL_gf (t := 215) rfl rfl rfl (fun q => PS_move rfl) ?_
                      refine GL_gf (t := 215) rfl rfl rfl (fun q => PS_eql_str (cvE rfl (by rw [q]; rfl)) rfl) ?_
                      refine GL_step rfl (PS_or rfl rfl (fun h => by rw [h]; rfl)) ?_
                      refine GL_nil ?_
                      refine GQ_sub (.cons (k := 2) rfl (.cons (k := 4) rfl (.cons (k := 8) rfl (.cons (k := 15) rfl (.cons (k := 218) rfl (.nil _)))))) ?_
                      refine GQ_then ?_
                      refine G_cond rfl (fun c16 => ?_) (fun c16 => ?_)
                      · skip
                        have c16p := c16
                        try simp only [decide_eq_true_eq, decide_eq_false_iff_not, Bool.not_eq_true', Bool.not_eq_false', Bool.or_eq_true, Bool.and_eq_true, Bool.or_eq_false_iff, Bool.and_eq_false_iff, Int.not_lt, Int.not_le] at c16p
                        (try simp only [Hd.cut] at c16)
                        rw [hlen] at c16
                        refine G_seq ?_
                        refine G_region ?_
                        refine GL_step rfl (PS_build pl23 zv23 rfl .nil) ?_
                        refine GL_step rfl (PS_move rfl) ?_
                        refine GL_unit (PU_store (Lens.id Order.fl.len Order.fl.one) rfl rfl rfl sz23 rfl (.tail (.tail (.tail .head)))) ?_
                        refine GL_step rfl (PS_assign rfl) ?_
                        refine GL_nil ?_
                        refine GQ_sub (.cons (k := 2) rfl (.cons (k := 3) rfl (.nil _))) ?_
                        refine GQ_then ?_
                        refine G_ret ?_
                        refine GQ_then_ret ?_
                        refine GQ_ret rfl (.cell rfl (.tail _ (.tail _ (.tail _ (.head _)))) (.inl ⟨(by rw [Order.fl.len]; exact tya23), rfl⟩) (.tmp rfl .nil)) ?_
                        intro w1 hS; refine ⟨?_, hS.toKeep⟩; rw [← Words.parseR_eq, show Words.parseR s = _ from ((if_f c1).trans ((if_f c2).trans ((if_f c3).trans ((if_f c9).trans ((if_f c10).trans ((if_f c11).trans ((if_f c12).trans ((if_t c13).trans ((if_f c14).trans ((if_f c15).trans (if_t c16)))))))))))]; rfl
                      · skip
                        have c16p := c16
                        try simp only [decide_eq_true_eq, decide_eq_false_iff_not, Bool.not_eq_true', Bool.not_eq_false', Bool.or_eq_true, Bool.and_eq_true, Bool.or_eq_false_iff, Bool.and_eq_false_iff, Int.not_lt, Int.not_le] at c16p
                        (try simp only [Hd.cut] at c16)
                        rw [hlen] at c16
                        refine G_skip ?_
                        refine GQ_sub (.cons (k := 2) rfl (.cons (k := 8) rfl (.cons (k := 15) rfl (.nil _)))) ?_
                        refine GQ_then ?_
                        refine G_seq ?_
                        refine G_region ?_
                        refine GL_step rfl (PS_move rfl) ?_
                        refine GL_step rfl (PS_idxS is28 (by decide) (Kn.own (.tail _ (.tail _ (.head _)))) rfl rfl (by omega) (by first | omega | (simp only [Hd.cut] at *; omega) | (simp [Hd.cut] at q ⊢; omega))) ?_
                        refine GL_step rfl (PS_ldStr rfl tys9 (Kn.own (.tail _ (.tail _ (.head _)))) (by first | omega | (simp only [List.length_drop, Hd.cut] at *; omega) | (simp [Hd.cut] at q ⊢; omega))) ?_
                        refine GL_step rfl (PS_fieldAddr fa23_4 rfl) ?_
                        refine GL_unit (PU_store Order.l4 rfl rfl rfl sz9 rfl (.tail .head)) ?_
                        refine GL_nil ?_
                        refine GQ_sub (.cons (k := 2) rfl (.cons (k := 8) rfl (.nil _))) ?_
                        refine GQ_then ?_
                        refine G_seq ?_
                        refine G_region ?_
                        refine GL_step rfl (PS_loadA rfl tya23 (.tail _ (.head _)) (Lens.id Order.fl.len Order.fl.one) rfl) ?_
                        refine GL_unit (PU_store (Lens.id Order.fl.len Order.fl.one) rfl rfl rfl sz23 rfl (.tail (.tail (.tail .head)))) ?_
                        refine GL_step rfl (PS_assign rfl) ?_
                        refine GL_nil ?_
                        refine GQ_sub (.cons (k := 2) rfl (.cons (k := 3) rfl (.nil _))) ?_
                        refine GQ_then ?_
                        refine G_ret ?_
                        refine GQ_ret rfl (.cell rfl (.tail _ (.tail _ (.tail _ (.head _)))) (.inl ⟨(by rw [Order.fl.len]; exact tya23), rfl⟩) (.tmp rfl .nil)) ?_
                        intro w1 hS; refine ⟨?_, hS.toKeep⟩; rw [← Words.parseR_eq, show Words.parseR s = _ from ((if_f c1).trans ((if_f c2).trans ((if_f c3).trans ((if_f c9).trans ((if_f c10).trans ((if_f c11).trans ((if_f c12).trans ((if_t c13).trans ((if_f c14).trans ((if_f c15).trans (if_f c16)))))))))))]; rfl
                · skip
                  have c13p := c13
                  try simp only [decide_eq_true_eq, decide_eq_false_iff_not, Bool.not_eq_true', Bool.not_eq_false', Bool.or_eq_true, Bool.and_eq_true, Bool.or_eq_false_iff, Bool.and_eq_false_iff, Int.not_lt, Int.not_le] at c13p
                  (try simp only [Hd.cut] at c13)
                  rw [hlen] at c13
                  refine G_skip ?_
                  refine GQ_sub (.cons (k := 2) rfl (.cons (k := 4) rfl (.cons (k := 6) rfl (.cons (k := 8) rfl (.cons (k := 15) rfl (.cons (k := 16) rfl (.nil _))))))) ?_
                  refine GQ_then ?_
                  refine G_seq ?_
                  refine G_seq ?_
                  refine G_region ?_
                  refine GL_step rfl (PS_move rfl) ?_
                  refine GL_step rfl (PS_len_slice rfl Tryd.underlying28 rfl) ?_
                  refine GL_step rfl (PS_eql rfl rfl) ?_
                  refine GL_step rfl (PS_move rfl) ?_
                  refine GL_gt (t := 203) rfl rfl rfl (fun q => PS_move rfl) ?_
                  refine GL_gt (t := 203) rfl rfl rfl (fun q => PS_neq (cvE rfl q) rfl) ?_
                  refine GL_step rfl (PS_and rfl rfl (fun h => h)) ?_
                  refine GL_step rfl (PS_move rfl) ?_
                  refine GL_gt (t := 207) rfl rfl rfl (fun q => PS_move rfl) ?_
                  refine GL_gt (t := 207) rfl rfl rfl (fun q => PS_neq (cvE rfl q) rfl) ?_
                  refine GL_step rfl (PS_and rfl rfl (fun h => h)) ?_
                  refine GL_nil ?_
                  refine GQ_sub (.cons (k := 2) rfl (.cons (k := 4) rfl (.cons (k := 8) rfl (.cons (k := 15) rfl (.cons (k := 16) rfl (.cons (k := 210) rfl (.nil _))))))) ?_
                  refine GQ_then ?_
                  refine G_cond rfl (fun c17 => ?_) (fun c17 => ?_)
                  · skip
                    have c17p := c17
                    try simp only [decide_eq_true_eq, decide_eq_false_iff_not, Bool.not_eq_true', Bool.not_eq_false', Bool.or_eq_true, Bool.and_eq_true, Bool.or_eq_false_iff, Bool.and_eq_false_iff, Int.not_lt, Int.not_le] at c17p
                    (try simp only [Hd.cut] at c17)
                    rw [hlen] at c17
                    refine G_seq ?_
                    refine G_region ?_
                    refine GL_step rfl (PS_loadA rfl tya23 (.tail _ (.head _)) (Lens.id Order.fl.len Order.fl.one) rfl) ?_
                    refine GL_unit (PU_store (Lens.id Order.fl.len Order.fl.one) rfl rfl rfl sz23 rfl (.tail (.tail (.tail .head)))) ?_
                    refine GL_step rfl (PS_assign rfl) ?_
                    refine GL_nil ?_
                    refine GQ_sub (.cons (k := 2) rfl (.cons (k := 3) rfl (.nil _))) ?_
                    refine GQ_then ?_
                    refine G_ret ?_
                    refine GQ_then_ret ?_
                    refine GQ_ret rfl (.cell rfl (.tail _ (.tail _ (.tail _ (.head _)))) (.inl ⟨(by rw [Order.fl.len]; exact tya23), rfl⟩) (.tmp rfl .nil)) ?_
                    intro w1 hS; refine ⟨?_, hS.toKeep⟩; rw [← Words.parseR_eq, show Words.parseR s = _ from ((if_f c1).trans ((if_f c2).trans ((if_f c3).trans ((if_f c9).trans ((if_f c10).trans ((if_f c11).trans ((if_f c12).trans ((if_f c13).trans (if_t c17)))))))))]; rfl
                  · skip
                    have c17p := c17
                    try simp only [decide_eq_true_eq, decide_eq_false_iff_not, Bool.not_eq_true', Bool.not_eq_false', Bool.or_eq_true, Bool.and_eq_true, Bool.or_eq_false_iff, Bool.and_eq_false_iff, Int.not_lt, Int.not_le] at c17p
                    (try simp only [Hd.cut] at c17)
                    rw [hlen] at c17
                    refine G_skip ?_
                    refine GQ_sub (.cons (k := 2) rfl (.cons (k := 4) rfl (.cons (k := 8) rfl (.cons (k := 15) rfl (.cons (k := 16) rfl (.nil _)))))) ?_
                    refine GQ_then ?_
                    refine G_seq ?_
                    refine G_seq ?_
                    refine G_region ?_
                    refine GL_step rfl (PS_move rfl) ?_
                    refine GL_step rfl (PS_len_slice rfl Tryd.underlying28 rfl) ?_
                    refine GL_step rfl (PS_neq rfl rfl) ?_
                    refine GL_step rfl (PS_move rfl) ?_
                    refine GL_gf (t := 215) rfl rfl rfl (fun q => PS_move rfl) ?_
                    refine GL_gf (t := 215) rfl rfl rfl (fun q => PS_eql_str (cvE rfl (by rw [q]; rfl)) rfl) ?_
                    refine GL_step rfl (PS_or rfl rfl (fun h => by rw [h]; rfl)) ?_
                    refine GL_nil ?_
                    refine GQ_sub (.cons (k := 2) rfl (.cons (k := 4) rfl (.cons (k := 8) rfl (.cons (k := 15) rfl (.cons (k := 218) rfl (.nil _)))))) ?_
                    refine GQ_then ?_
                    refine G_cond rfl (fun c18 => ?_) (fun c18 => ?_)
                    · skip
                      have c18p := c18
                      try simp only [decide_eq_true_eq, decide_eq_false_iff_not, Bool.not_eq_true', Bool.not_eq_false', Bool.or_eq_true, Bool.and_eq_true, Bool.or_eq_false_iff, Bool.and_eq_false_iff, Int.not_lt, Int.not_le] at c18p
                      (try simp only [Hd.cut] at c18)
                      rw [hlen] at c18
                      refine G_seq ?_
                      refine G_region ?_
                      refine GL_step rfl (PS_build pl23 zv23 rfl .nil) ?_
                      refine GL_step rfl (PS_move rfl) ?_
                      refine GL_unit (PU_store (Lens.id Order.fl.len Order.fl.one) rfl rfl rfl sz23 rfl (.tail (.tail (.tail .head)))) ?_
                      refine GL_step rfl (PS_assign rfl) ?_
                      refine GL_nil ?_
                      refine GQ_sub (.cons (k := 2) rfl (.cons (k := 3) rfl (.nil _))) ?_
                      refine GQ_then ?_
                      refine G_ret ?_
                      refine GQ_then_ret ?_
                      refine GQ_ret rfl (.cell rfl (.tail _ (.tail _ (.tail _ (.head _)))) (.inl ⟨(by rw [Order.fl.len]; exact tya23), rfl⟩) (.tmp rfl .nil)) ?_
                      intro w1 hS; refine ⟨?_, hS.toKeep⟩; rw [← Words.parseR_eq, show Words.parseR s = _ from ((if_f c1).trans ((if_f c2).trans ((if_f c3).trans ((if_f c9).trans ((if_f c10).trans ((if_f c11).trans ((if_f c12).trans ((if_f c13).trans ((if_f c17).trans (if_t c18))))))))))]; rfl
                    · skip
                      have c18p := c18
                      try simp only [decide_eq_true_eq, decide_eq_false_iff_not, Bool.not_eq_true', Bool.not_eq_false', Bool.or_eq_true, Bool.and_eq_true, Bool.or_eq_false_iff, Bool.and_eq_false_iff, Int.not_lt, Int.not_le] at c18p
                      (try simp only [Hd.cut] at c18)
                      rw [hlen] at c18
                      refine G_skip ?_
                      refine GQ_sub (.cons (k := 2) rfl (.cons (k := 8) rfl (.cons (k := 15) rfl (.nil _)))) ?_
                      refine GQ_then ?_
                      refine G_seq ?_
                      refine G_region ?_
                      refine GL_step rfl (PS_move rfl) ?_
                      refine GL_step rfl (PS_idxS is28 (by decide) (Kn.own (.tail _ (.tail _ (.head _)))) rfl rfl (by omega) (by first | omega | (simp only [Hd.cut] at *; omega) | (simp [Hd.cut] at q ⊢; omega))) ?_
                      refine GL_step rfl (PS_ldStr rfl tys9 (Kn.own (.tail _ (.tail _ (.head _)))) (by first | omega | (simp only [List.length_drop, Hd.cut] at *; omega) | (simp [Hd.cut] at q ⊢; omega))) ?_
                      refine GL_step rfl (PS_fieldAddr fa23_4 rfl) ?_
                      refine GL_unit (PU_store Order.l4 rfl rfl rfl sz9 rfl (.tail .head)) ?_
                      refine GL_nil ?_
                      refine GQ_sub (.cons (k := 2) rfl (.cons (k := 8) rfl (.nil _))) ?_
                      refine GQ_then ?_
                      refine G_seq ?_
                      refine G_region ?_
                      refine GL_step rfl (PS_loadA rfl tya23 (.tail _ (.head _)) (Lens.id Order.fl.len Order.fl.one) rfl) ?_
                      refine GL_unit (PU_store (Lens.id Order.fl.len Order.fl.one) rfl rfl rfl sz23 rfl (.tail (.tail (.tail .head)))) ?_
                      refine GL_step rfl (PS_assign rfl) ?_
                      refine GL_nil ?_
                      refine GQ_sub (.cons (k := 2) rfl (.cons (k := 3) rfl (.nil _))) ?_
                      refine GQ_then ?_
                      refine G_ret ?_
                      refine GQ_ret rfl (.cell rfl (.tail _ (.tail _ (.tail _ (.head _)))) (.inl ⟨(by rw [Order.fl.len]; exact tya23), rfl⟩) (.tmp rfl .nil)) ?_
                      intro w1 hS; refine ⟨?_, hS.toKeep⟩; rw [← Words.parseR_eq, show Words.parseR s = _ from ((if_f c1).trans ((if_f c2).trans ((if_f c3).trans ((if_f c9).trans ((if_f c10).trans ((if_f c11).trans ((if_f c12).trans ((if_f c13).trans ((if_f c17).trans (if_f c18))))))))))]; rfl
theorem ref_SameTexts_spec {t0 t1 : Nat} (f g : Hd) (xs ys : List Str) (hx : xs.length ≤ 9223372036854775807) (w : World) (r0 : Rd w f t0 1 (xs.flatMap encS)) (r1 : Rd w g t1 1 (ys.flatMap encS)) : Ret Tryd.prog 10 #[f.val, g.val] w fun v w' => v = .bool (decide (xs = ys)) ∧ Keep w w' := by
  have hf := r0.len1 flS (by decide)
  have hg := r1.len1 flS (by decide)
  refine Ret_body [] [] Tryd.func10 rfl rfl rfl (St.start w []) ?_
  refine G_seq ?_
  refine G_region ?_
  refine GL_step rfl (PS_assign rfl) ?_
  refine GL_nil ?_
  refine GQ_sub (.cons (k := 0) rfl (.cons (k := 1) rfl (.nil _))) ?_
  refine GQ_then ?_
  refine G_seq ?_
  refine G_seq ?_
  refine G_region ?_
  refine GL_step rfl (PS_move rfl) ?_
  refine GL_step rfl (PS_len_slice rfl Tryd.underlying28 rfl) ?_
  refine GL_step rfl (PS_move rfl) ?_
  refine GL_step rfl (PS_len_slice rfl Tryd.underlying28 rfl) ?_
  refine GL_step rfl (PS_neq rfl rfl) ?_
  refine GL_nil ?_
  refine GQ_sub (.cons (k := 0) rfl (.cons (k := 1) rfl (.cons (k := 10) rfl (.nil _)))) ?_
  refine GQ_then ?_
  refine G_cond rfl (fun c1 => ?_) (fun c1 => ?_)
  · skip
    have c1p := c1
    try simp only [decide_eq_true_eq, decide_eq_false_iff_not, Bool.not_eq_true', Bool.not_eq_false', Bool.or_eq_true, Bool.and_eq_true, Bool.or_eq_false_iff, Bool.and_eq_false_iff, Int.not_lt, Int.not_le] at c1p
    refine G_seq ?_
    refine G_region ?_
    refine GL_step rfl (PS_assign rfl) ?_
    refine GL_nil ?_
    refine GQ_sub (.cons (k := 4) rfl (.nil _)) ?_
    refine GQ_then ?_
    refine G_ret ?_
    refine GQ_then_ret ?_
    refine GQ_ret rfl (.tmp rfl .nil) ?_
    intro w1 hS; refine ⟨congrArg Value.bool ?_, hS.toKeep⟩; have : xs ≠ ys := fun e => by subst e; simp at c1; omega
    simp [this]
  · skip
    have c1p := c1
    try simp only [decide_eq_true_eq, decide_eq_false_iff_not, Bool.not_eq_true', Bool.not_eq_false', Bool.or_eq_true, Bool.and_eq_true, Bool.or_eq_false_iff, Bool.and_eq_false_iff, Int.not_lt, Int.not_le] at c1p
    refine G_skip ?_
    refine GQ_sub (.cons (k := 0) rfl (.cons (k := 1) rfl (.nil _))) ?_
    refine GQ_then ?_
    refine G_seq ?_
    refine G_seq ?_
    refine G_region ?_
    refine GL_step rfl (PS_move rfl) ?_
    refine GL_step rfl (PS_len_slice rfl Tryd.underlying28 rfl) ?_
    refine GL_step rfl (PS_move rfl) ?_
    refine GL_nil ?_
    refine GQ_sub (.cons (k := 0) rfl (.cons (k := 1) rfl (.cons (k := 12) rfl (.cons (k := 13) rfl (.nil _))))) ?_
    refine GQ_then ?_
    refine G_block ?_
    refine G_subF (.cons (k := 13) rfl (.cons (k := 0) rfl (.cons (k := 1) rfl (.cons (k := 12) rfl (.nil _))))) ?_
    refine G_loop1_ (fun (i : Int) => 0 ≤ i ∧ i ≤ xs.length ∧ xs.length = ys.length ∧ xs.take i.toNat = ys.take i.toNat) (fun (i : Int) => ((xs.length : Int) - i).toNat) (fun (i : Int) => [(13, .int .i64 i)]) (fun (i : Int) => []) (0) ?_ rfl rfl (fun i hI1 => ?_)
    · exact ⟨by omega, by omega, by simp at c1; omega, rfl⟩
    obtain ⟨hI11, hI12, hI13, hI14⟩ := hI1
    refine G_seq ?_
    refine G_region ?_
    refine GL_step rfl (PS_lss rfl rfl) ?_
    refine GL_nil ?_
    refine GQ_then ?_
    refine G_seq ?_
    refine G_cond rfl (fun c2 => ?_) (fun c2 => ?_)
    · skip
      have c2p := c2
      try simp only [decide_eq_true_eq, decide_eq_false_iff_not, Bool.not_eq_true', Bool.not_eq_false', Bool.or_eq_true, Bool.and_eq_true, Bool.or_eq_false_iff, Bool.and_eq_false_iff, Int.not_lt, Int.not_le] at c2p
      refine G_skip ?_
      refine GQ_sub (.cons (k := 0) rfl (.cons (k := 1) rfl (.cons (k := 12) rfl (.cons (k := 13) rfl (.nil _))))) ?_
      refine GQ_then ?_
      refine G_seq ?_
      refine G_block ?_
      refine G_seq ?_
      refine G_region ?_
      refine GL_step rfl (PS_move rfl) ?_
      refine GL_step rfl (PS_assign rfl) ?_
      refine GL_nil ?_
      refine GQ_sub (.cons (k := 0) rfl (.cons (k := 1) rfl (.cons (k := 5) rfl (.cons (k := 12) rfl (.cons (k := 13) rfl (.nil _)))))) ?_
      refine GQ_then ?_
      refine G_seq ?_
      refine G_planN (N := 9) [0, 0, 3, 7, 0, 0, 48, 112, 255] mix (by kernel_rfl) rfl ?_
      refine Plan_float 0 rfl rfl (by kernel_rfl) (OK_s (EX_s (PS_move rfl))) ?_
      refine Plan_float 1 rfl rfl (by kernel_rfl) (OK_s (EX_s (PS_move rfl))) ?_
      refine Plan_float 2 rfl rfl (by kernel_rfl) (OK_s (EX_s (PS_idxS is28 (by decide) (Kn.old r0) rfl rfl (by omega) (by omega)))) ?_
      refine Plan_float 3 rfl rfl (by kernel_rfl) (OK_s (EX_s (PS_ldStr rfl tys9 (Kn.old r0) (by omega)))) ?_
      refine Plan_float 4 rfl rfl (by kernel_rfl) (OK_s (EX_s (PS_move rfl))) ?_
      refine Plan_float 5 rfl rfl (by kernel_rfl) (OK_s (EX_s (PS_move rfl))) ?_
      refine Plan_float 6 rfl rfl (by kernel_rfl) (OK_s (EX_s (PS_idxS is28 (by decide) (Kn.old r1) rfl rfl (by omega) (by omega)))) ?_
      refine Plan_float 7 rfl rfl (by kernel_rfl) (OK_s (EX_s (PS_ldStr rfl tys9 (Kn.old r1) (by omega)))) ?_
      refine Plan_float 8 rfl rfl (by kernel_rfl) (OK_s (EX_s (PS_neq_str rfl rfl))) ?_
      refine Plan_end (by kernel_rfl) ?_
      refine GQ_sub (.cons (k := 0) rfl (.cons (k := 1) rfl (.cons (k := 12) rfl (.cons (k := 13) rfl (.cons (k := 24) rfl (.nil _)))))) ?_
      refine GQ_then ?_
      refine G_cond rfl (fun c3 => ?_) (fun c3 => ?_)
      · skip
        have c3p := c3
        try simp only [decide_eq_true_eq, decide_eq_false_iff_not, Bool.not_eq_true', Bool.not_eq_false', Bool.or_eq_true, Bool.and_eq_true, Bool.or_eq_false_iff, Bool.and_eq_false_iff, Int.not_lt, Int.not_le] at c3p
        refine G_seq ?_
        refine G_region ?_
        refine GL_step rfl (PS_assign rfl) ?_
        refine GL_nil ?_
        refine GQ_sub (.cons (k := 4) rfl (.nil _)) ?_
        refine GQ_then ?_
        refine G_ret ?_
        refine GQ_block_ret ?_
        refine GQ_then_ret ?_
        refine GQ_then_ret ?_
        refine GQ_block_ret ?_
        refine GQ_then_ret ?_
        refine GQ_ret rfl (.tmp rfl .nil) ?_
        intro w1 hS; refine ⟨congrArg Value.bool ?_, hS.toKeep⟩; have := Line.ne_of_getD (d := []) (xs := xs) (ys := ys) (i := i.toNat) (by simpa using c3)
        simp [this]
      · skip
        have c3p := c3
        try simp only [decide_eq_true_eq, decide_eq_false_iff_not, Bool.not_eq_true', Bool.not_eq_false', Bool.or_eq_true, Bool.and_eq_true, Bool.or_eq_false_iff, Bool.and_eq_false_iff, Int.not_lt, Int.not_le] at c3p
        refine G_skip ?_
        refine GQ_sub (.cons (k := 0) rfl (.cons (k := 1) rfl (.cons (k := 12) rfl (.cons (k := 13) rfl (.nil _))))) ?_
        refine GQ_block ?_
        refine GQ_then ?_
        refine G_region ?_
        refine GL_step rfl (PS_add rfl rfl (IntWalk.i64_in _ (by omega))) ?_
        refine GL_step rfl (PS_move rfl) ?_
        refine GL_nil ?_
        refine GQ_sub (.cons (k := 0) rfl (.cons (k := 1) rfl (.cons (k := 12) rfl (.cons (k := 13) rfl (.nil _))))) ?_
        refine GQ_next1_ (i + 1) ?_ ?_ (.cons (k := 13) rfl (.cons (k := 0) rfl (.cons (k := 1) rfl (.cons (k := 12) rfl (.nil _))))) (.refl _)
        · exact ⟨by omega, by omega, hI13, Line.take_next (d := []) hI11 hI13 (by omega) hI14 (by simpa using c3)⟩
        · omega
    · skip
      have c2p := c2
      try simp only [decide_eq_true_eq, decide_eq_false_iff_not, Bool.not_eq_true', Bool.not_eq_false', Bool.or_eq_true, Bool.and_eq_true, Bool.or_eq_false_iff, Bool.and_eq_false_iff, Int.not_lt, Int.not_le] at c2p
      refine G_exit ?_
      refine GQ_then_exit ?_
      refine GQ_then_exit ?_
      refine GQ_block_exit ?_
      refine GQ_sub (.nil _) ?_
      refine GQ_then ?_
      refine G_seq ?_
      refine G_region ?_
      refine GL_step rfl (PS_assign rfl) ?_
      refine GL_nil ?_
      refine GQ_then ?_
      refine G_ret ?_
      refine GQ_ret rfl (.tmp rfl .nil) ?_
      intro w1 hS; refine ⟨congrArg Value.bool ?_, hS.toKeep⟩; have := Line.pickE (xs := xs) (ys := ys) hI13 hI14 (by omega)
      simp [this]
theorem law_means_spec  (w : World) (gl0 : GV 0 Land.verbsV w) (gl1 : GVE 3 w) (gl2 : GVE 4 w) : Ret Tryd.prog 13 #[] w fun v w' => v = .bool true ∧ Keep w w' := by
  refine Ret_body [] [] Tryd.func13 rfl rfl rfl (St.start w []) ?_
  refine G_seq ?_
  refine G_region ?_
  refine GL_step rfl (PS_assign rfl) ?_
  refine GL_nil ?_
  refine GQ_sub (.nil _) ?_
  refine GQ_then ?_
  refine G_seq ?_
  refine G_region ?_
  refine GL_pure rfl cf8 (.cons rfl .nil) (fun w hS => words_Parse_spec Words.chestT (by decide) w (gl0.st hS) (gl1.st hS) (gl2.st hS)) ?_
  refine GL_step rfl (PS_move rfl) ?_
  refine GL_step rfl (PS_extract rfl rfl) ?_
  refine GL_step rfl (PS_extract rfl rfl) ?_
  refine GL_alloc rfl zv23 rfl (fun b1 => ?_)
  refine GL_unit (PU_store (Lens.id Order.fl.len Order.fl.one) rfl rfl rfl sz23 rfl .head) ?_
  refine GL_step rfl (PS_assign rfl) ?_
  refine GL_nil ?_
  refine GQ_sub (.cons (k := 1) rfl (.cons (k := 2) rfl (.nil _))) ?_
  refine GQ_then ?_
  refine G_seq ?_
  refine G_region ?_
  refine GL_step rfl (PS_move rfl) ?_
  refine GL_step rfl (PS_eql rfl rfl) ?_
  refine GL_step rfl (PS_move rfl) ?_
  refine GL_gt (t := 9) rfl rfl rfl (fun q => PS_fieldAddr fa23_0 rfl) ?_
  refine GL_gt (t := 9) rfl rfl rfl (fun q => PS_load (cvE rfl q) tys3 (.head _) Order.l0 rfl rfl) ?_
  refine GL_gt (t := 9) rfl rfl rfl (fun q => PS_eql (cvE rfl q) rfl) ?_
  refine GL_step rfl (PS_and rfl rfl (fun h => h)) ?_
  refine GL_step rfl (PS_move rfl) ?_
  refine GL_gt (t := 14) rfl rfl rfl (fun q => PS_fieldAddr fa23_1 rfl) ?_
  refine GL_gt (t := 14) rfl rfl rfl (fun q => PS_load (cvE rfl q) tys3 (.head _) Order.l1 rfl rfl) ?_
  refine GL_gt (t := 14) rfl rfl rfl (fun q => PS_eql (cvE rfl q) rfl) ?_
  refine GL_step rfl (PS_and rfl rfl (fun h => h)) ?_
  refine GL_step rfl (PS_move rfl) ?_
  refine GL_gt (t := 19) rfl rfl rfl (fun q => PS_fieldAddr fa23_4 rfl) ?_
  refine GL_gt (t := 19) rfl rfl rfl (fun q => PS_load (cvE rfl q) tys9 (.head _) Order.l4 rfl rfl) ?_
  refine GL_gt (t := 19) rfl rfl rfl (fun q => PS_eql_str (cvE rfl q) rfl) ?_
  refine GL_step rfl (PS_and rfl rfl (fun h => h)) ?_
  refine GL_step rfl (PS_assign rfl) ?_
  refine GL_nil ?_
  refine GQ_sub (.cons (k := 0) rfl (.nil _)) ?_
  refine GQ_then ?_
  refine G_ret ?_
  refine GQ_ret rfl (.tmp rfl .nil) ?_
  intro w1 hS; refine ⟨congrArg Value.bool ?_, hS.toKeep⟩; first | rfl | kernel_rfl
end Go.Proofs.YtckhelpkjicnnaaDoor
