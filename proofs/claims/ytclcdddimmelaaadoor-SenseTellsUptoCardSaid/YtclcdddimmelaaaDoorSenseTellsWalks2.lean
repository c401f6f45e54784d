/- What the functions that the law SenseTells reaches compute: walks, part 2. No condition. -/
import Derived.Test.YtclcdddimmelaaaDoorCards
import Derived.Test.YtclcdddimmelaaaDoorTie
import Derived.Deep.DeepHandedRow
import Derived.Test.YtclcdddimmelaaaDoorRows
import Derived.Test.YtclcdddimmelaaaDoorEc3
import Derived.Test.YtclcdddimmelaaaDoorSenseTellsPlain
import Derived.Test.YtclcdddimmelaaaDoorSenseTellsWalks
set_option linter.unusedSimpArgs false
set_option linter.unusedVariables false
set_option maxRecDepth 100000
namespace Go.Proofs.YtclcdddimmelaaaDoor
open Go Go.Ing Go.RowKit Go.ChangeShapes Go.WideShapes Go.ChangeAt
theorem ref_TellOf_spec (e : Ing.Event) (b : Int) (hs : Land.Small e) (w : World) (gl0 : GV 2 pow10V w) (gl1 : GV 1 Land.verbsV w) : Ret Tryd.prog 20 #[.agg e.enc.toArray, .int .i64 b] w fun v w' => v = .tuple #[vstr (Land.tellR e b).1, .bool (Land.tellR e b).2] ∧ Keep w w' := by
  refine Ret_body [] [] Tryd.func20 rfl rfl rfl (St.start w []) ?_
  refine G_seq ?_
  refine G_region ?_
  refine GL_box rfl rfl rfl (fun b1 => ?_)
  refine GL_step rfl (PS_assign rfl) ?_
  refine GL_step rfl (PS_assign rfl) ?_
  refine GL_nil ?_
  refine GQ_sub (.cons (k := 1) rfl (.cons (k := 2) rfl (.nil _))) ?_
  refine GQ_then ?_
  refine G_seq ?_
  refine G_seq ?_
  refine G_region ?_
  refine GL_step rfl (PS_move rfl) ?_
  refine GL_step rfl (PS_lss rfl rfl) ?_
  refine GL_step rfl (PS_move rfl) ?_
  refine GL_gf (t := 17) rfl rfl rfl (fun q => PS_move rfl) ?_
  refine GL_gf (t := 17) rfl rfl rfl (fun q => PS_gtr (cvE rfl (by rw [q]; rfl)) rfl) ?_
  refine GL_step rfl (PS_or rfl rfl (fun h => by rw [h]; rfl)) ?_
  refine GL_step rfl (PS_move rfl) ?_
  refine GL_gf (t := 21) rfl rfl rfl (fun q => PS_move rfl) ?_
  refine GL_gf (t := 21) rfl rfl rfl (fun q => PS_fieldAddr fa36_10 rfl) ?_
  refine GL_gf (t := 21) rfl rfl rfl (fun q => by have q1 := q; (try simp at q1); exact PS_indexAddr ia22 (cvE rfl (by rw [q]; rfl)) (cvE rfl (by rw [q]; rfl)) (by first | omega | (simp only [List.length_append, List.length_cons, List.length_nil]; omega)) (by first | omega | (simp only [List.length_append, List.length_cons, List.length_nil]; omega))) ?_
  refine GL_gf (t := 21) rfl rfl rfl (fun q => by have q1 := q; (try simp at q1); exact PS_load (cvE rfl (by rw [q]; rfl)) tys3 (.head _) (Ing.Event.l10.comp (Lens.arr (n := 6) flI (by first | omega | (simp only [List.length_append, List.length_cons, List.length_nil]; omega)) (by first | omega | (simp only [List.length_append, List.length_cons, List.length_nil]; omega)))) rfl rfl) ?_
  refine GL_gf (t := 21) rfl rfl rfl (fun q => by have q1 := q; (try simp at q1); exact PS_rem (cvE rfl (by rw [q]; rfl)) rfl (by first | omega | (simp only [List.length_append, List.length_cons, List.length_nil]; omega))) ?_
  refine GL_gf (t := 21) rfl rfl rfl (fun q => PS_eql (cvE rfl (by rw [q]; rfl)) rfl) ?_
  refine GL_step rfl (PS_or rfl rfl (fun h => by rw [h]; rfl)) ?_
  refine GL_nil ?_
  refine GQ_sub (.cons (k := 1) rfl (.cons (k := 2) rfl (.cons (k := 28) rfl (.nil _)))) ?_
  refine GQ_then ?_
  refine G_cond rfl (fun c1 => ?_) (fun c1 => ?_)
  · skip
    have c1p := c1
    try simp only [decide_eq_true_eq, decide_eq_false_iff_not, Bool.not_eq_true', Bool.not_eq_false', Bool.or_eq_true, Bool.and_eq_true, Bool.or_eq_false_iff, Bool.and_eq_false_iff, Int.not_lt, Int.not_le] at c1p
    refine G_seq ?_
    refine G_region ?_
    refine GL_step rfl (PS_assign rfl) ?_
    refine GL_step rfl (PS_assign rfl) ?_
    refine GL_nil ?_
    refine GQ_sub (.cons (k := 4) rfl (.cons (k := 5) rfl (.nil _))) ?_
    refine GQ_then ?_
    refine G_ret ?_
    refine GQ_then_ret ?_
    refine GQ_ret rfl (.tmp rfl (.tmp rfl .nil)) ?_
    intro w1 hS; refine ⟨?_, hS.toKeep⟩; rw [show Land.tellR e b = _ from if_t c1]; rfl
  · skip
    have c1p := c1
    try simp only [decide_eq_true_eq, decide_eq_false_iff_not, Bool.not_eq_true', Bool.not_eq_false', Bool.or_eq_true, Bool.and_eq_true, Bool.or_eq_false_iff, Bool.and_eq_false_iff, Int.not_lt, Int.not_le] at c1p
    have hr : 0 ≤ b ∧ b < 6 := by simp at c1; omega
    have htl := hs.thing
    have hxl := hs.text
    have hwl := hs.who
    have h2l := Land.whomOf_len hs b
    have h5l := Land.called_len e.dir
    have h6l := Lib.itoa_length_le e.n hs.n0 hs.n1
    refine G_skip ?_
    refine GQ_sub (.cons (k := 1) rfl (.cons (k := 2) rfl (.nil _))) ?_
    refine GQ_then ?_
    refine G_seq ?_
    refine G_planN (N := 7) [0, 1, 0, 4, 0, 19, 63] mix (by kernel_rfl) rfl ?_
    refine Plan_float 0 rfl rfl (by kernel_rfl) (OK_s (EX_s (PS_fieldAddr fa36_6 rfl))) ?_
    refine Plan_float 1 rfl rfl (by kernel_rfl) (OK_s (EX_s (PS_load rfl tys9 (.head _) Ing.Event.l6 rfl rfl))) ?_
    refine Plan_float 2 rfl rfl (by kernel_rfl) (OK_s (EX_s (PS_fieldAddr fa36_7 rfl))) ?_
    refine Plan_float 3 rfl rfl (by kernel_rfl) (OK_s (EX_s (PS_load rfl tys9 (.head _) Ing.Event.l7 rfl rfl))) ?_
    refine Plan_chain 4 rfl (by kernel_rfl) ?_
    refine GL_alloc rfl zv9 rfl (fun b2 => ?_)
    refine GL_hand rfl ⟨?_, ?_⟩
    · exact (Pend_okv rfl (OK_s (EX_s (PS_load rfl tys9 (.tail _ (.head _)) Ing.Event.l7 rfl rfl))) rfl rfl (Pend_okv rfl (OK_s (EX_s (PS_fieldAddr fa36_7 rfl))) rfl rfl (Pend_okv rfl (OK_s (EX_s (PS_load rfl tys9 (.tail _ (.head _)) Ing.Event.l6 rfl rfl))) rfl rfl (Pend_okv rfl (OK_s (EX_s (PS_fieldAddr fa36_6 rfl))) rfl rfl Pend_nil))))
    refine Plan_chain 5 rfl (by kernel_rfl) ?_
    refine GL_unit (PU_store1 rfl rfl rfl rfl sz9 .head) ?_
    refine GL_hand0 rfl ⟨?_, ?_⟩
    · exact (Pend_okv rfl (OK_s (EX_s (PS_load rfl tys9 (.tail _ (.head _)) Ing.Event.l7 rfl rfl))) rfl rfl (Pend_okv rfl (OK_s (EX_s (PS_fieldAddr fa36_7 rfl))) rfl rfl (Pend_skip (by kernel_rfl) (Pend_skip (by kernel_rfl) Pend_nil))))
    refine Plan_float 6 rfl rfl (by kernel_rfl) (OK_s (EX_s (PS_assign rfl))) ?_
    refine Plan_end (by kernel_rfl) ?_
    refine GQ_sub (.cons (k := 1) rfl (.cons (k := 2) rfl (.cons (k := 6) rfl (.cons (k := 7) rfl (.nil _))))) ?_
    refine GQ_then ?_
    refine G_seq ?_
    refine G_seq ?_
    refine G_region ?_
    refine GL_step rfl (PS_move rfl) ?_
    refine GL_step rfl (PS_fieldAddr fa36_10 rfl) ?_
    refine GL_step rfl (PS_indexAddr ia22 rfl rfl (by first | omega | (simp only [List.length_append, List.length_cons, List.length_nil]; omega)) (by first | omega | (simp only [List.length_append, List.length_cons, List.length_nil]; omega))) ?_
    refine GL_step rfl (PS_load rfl tys3 (.tail _ (.head _)) (Ing.Event.l10.comp (Lens.arr (n := 6) flI (by first | omega | (simp only [List.length_append, List.length_cons, List.length_nil]; omega)) (by first | omega | (simp only [List.length_append, List.length_cons, List.length_nil]; omega)))) rfl rfl) ?_
    refine GL_step rfl (PS_andb rfl rfl (show _ = Land.band _ _ from rfl)) ?_
    refine GL_step rfl (PS_neq rfl rfl) ?_
    refine GL_nil ?_
    refine GQ_sub (.cons (k := 1) rfl (.cons (k := 2) rfl (.cons (k := 6) rfl (.cons (k := 7) rfl (.cons (k := 38) rfl (.nil _)))))) ?_
    refine GQ_then ?_
    refine G_cond rfl (fun c2 => ?_) (fun c2 => ?_)
    · skip
      have c2p := c2
      try simp only [decide_eq_true_eq, decide_eq_false_iff_not, Bool.not_eq_true', Bool.not_eq_false', Bool.or_eq_true, Bool.and_eq_true, Bool.or_eq_false_iff, Bool.and_eq_false_iff, Int.not_lt, Int.not_le] at c2p
      refine G_region ?_
      refine GL_unit (PU_store1 rfl rfl rfl rfl sz9 .head) ?_
      refine GL_nil ?_
      refine GQ_sub (.cons (k := 1) rfl (.cons (k := 2) rfl (.cons (k := 6) rfl (.cons (k := 7) rfl (.nil _))))) ?_
      refine GQ_then ?_
      refine G_seq ?_
      refine G_seq ?_
      refine G_region ?_
      refine GL_step rfl (PS_move rfl) ?_
      refine GL_step rfl (PS_fieldAddr fa36_10 rfl) ?_
      refine GL_step rfl (PS_indexAddr ia22 rfl rfl (by first | omega | (simp only [List.length_append, List.length_cons, List.length_nil]; omega)) (by first | omega | (simp only [List.length_append, List.length_cons, List.length_nil]; omega))) ?_
      refine GL_step rfl (PS_load rfl tys3 (.tail _ (.head _)) (Ing.Event.l10.comp (Lens.arr (n := 6) flI (by first | omega | (simp only [List.length_append, List.length_cons, List.length_nil]; omega)) (by first | omega | (simp only [List.length_append, List.length_cons, List.length_nil]; omega)))) rfl rfl) ?_
      refine GL_step rfl (PS_andb rfl rfl (show _ = Land.band _ _ from rfl)) ?_
      refine GL_step rfl (PS_neq rfl rfl) ?_
      refine GL_nil ?_
      refine GQ_sub (.cons (k := 1) rfl (.cons (k := 2) rfl (.cons (k := 6) rfl (.cons (k := 7) rfl (.cons (k := 44) rfl (.nil _)))))) ?_
      refine GQ_then ?_
      refine G_set1 (vstr) (s := Land.whomA e b) rfl rfl rfl rfl rfl ?_
      refine GQ_sub (.cons (k := 1) rfl (.cons (k := 2) rfl (.cons (k := 6) rfl (.cons (k := 7) rfl (.nil _))))) ?_
      refine GQ_then ?_
      refine G_seq ?_
      refine G_seq ?_
      refine G_region ?_
      refine GL_step rfl (PS_move rfl) ?_
      refine GL_step rfl (PS_fieldAddr fa36_3 rfl) ?_
      refine GL_step rfl (PS_load rfl tys3 (.tail _ (.head _)) Ing.Event.l3 rfl rfl) ?_
      refine GL_step rfl (PS_eql rfl rfl) ?_
      refine GL_nil ?_
      refine GQ_sub (.cons (k := 1) rfl (.cons (k := 2) rfl (.cons (k := 6) rfl (.cons (k := 7) rfl (.cons (k := 48) rfl (.nil _)))))) ?_
      refine GQ_then ?_
      refine G_set1 (vstr) (s := (Land.whomOf e b)) rfl rfl rfl rfl rfl ?_
      refine GQ_sub (.cons (k := 1) rfl (.cons (k := 2) rfl (.cons (k := 6) rfl (.cons (k := 7) rfl (.nil _))))) ?_
      refine GQ_then ?_
      refine G_seq ?_
      refine G_planN (N := 8) [0, 1, 3, 0, 8, 31, 63, 127] mix (by kernel_rfl) rfl ?_
      refine Plan_float 0 rfl rfl (by kernel_rfl) (OK_s (EX_s (PS_fieldAddr fa36_4 rfl))) ?_
      refine Plan_float 1 rfl rfl (by kernel_rfl) (OK_s (EX_s (PS_load rfl tys3 (.tail _ (.head _)) Ing.Event.l4 rfl rfl))) ?_
      refine Plan_float 2 rfl rfl (by kernel_rfl) (OK_s (EX_c (PC_of cf34 (.cons rfl .nil) (fun w hS => ref_CalledOf_spec _ w (gl1.st hS))))) ?_
      refine Plan_float 3 rfl rfl (by kernel_rfl) (OK_s (EX_s (PS_fieldAddr fa36_5 rfl))) ?_
      refine Plan_float 4 rfl rfl (by kernel_rfl) (OK_s (EX_s (PS_load rfl tys3 (.tail _ (.head _)) Ing.Event.l5 rfl rfl))) ?_
      refine Plan_float 5 rfl rfl (by kernel_rfl) (OK_s (EX_c (PC_of cf32 (.cons rfl .nil) (fun w hS => strconv_Itoa_spec _ hs.n0 hs.n1 w (gl0.st hS))))) ?_
      refine Plan_float 6 rfl rfl (by kernel_rfl) (OK_s (EX_s (PS_assign rfl))) ?_
      refine Plan_float 7 rfl rfl (by kernel_rfl) (OK_s (EX_s (PS_assign rfl))) ?_
      refine Plan_end (by kernel_rfl) ?_
      refine GQ_sub (.cons (k := 1) rfl (.cons (k := 2) rfl (.cons (k := 6) rfl (.cons (k := 7) rfl (.cons (k := 8) rfl (.cons (k := 9) rfl (.nil _))))))) ?_
      refine GQ_then ?_
      refine G_seq ?_
      refine G_region ?_
      refine GL_step rfl (PS_move rfl) ?_
      refine GL_step rfl (PS_fieldAddr fa36_2 rfl) ?_
      refine GL_step rfl (PS_load rfl tys3 (.tail _ (.head _)) Ing.Event.l2 rfl rfl) ?_
      refine GL_step rfl (PS_eql rfl rfl) ?_
      refine GL_alloc rfl zv4 rfl (fun b3 => ?_)
      refine GL_unit (PU_store1 rfl rfl rfl rfl sz4 .head) ?_
      refine GL_nil ?_
      refine GQ_sub (.cons (k := 2) rfl (.cons (k := 6) rfl (.cons (k := 7) rfl (.cons (k := 8) rfl (.cons (k := 9) rfl (.cons (k := 10) rfl (.nil _))))))) ?_
      refine GQ_then ?_
      refine G_seq ?_
      refine G_region ?_
      refine GL_step rfl (PS_makeFunc (.cons rfl (.cons rfl .nil))) ?_
      refine GL_step rfl (PS_assign rfl) ?_
      refine GL_nil ?_
      refine GQ_sub (.cons (k := 2) rfl (.cons (k := 6) rfl (.cons (k := 7) rfl (.cons (k := 8) rfl (.cons (k := 9) rfl (.cons (k := 10) rfl (.cons (k := 11) rfl (.nil _)))))))) ?_
      refine GQ_then ?_
      refine G_seq ?_
      refine G_region ?_
      refine GL_step rfl (PS_makeFunc (.cons rfl (.cons rfl .nil))) ?_
      refine GL_step rfl (PS_assign rfl) ?_
      refine GL_nil ?_
      refine GQ_sub (.cons (k := 2) rfl (.cons (k := 6) rfl (.cons (k := 7) rfl (.cons (k := 8) rfl (.cons (k := 9) rfl (.cons (k := 10) rfl (.cons (k := 11) rfl (.cons (k := 12) rfl (.nil _))))))))) ?_
      refine GQ_then ?_
      refine G_seq ?_
      refine G_region ?_
      refine GL_step rfl (PS_assign rfl) ?_
      refine GL_nil ?_
      refine GQ_then ?_
      refine G_seq ?_
      refine G_seq ?_
      refine G_region ?_
      refine GL_step rfl (PS_fieldAddr fa36_0 rfl) ?_
      refine GL_step rfl (PS_load rfl tys3 (.tail _ (.tail _ (.head _))) Ing.Event.l0 rfl rfl) ?_
      refine GL_nil ?_
      refine GQ_sub (.cons (k := 2) rfl (.cons (k := 6) rfl (.cons (k := 7) rfl (.cons (k := 8) rfl (.cons (k := 9) rfl (.cons (k := 10) rfl (.cons (k := 11) rfl (.cons (k := 12) rfl (.cons (k := 13) rfl (.cons (k := 62) rfl (.nil _))))))))))) ?_
      refine GQ_then ?_
      refine G_block ?_
      refine G_seq ?_
      refine G_region ?_
      refine GL_step rfl (PS_eql rfl rfl) ?_
      refine GL_step rfl (PS_assign rfl) ?_
      refine GL_nil ?_
      refine GQ_sub (.cons (k := 2) rfl (.cons (k := 6) rfl (.cons (k := 7) rfl (.cons (k := 8) rfl (.cons (k := 9) rfl (.cons (k := 10) rfl (.cons (k := 11) rfl (.cons (k := 12) rfl (.cons (k := 13) rfl (.cons (k := 62) rfl (.cons (k := 63) rfl (.nil _)))))))))))) ?_
      refine GQ_then ?_
      refine G_cond rfl (fun c3 => ?_) (fun c3 => ?_)
      · skip
        have c3p := c3
        try simp only [decide_eq_true_eq, decide_eq_false_iff_not, Bool.not_eq_true', Bool.not_eq_false', Bool.or_eq_true, Bool.and_eq_true, Bool.or_eq_false_iff, Bool.and_eq_false_iff, Int.not_lt, Int.not_le] at c3p
        refine G_region ?_
        refine GL_step rfl (PS_move rfl) ?_
        refine GL_callLV rfl cf35 rfl (.cons rfl (.cons rfl .nil)) (.cons .head (.cons .head .nil)) (ref_TellOf_1_spec _ _ _ _ _ _ (by decide) (by decide) (by first | exact hs.who | decide)) (fun v1 B hv => ?_)
        obtain ⟨y2, rfl, y3, y4, rfl⟩ := hv
        refine GL_step rfl (PS_move rfl) ?_
        refine GL_step rfl (PS_add_str rfl rfl (by first | omega | (simp only [List.length_append, List.length_cons, List.length_nil]; omega))) ?_
        refine GL_step rfl (PS_add_str rfl rfl (by first | omega | (simp only [List.length_append, List.length_cons, List.length_nil]; omega))) ?_
        refine GL_step rfl (PS_assign rfl) ?_
        refine GL_nil ?_
        refine GQ_sub (.cons (k := 13) rfl (.nil _)) ?_
        refine GQ_block ?_
        refine GQ_then ?_
        refine G_seq ?_
        refine G_region ?_
        refine GL_step rfl (PS_move rfl) ?_
        refine GL_step rfl (PS_move rfl) ?_
        refine GL_step rfl (PS_neq_str rfl rfl) ?_
        refine GL_step rfl (PS_assign rfl) ?_
        refine GL_step rfl (PS_assign rfl) ?_
        refine GL_nil ?_
        refine GQ_sub (.cons (k := 4) rfl (.cons (k := 5) rfl (.nil _))) ?_
        refine GQ_then ?_
        refine G_ret ?_
        refine GQ_ret rfl (.tmp rfl (.tmp rfl .nil)) ?_
        subst y3
        intro w1 hS; refine ⟨?_, hS.toKeep⟩; have hw : Land.whoOf e b = Land.someone := if_t c2
        rw [show Land.tellR e b = Land.sayR (decide (b = e.actor)) (Land.whoOf e b) (Land.whomOf e b) (Land.called e.dir) (Lib.itoa e.n) e.thing e.text e.kind from if_f c1, hw, show Land.sayR (decide (b = e.actor)) Land.someone (Land.whomOf e b) (Land.called e.dir) (Lib.itoa e.n) e.thing e.text e.kind = _ from (if_t c3)]; rfl
      · skip
        have c3p := c3
        try simp only [decide_eq_true_eq, decide_eq_false_iff_not, Bool.not_eq_true', Bool.not_eq_false', Bool.or_eq_true, Bool.and_eq_true, Bool.or_eq_false_iff, Bool.and_eq_false_iff, Int.not_lt, Int.not_le] at c3p
        refine G_seq ?_
        refine G_region ?_
        refine GL_step rfl (PS_eql rfl rfl) ?_
        refine GL_step rfl (PS_assign rfl) ?_
        refine GL_nil ?_
        refine GQ_sub (.cons (k := 2) rfl (.cons (k := 6) rfl (.cons (k := 7) rfl (.cons (k := 8) rfl (.cons (k := 9) rfl (.cons (k := 10) rfl (.cons (k := 11) rfl (.cons (k := 12) rfl (.cons (k := 13) rfl (.cons (k := 62) rfl (.cons (k := 70) rfl (.nil _)))))))))))) ?_
        refine GQ_then ?_
        refine G_cond rfl (fun c4 => ?_) (fun c4 => ?_)
        · skip
          have c4p := c4
          try simp only [decide_eq_true_eq, decide_eq_false_iff_not, Bool.not_eq_true', Bool.not_eq_false', Bool.or_eq_true, Bool.and_eq_true, Bool.or_eq_false_iff, Bool.and_eq_false_iff, Int.not_lt, Int.not_le] at c4p
          refine G_seq ?_
          refine G_region ?_
          refine GL_step rfl (PS_load1 rfl tys4 (.head _)) ?_
          refine GL_step rfl (PS_not rfl) ?_
          refine GL_nil ?_
          refine GQ_sub (.cons (k := 6) rfl (.cons (k := 8) rfl (.cons (k := 13) rfl (.cons (k := 73) rfl (.nil _))))) ?_
          refine GQ_then ?_
          refine G_cond rfl (fun c5 => ?_) (fun c5 => ?_)
          · skip
            have c5p := c5
            try simp only [decide_eq_true_eq, decide_eq_false_iff_not, Bool.not_eq_true', Bool.not_eq_false', Bool.or_eq_true, Bool.and_eq_true, Bool.or_eq_false_iff, Bool.and_eq_false_iff, Int.not_lt, Int.not_le] at c5p
            refine G_region ?_
            refine GL_step rfl (PS_load1 rfl tys9 (.tail _ (.head _))) ?_
            refine GL_step rfl (PS_add_str rfl rfl (by first | omega | (simp only [List.length_append, List.length_cons, List.length_nil]; omega))) ?_
            refine GL_step rfl (PS_move rfl) ?_
            refine GL_step rfl (PS_add_str rfl rfl (by first | omega | (simp only [List.length_append, List.length_cons, List.length_nil]; omega))) ?_
            refine GL_step rfl (PS_add_str rfl rfl (by first | omega | (simp only [List.length_append, List.length_cons, List.length_nil]; omega))) ?_
            refine GL_step rfl (PS_assign rfl) ?_
            refine GL_nil ?_
            refine GQ_sub (.cons (k := 13) rfl (.nil _)) ?_
            refine GQ_block ?_
            refine GQ_then ?_
            refine G_seq ?_
            refine G_region ?_
            refine GL_step rfl (PS_move rfl) ?_
            refine GL_step rfl (PS_move rfl) ?_
            refine GL_step rfl (PS_neq_str rfl rfl) ?_
            refine GL_step rfl (PS_assign rfl) ?_
            refine GL_step rfl (PS_assign rfl) ?_
            refine GL_nil ?_
            refine GQ_sub (.cons (k := 4) rfl (.cons (k := 5) rfl (.nil _))) ?_
            refine GQ_then ?_
            refine G_ret ?_
            refine GQ_ret rfl (.tmp rfl (.tmp rfl .nil)) ?_
            intro w1 hS; refine ⟨?_, hS.toKeep⟩; have hw : Land.whoOf e b = Land.someone := if_t c2
            rw [show Land.tellR e b = Land.sayR (decide (b = e.actor)) (Land.whoOf e b) (Land.whomOf e b) (Land.called e.dir) (Lib.itoa e.n) e.thing e.text e.kind from if_f c1, hw, show Land.sayR (decide (b = e.actor)) Land.someone (Land.whomOf e b) (Land.called e.dir) (Lib.itoa e.n) e.thing e.text e.kind = _ from ((if_f c3).trans ((if_t c4).trans (if_t c5)))]; rfl
          · skip
            have c5p := c5
            try simp only [decide_eq_true_eq, decide_eq_false_iff_not, Bool.not_eq_true', Bool.not_eq_false', Bool.or_eq_true, Bool.and_eq_true, Bool.or_eq_false_iff, Bool.and_eq_false_iff, Int.not_lt, Int.not_le] at c5p
            refine G_skip ?_
            refine GQ_sub (.cons (k := 13) rfl (.nil _)) ?_
            refine GQ_block ?_
            refine GQ_then ?_
            refine G_seq ?_
            refine G_region ?_
            refine GL_step rfl (PS_move rfl) ?_
            refine GL_step rfl (PS_move rfl) ?_
            refine GL_step rfl (PS_neq_str rfl rfl) ?_
            refine GL_step rfl (PS_assign rfl) ?_
            refine GL_step rfl (PS_assign rfl) ?_
            refine GL_nil ?_
            refine GQ_sub (.cons (k := 4) rfl (.cons (k := 5) rfl (.nil _))) ?_
            refine GQ_then ?_
            refine G_ret ?_
            refine GQ_ret rfl (.tmp rfl (.tmp rfl .nil)) ?_
            intro w1 hS; refine ⟨?_, hS.toKeep⟩; have hw : Land.whoOf e b = Land.someone := if_t c2
            rw [show Land.tellR e b = Land.sayR (decide (b = e.actor)) (Land.whoOf e b) (Land.whomOf e b) (Land.called e.dir) (Lib.itoa e.n) e.thing e.text e.kind from if_f c1, hw, show Land.sayR (decide (b = e.actor)) Land.someone (Land.whomOf e b) (Land.called e.dir) (Lib.itoa e.n) e.thing e.text e.kind = _ from ((if_f c3).trans ((if_t c4).trans (if_f c5)))]; rfl
        · skip
          have c4p := c4
          try simp only [decide_eq_true_eq, decide_eq_false_iff_not, Bool.not_eq_true', Bool.not_eq_false', Bool.or_eq_true, Bool.and_eq_true, Bool.or_eq_false_iff, Bool.and_eq_false_iff, Int.not_lt, Int.not_le] at c4p
          refine G_seq ?_
          refine G_region ?_
          refine GL_step rfl (PS_eql rfl rfl) ?_
          refine GL_step rfl (PS_assign rfl) ?_
          refine GL_nil ?_
          refine GQ_sub (.cons (k := 2) rfl (.cons (k := 6) rfl (.cons (k := 7) rfl (.cons (k := 9) rfl (.cons (k := 10) rfl (.cons (k := 11) rfl (.cons (k := 12) rfl (.cons (k := 13) rfl (.cons (k := 62) rfl (.cons (k := 79) rfl (.nil _))))))))))) ?_
          refine GQ_then ?_
          refine G_cond rfl (fun c6 => ?_) (fun c6 => ?_)
          · skip
            have c6p := c6
            try simp only [decide_eq_true_eq, decide_eq_false_iff_not, Bool.not_eq_true', Bool.not_eq_false', Bool.or_eq_true, Bool.and_eq_true, Bool.or_eq_false_iff, Bool.and_eq_false_iff, Int.not_lt, Int.not_le] at c6p
            refine G_region ?_
            refine GL_step rfl (PS_move rfl) ?_
            refine GL_callLV rfl cf35 rfl (.cons rfl (.cons rfl .nil)) (.cons .head (.cons .head .nil)) (ref_TellOf_1_spec _ _ _ _ _ _ (by decide) (by decide) (by first | exact hs.who | decide)) (fun v5 B hv => ?_)
            obtain ⟨y6, rfl, y7, y8, rfl⟩ := hv
            refine GL_step rfl (PS_move rfl) ?_
            refine GL_callLV rfl cf36 rfl .nil (.cons .head (.cons (.tail .head) .nil)) (ref_TellOf_2_spec _ _ _ _ hs) (fun v9 B hv => ?_)
            obtain ⟨y10, rfl, y11, y12, rfl⟩ := hv
            refine GL_step rfl (PS_add_str rfl rfl (by first | omega | (simp only [List.length_append, List.length_cons, List.length_nil]; omega))) ?_
            refine GL_step rfl (PS_add_str rfl rfl (by first | omega | (simp only [List.length_append, List.length_cons, List.length_nil]; omega))) ?_
            refine GL_step rfl (PS_assign rfl) ?_
            refine GL_nil ?_
            refine GQ_sub (.cons (k := 13) rfl (.nil _)) ?_
            refine GQ_block ?_
            refine GQ_then ?_
            refine G_seq ?_
            refine G_region ?_
            refine GL_step rfl (PS_move rfl) ?_
            refine GL_step rfl (PS_move rfl) ?_
            refine GL_step rfl (PS_neq_str rfl rfl) ?_
            refine GL_step rfl (PS_assign rfl) ?_
            refine GL_step rfl (PS_assign rfl) ?_
            refine GL_nil ?_
            refine GQ_sub (.cons (k := 4) rfl (.cons (k := 5) rfl (.nil _))) ?_
            refine GQ_then ?_
            refine G_ret ?_
            refine GQ_ret rfl (.tmp rfl (.tmp rfl .nil)) ?_
            subst y7
            subst y11
            intro w1 hS; refine ⟨?_, hS.toKeep⟩; have hw : Land.whoOf e b = Land.someone := if_t c2
            rw [show Land.tellR e b = Land.sayR (decide (b = e.actor)) (Land.whoOf e b) (Land.whomOf e b) (Land.called e.dir) (Lib.itoa e.n) e.thing e.text e.kind from if_f c1, hw, show Land.sayR (decide (b = e.actor)) Land.someone (Land.whomOf e b) (Land.called e.dir) (Lib.itoa e.n) e.thing e.text e.kind = _ from ((if_f c3).trans ((if_f c4).trans (if_t c6)))]; rfl
          · skip
            have c6p := c6
            try simp only [decide_eq_true_eq, decide_eq_false_iff_not, Bool.not_eq_true', Bool.not_eq_false', Bool.or_eq_true, Bool.and_eq_true, Bool.or_eq_false_iff, Bool.and_eq_false_iff, Int.not_lt, Int.not_le] at c6p
            refine G_seq ?_
            refine G_region ?_
            refine GL_step rfl (PS_eql rfl rfl) ?_
            refine GL_step rfl (PS_assign rfl) ?_
            refine GL_nil ?_
            refine GQ_sub (.cons (k := 2) rfl (.cons (k := 6) rfl (.cons (k := 7) rfl (.cons (k := 9) rfl (.cons (k := 10) rfl (.cons (k := 11) rfl (.cons (k := 12) rfl (.cons (k := 13) rfl (.cons (k := 62) rfl (.cons (k := 87) rfl (.nil _))))))))))) ?_
            refine GQ_then ?_
            refine G_cond rfl (fun c7 => ?_) (fun c7 => ?_)
            · skip
              have c7p := c7
              try simp only [decide_eq_true_eq, decide_eq_false_iff_not, Bool.not_eq_true', Bool.not_eq_false', Bool.or_eq_true, Bool.and_eq_true, Bool.or_eq_false_iff, Bool.and_eq_false_iff, Int.not_lt, Int.not_le] at c7p
              refine G_region ?_
              refine GL_step rfl (PS_move rfl) ?_
              refine GL_callLV rfl cf35 rfl (.cons rfl (.cons rfl .nil)) (.cons .head (.cons .head .nil)) (ref_TellOf_1_spec _ _ _ _ _ _ (by decide) (by decide) (by first | exact hs.who | decide)) (fun v13 B hv => ?_)
              obtain ⟨y14, rfl, y15, y16, rfl⟩ := hv
              refine GL_step rfl (PS_move rfl) ?_
              refine GL_callLV rfl cf36 rfl .nil (.cons .head (.cons (.tail .head) .nil)) (ref_TellOf_2_spec _ _ _ _ hs) (fun v17 B hv => ?_)
              obtain ⟨y18, rfl, y19, y20, rfl⟩ := hv
              refine GL_step rfl (PS_add_str rfl rfl (by first | omega | (simp only [List.length_append, List.length_cons, List.length_nil]; omega))) ?_
              refine GL_step rfl (PS_add_str rfl rfl (by first | omega | (simp only [List.length_append, List.length_cons, List.length_nil]; omega))) ?_
              refine GL_step rfl (PS_assign rfl) ?_
              refine GL_nil ?_
              refine GQ_sub (.cons (k := 13) rfl (.nil _)) ?_
              refine GQ_block ?_
              refine GQ_then ?_
              refine G_seq ?_
              refine G_region ?_
              refine GL_step rfl (PS_move rfl) ?_
              refine GL_step rfl (PS_move rfl) ?_
              refine GL_step rfl (PS_neq_str rfl rfl) ?_
              refine GL_step rfl (PS_assign rfl) ?_
              refine GL_step rfl (PS_assign rfl) ?_
              refine GL_nil ?_
              refine GQ_sub (.cons (k := 4) rfl (.cons (k := 5) rfl (.nil _))) ?_
              refine GQ_then ?_
              refine G_ret ?_
              refine GQ_ret rfl (.tmp rfl (.tmp rfl .nil)) ?_
              subst y15
              subst y19
              intro w1 hS; refine ⟨?_, hS.toKeep⟩; have hw : Land.whoOf e b = Land.someone := if_t c2
              rw [show Land.tellR e b = Land.sayR (decide (b = e.actor)) (Land.whoOf e b) (Land.whomOf e b) (Land.called e.dir) (Lib.itoa e.n) e.thing e.text e.kind from if_f c1, hw, show Land.sayR (decide (b = e.actor)) Land.someone (Land.whomOf e b) (Land.called e.dir) (Lib.itoa e.n) e.thing e.text e.kind = _ from ((if_f c3).trans ((if_f c4).trans ((if_f c6).trans (if_t c7))))]; rfl
            · skip
              have c7p := c7
              try simp only [decide_eq_true_eq, decide_eq_false_iff_not, Bool.not_eq_true', Bool.not_eq_false', Bool.or_eq_true, Bool.and_eq_true, Bool.or_eq_false_iff, Bool.and_eq_false_iff, Int.not_lt, Int.not_le] at c7p
              refine G_seq ?_
              refine G_region ?_
              refine GL_step rfl (PS_eql rfl rfl) ?_
              refine GL_step rfl (PS_assign rfl) ?_
              refine GL_nil ?_
              refine GQ_sub (.cons (k := 2) rfl (.cons (k := 6) rfl (.cons (k := 7) rfl (.cons (k := 9) rfl (.cons (k := 10) rfl (.cons (k := 11) rfl (.cons (k := 12) rfl (.cons (k := 13) rfl (.cons (k := 62) rfl (.cons (k := 95) rfl (.nil _))))))))))) ?_
              refine GQ_then ?_
              refine G_cond rfl (fun c8 => ?_) (fun c8 => ?_)
              · skip
                have c8p := c8
                try simp only [decide_eq_true_eq, decide_eq_false_iff_not, Bool.not_eq_true', Bool.not_eq_false', Bool.or_eq_true, Bool.and_eq_true, Bool.or_eq_false_iff, Bool.and_eq_false_iff, Int.not_lt, Int.not_le] at c8p
                refine G_seq ?_
                refine G_region ?_
                refine GL_step rfl (PS_fieldAddr fa36_9 rfl) ?_
                refine GL_step rfl (PS_load rfl tys9 (.tail _ (.tail _ (.head _))) Ing.Event.l9 rfl rfl) ?_
                refine GL_step rfl (PS_add_str rfl rfl (by first | omega | (simp only [List.length_append, List.length_cons, List.length_nil]; omega))) ?_
                refine GL_step rfl (PS_assign rfl) ?_
                refine GL_nil ?_
                refine GQ_sub (.cons (k := 2) rfl (.cons (k := 10) rfl (.cons (k := 11) rfl (.cons (k := 12) rfl (.cons (k := 14) rfl (.nil _)))))) ?_
                refine GQ_then ?_
                refine G_seq ?_
                refine G_seq ?_
                refine G_region ?_
                refine GL_step rfl (PS_load1 rfl tys4 (.head _)) ?_
                refine GL_nil ?_
                refine GQ_sub (.cons (k := 2) rfl (.cons (k := 11) rfl (.cons (k := 12) rfl (.cons (k := 14) rfl (.cons (k := 100) rfl (.nil _)))))) ?_
                refine GQ_then ?_
                refine G_cond rfl (fun c9 => ?_) (fun c9 => ?_)
                · skip
                  have c9p := c9
                  try simp only [decide_eq_true_eq, decide_eq_false_iff_not, Bool.not_eq_true', Bool.not_eq_false', Bool.or_eq_true, Bool.and_eq_true, Bool.or_eq_false_iff, Bool.and_eq_false_iff, Int.not_lt, Int.not_le] at c9p
                  refine G_region ?_
                  refine GL_step rfl (PS_fieldAddr fa36_9 rfl) ?_
                  refine GL_step rfl (PS_load rfl tys9 (.tail _ (.tail _ (.head _))) Ing.Event.l9 rfl rfl) ?_
                  refine GL_step rfl (PS_add_str rfl rfl (by first | omega | (simp only [List.length_append, List.length_cons, List.length_nil]; omega))) ?_
                  refine GL_step rfl (PS_assign rfl) ?_
                  refine GL_nil ?_
                  refine GQ_sub (.cons (k := 11) rfl (.cons (k := 12) rfl (.cons (k := 14) rfl (.nil _)))) ?_
                  refine GQ_then ?_
                  refine G_region ?_
                  refine GL_step rfl (PS_move rfl) ?_
                  refine GL_callLV rfl cf35 rfl (.cons rfl (.cons rfl .nil)) (.cons .head (.cons .head .nil)) (ref_TellOf_1_spec _ _ _ _ _ _ (by decide) (by decide) (by first | exact hs.who | decide)) (fun v21 B hv => ?_)
                  obtain ⟨y22, rfl, y23, y24, rfl⟩ := hv
                  refine GL_step rfl (PS_move rfl) ?_
                  refine GL_callLV rfl cf36 rfl .nil (.cons .head (.cons (.tail .head) .nil)) (ref_TellOf_2_spec _ _ _ _ hs) (fun v25 B hv => ?_)
                  obtain ⟨y26, rfl, y27, y28, rfl⟩ := hv
                  refine GL_step rfl (PS_add_str rfl rfl (by first | omega | (simp only [List.length_append, List.length_cons, List.length_nil]; omega))) ?_
                  refine GL_step rfl (PS_add_str rfl rfl (by first | omega | (simp only [List.length_append, List.length_cons, List.length_nil]; omega))) ?_
                  refine GL_step rfl (PS_move rfl) ?_
                  refine GL_step rfl (PS_add_str rfl rfl (by first | omega | (simp only [List.length_append, List.length_cons, List.length_nil]; omega))) ?_
                  refine GL_step rfl (PS_add_str rfl rfl (by first | omega | (simp only [List.length_append, List.length_cons, List.length_nil]; omega))) ?_
                  refine GL_step rfl (PS_assign rfl) ?_
                  refine GL_nil ?_
                  refine GQ_sub (.cons (k := 13) rfl (.nil _)) ?_
                  refine GQ_block ?_
                  refine GQ_then ?_
                  refine G_seq ?_
                  refine G_region ?_
                  refine GL_step rfl (PS_move rfl) ?_
                  refine GL_step rfl (PS_move rfl) ?_
                  refine GL_step rfl (PS_neq_str rfl rfl) ?_
                  refine GL_step rfl (PS_assign rfl) ?_
                  refine GL_step rfl (PS_assign rfl) ?_
                  refine GL_nil ?_
                  refine GQ_sub (.cons (k := 4) rfl (.cons (k := 5) rfl (.nil _))) ?_
                  refine GQ_then ?_
                  refine G_ret ?_
                  refine GQ_ret rfl (.tmp rfl (.tmp rfl .nil)) ?_
                  subst y23
                  subst y27
                  intro w1 hS; refine ⟨?_, hS.toKeep⟩; have hw : Land.whoOf e b = Land.someone := if_t c2
                  rw [show Land.tellR e b = Land.sayR (decide (b = e.actor)) (Land.whoOf e b) (Land.whomOf e b) (Land.called e.dir) (Lib.itoa e.n) e.thing e.text e.kind from if_f c1, hw, show Land.sayR (decide (b = e.actor)) Land.someone (Land.whomOf e b) (Land.called e.dir) (Lib.itoa e.n) e.thing e.text e.kind = _ from ((if_f c3).trans ((if_f c4).trans ((if_f c6).trans ((if_f c7).trans (if_t c8))))), show Land.theS (decide (b = e.actor)) e.text = _ from if_t c9]; rfl
                · skip
                  have c9p := c9
                  try simp only [decide_eq_true_eq, decide_eq_false_iff_not, Bool.not_eq_true', Bool.not_eq_false', Bool.or_eq_true, Bool.and_eq_true, Bool.or_eq_false_iff, Bool.and_eq_false_iff, Int.not_lt, Int.not_le] at c9p
                  refine G_skip ?_
                  refine GQ_sub (.cons (k := 11) rfl (.cons (k := 12) rfl (.cons (k := 14) rfl (.nil _)))) ?_
                  refine GQ_then ?_
                  refine G_region ?_
                  refine GL_step rfl (PS_move rfl) ?_
                  refine GL_callLV rfl cf35 rfl (.cons rfl (.cons rfl .nil)) (.cons .head (.cons .head .nil)) (ref_TellOf_1_spec _ _ _ _ _ _ (by decide) (by decide) (by first | exact hs.who | decide)) (fun v29 B hv => ?_)
                  obtain ⟨y30, rfl, y31, y32, rfl⟩ := hv
                  refine GL_step rfl (PS_move rfl) ?_
                  refine GL_callLV rfl cf36 rfl .nil (.cons .head (.cons (.tail .head) .nil)) (ref_TellOf_2_spec _ _ _ _ hs) (fun v33 B hv => ?_)
                  obtain ⟨y34, rfl, y35, y36, rfl⟩ := hv
                  refine GL_step rfl (PS_add_str rfl rfl (by first | omega | (simp only [List.length_append, List.length_cons, List.length_nil]; omega))) ?_
                  refine GL_step rfl (PS_add_str rfl rfl (by first | omega | (simp only [List.length_append, List.length_cons, List.length_nil]; omega))) ?_
                  refine GL_step rfl (PS_move rfl) ?_
                  refine GL_step rfl (PS_add_str rfl rfl (by first | omega | (simp only [List.length_append, List.length_cons, List.length_nil]; omega))) ?_
                  refine GL_step rfl (PS_add_str rfl rfl (by first | omega | (simp only [List.length_append, List.length_cons, List.length_nil]; omega))) ?_
                  refine GL_step rfl (PS_assign rfl) ?_
                  refine GL_nil ?_
                  refine GQ_sub (.cons (k := 13) rfl (.nil _)) ?_
                  refine GQ_block ?_
                  refine GQ_then ?_
                  refine G_seq ?_
                  refine G_region ?_
                  refine GL_step rfl (PS_move rfl) ?_
                  refine GL_step rfl (PS_move rfl) ?_
                  refine GL_step rfl (PS_neq_str rfl rfl) ?_
                  refine GL_step rfl (PS_assign rfl) ?_
                  refine GL_step rfl (PS_assign rfl) ?_
                  refine GL_nil ?_
                  refine GQ_sub (.cons (k := 4) rfl (.cons (k := 5) rfl (.nil _))) ?_
                  refine GQ_then ?_
                  refine G_ret ?_
                  refine GQ_ret rfl (.tmp rfl (.tmp rfl .nil)) ?_
                  subst y31
                  subst y35
                  intro w1 hS; refine ⟨?_, hS.toKeep⟩; have hw : Land.whoOf e b = Land.someone := if_t c2
                  rw [show Land.tellR e b = Land.sayR (decide (b = e.actor)) (Land.whoOf e b) (Land.whomOf e b) (Land.called e.dir) (Lib.itoa e.n) e.thing e.text e.kind from if_f c1, hw, show Land.sayR (decide (b = e.actor)) Land.someone (Land.whomOf e b) (Land.called e.dir) (Lib.itoa e.n) e.thing e.text e.kind = _ from ((if_f c3).trans ((if_f c4).trans ((if_f c6).trans ((if_f c7).trans (if_t c8))))), show Land.theS (decide (b = e.actor)) e.text = _ from if_f c9]; rfl
              · skip
                have c8p := c8
                try simp only [decide_eq_true_eq, decide_eq_false_iff_not, Bool.not_eq_true', Bool.not_eq_false', Bool.or_eq_true, Bool.and_eq_true, Bool.or_eq_false_iff, Bool.and_eq_false_iff, Int.not_lt, Int.not_le] at c8p
                refine G_seq ?_
                refine G_region ?_
                refine GL_step rfl (PS_eql rfl rfl) ?_
                refine GL_step rfl (PS_assign rfl) ?_
                refine GL_nil ?_
                refine GQ_sub (.cons (k := 2) rfl (.cons (k := 6) rfl (.cons (k := 7) rfl (.cons (k := 9) rfl (.cons (k := 10) rfl (.cons (k := 11) rfl (.cons (k := 12) rfl (.cons (k := 13) rfl (.cons (k := 62) rfl (.cons (k := 113) rfl (.nil _))))))))))) ?_
                refine GQ_then ?_
                refine G_cond rfl (fun c10 => ?_) (fun c10 => ?_)
                · skip
                  have c10p := c10
                  try simp only [decide_eq_true_eq, decide_eq_false_iff_not, Bool.not_eq_true', Bool.not_eq_false', Bool.or_eq_true, Bool.and_eq_true, Bool.or_eq_false_iff, Bool.and_eq_false_iff, Int.not_lt, Int.not_le] at c10p
                  refine G_region ?_
                  refine GL_step rfl (PS_move rfl) ?_
                  refine GL_callLV rfl cf35 rfl (.cons rfl (.cons rfl .nil)) (.cons .head (.cons .head .nil)) (ref_TellOf_1_spec _ _ _ _ _ _ (by decide) (by decide) (by first | exact hs.who | decide)) (fun v37 B hv => ?_)
                  obtain ⟨y38, rfl, y39, y40, rfl⟩ := hv
                  refine GL_step rfl (PS_move rfl) ?_
                  refine GL_callLV rfl cf36 rfl .nil (.cons .head (.cons (.tail .head) .nil)) (ref_TellOf_2_spec _ _ _ _ hs) (fun v41 B hv => ?_)
                  obtain ⟨y42, rfl, y43, y44, rfl⟩ := hv
                  refine GL_step rfl (PS_add_str rfl rfl (by first | omega | (simp only [List.length_append, List.length_cons, List.length_nil]; omega))) ?_
                  refine GL_step rfl (PS_add_str rfl rfl (by first | omega | (simp only [List.length_append, List.length_cons, List.length_nil]; omega))) ?_
                  refine GL_step rfl (PS_move rfl) ?_
                  refine GL_step rfl (PS_add_str rfl rfl (by first | omega | (simp only [List.length_append, List.length_cons, List.length_nil]; omega))) ?_
                  refine GL_step rfl (PS_add_str rfl rfl (by first | omega | (simp only [List.length_append, List.length_cons, List.length_nil]; omega))) ?_
                  refine GL_step rfl (PS_assign rfl) ?_
                  refine GL_nil ?_
                  refine GQ_sub (.cons (k := 13) rfl (.nil _)) ?_
                  refine GQ_block ?_
                  refine GQ_then ?_
                  refine G_seq ?_
                  refine G_region ?_
                  refine GL_step rfl (PS_move rfl) ?_
                  refine GL_step rfl (PS_move rfl) ?_
                  refine GL_step rfl (PS_neq_str rfl rfl) ?_
                  refine GL_step rfl (PS_assign rfl) ?_
                  refine GL_step rfl (PS_assign rfl) ?_
                  refine GL_nil ?_
                  refine GQ_sub (.cons (k := 4) rfl (.cons (k := 5) rfl (.nil _))) ?_
                  refine GQ_then ?_
                  refine G_ret ?_
                  refine GQ_ret rfl (.tmp rfl (.tmp rfl .nil)) ?_
                  subst y39
                  subst y43
                  intro w1 hS; refine ⟨?_, hS.toKeep⟩; have hw : Land.whoOf e b = Land.someone := if_t c2
                  rw [show Land.tellR e b = Land.sayR (decide (b = e.actor)) (Land.whoOf e b) (Land.whomOf e b) (Land.called e.dir) (Lib.itoa e.n) e.thing e.text e.kind from if_f c1, hw, show Land.sayR (decide (b = e.actor)) Land.someone (Land.whomOf e b) (Land.called e.dir) (Lib.itoa e.n) e.thing e.text e.kind = _ from ((if_f c3).trans ((if_f c4).trans ((if_f c6).trans ((if_f c7).trans ((if_f c8).trans (if_t c10))))))]; rfl
                · skip
                  have c10p := c10
                  try simp only [decide_eq_true_eq, decide_eq_false_iff_not, Bool.not_eq_true', Bool.not_eq_false', Bool.or_eq_true, Bool.and_eq_true, Bool.or_eq_false_iff, Bool.and_eq_false_iff, Int.not_lt, Int.not_le] at c10p
                  refine G_seq ?_
                  refine G_region ?_
                  refine GL_step rfl (PS_eql rfl rfl) ?_
                  refine GL_step rfl (PS_assign rfl) ?_
                  refine GL_nil ?_
                  refine GQ_sub (.cons (k := 2) rfl (.cons (k := 6) rfl (.cons (k := 7) rfl (.cons (k := 9) rfl (.cons (k := 10) rfl (.cons (k := 11) rfl (.cons (k := 12) rfl (.cons (k := 13) rfl (.cons (k := 62) rfl (.cons (k := 124) rfl (.nil _))))))))))) ?_
                  refine GQ_then ?_
                  refine G_cond rfl (fun c11 => ?_) (fun c11 => ?_)
                  · skip
                    have c11p := c11
                    try simp only [decide_eq_true_eq, decide_eq_false_iff_not, Bool.not_eq_true', Bool.not_eq_false', Bool.or_eq_true, Bool.and_eq_true, Bool.or_eq_false_iff, Bool.and_eq_false_iff, Int.not_lt, Int.not_le] at c11p
                    refine G_subF (.cons (k := 2) rfl (.cons (k := 6) rfl (.cons (k := 7) rfl (.cons (k := 9) rfl (.cons (k := 10) rfl (.cons (k := 11) rfl (.cons (k := 12) rfl (.cons (k := 62) rfl (.cons (k := 124) rfl (.nil _)))))))))) ?_
                    refine G_planN (N := 6) [0, 1, 0, 4, 15, 31] mix (by kernel_rfl) rfl ?_
                    refine Plan_float 0 rfl rfl (by kernel_rfl) (OK_s (EX_s (PS_move rfl))) ?_
                    refine Plan_float 2 rfl rfl (by kernel_rfl) (OK_s (EX_s (PS_fieldAddr fa36_9 rfl))) ?_
                    refine Plan_float 3 rfl rfl (by kernel_rfl) (OK_s (EX_s (PS_load rfl tys9 (.tail _ (.tail _ (.head _))) Ing.Event.l9 rfl rfl))) ?_
                    refine Plan_chain 1 rfl (by kernel_rfl) ?_
                    refine GL_callLV rfl cf35 rfl (.cons rfl (.cons rfl .nil)) (.cons .head (.cons .head .nil)) (ref_TellOf_1_spec _ _ _ _ _ _ (by decide) (by decide) (by first | exact hs.who | decide)) (fun v45 B hv => ?_)
                    obtain ⟨y46, rfl, y47, y48, rfl⟩ := hv
                    refine GL_hand rfl ⟨?_, ?_⟩
                    · exact (Pend_okv rfl (OK_s (EX_s (PS_load rfl tys9 (.tail _ (.tail _ (.head _))) Ing.Event.l9 rfl rfl))) rfl rfl (Pend_okv rfl (OK_s (EX_s (PS_fieldAddr fa36_9 rfl))) rfl rfl (Pend_skip (by kernel_rfl) Pend_nil)))
                    refine Plan_float 4 rfl rfl (by kernel_rfl) (OK_s (EX_s (PS_add_str rfl rfl (by first | omega | (simp only [List.length_append, List.length_cons, List.length_nil]; omega))))) ?_
                    refine Plan_float 5 rfl rfl (by kernel_rfl) (OK_s (EX_s (PS_assign rfl))) ?_
                    refine Plan_end (by kernel_rfl) ?_
                    refine GQ_sub (.cons (k := 13) rfl (.nil _)) ?_
                    refine GQ_block ?_
                    refine GQ_then ?_
                    refine G_seq ?_
                    refine G_region ?_
                    refine GL_step rfl (PS_move rfl) ?_
                    refine GL_step rfl (PS_move rfl) ?_
                    refine GL_step rfl (PS_neq_str rfl rfl) ?_
                    refine GL_step rfl (PS_assign rfl) ?_
                    refine GL_step rfl (PS_assign rfl) ?_
                    refine GL_nil ?_
                    refine GQ_sub (.cons (k := 4) rfl (.cons (k := 5) rfl (.nil _))) ?_
                    refine GQ_then ?_
                    refine G_ret ?_
                    refine GQ_ret rfl (.tmp rfl (.tmp rfl .nil)) ?_
                    subst y47
                    intro w1 hS; refine ⟨?_, hS.toKeep⟩; have hw : Land.whoOf e b = Land.someone := if_t c2
                    rw [show Land.tellR e b = Land.sayR (decide (b = e.actor)) (Land.whoOf e b) (Land.whomOf e b) (Land.called e.dir) (Lib.itoa e.n) e.thing e.text e.kind from if_f c1, hw, show Land.sayR (decide (b = e.actor)) Land.someone (Land.whomOf e b) (Land.called e.dir) (Lib.itoa e.n) e.thing e.text e.kind = _ from ((if_f c3).trans ((if_f c4).trans ((if_f c6).trans ((if_f c7).trans ((if_f c8).trans ((if_f c10).trans (if_t c11)))))))]; rfl
                  · skip
                    have c11p := c11
                    try simp only [decide_eq_true_eq, decide_eq_false_iff_not, Bool.not_eq_true', Bool.not_eq_false', Bool.or_eq_true, Bool.and_eq_true, Bool.or_eq_false_iff, Bool.and_eq_false_iff, Int.not_lt, Int.not_le] at c11p
                    refine G_seq ?_
                    refine G_region ?_
                    refine GL_step rfl (PS_eql rfl rfl) ?_
                    refine GL_step rfl (PS_assign rfl) ?_
                    refine GL_nil ?_
                    refine GQ_sub (.cons (k := 2) rfl (.cons (k := 6) rfl (.cons (k := 7) rfl (.cons (k := 9) rfl (.cons (k := 10) rfl (.cons (k := 11) rfl (.cons (k := 12) rfl (.cons (k := 13) rfl (.cons (k := 62) rfl (.cons (k := 131) rfl (.nil _))))))))))) ?_
                    refine GQ_then ?_
                    refine G_cond rfl (fun c12 => ?_) (fun c12 => ?_)
                    · skip
                      have c12p := c12
                      try simp only [decide_eq_true_eq, decide_eq_false_iff_not, Bool.not_eq_true', Bool.not_eq_false', Bool.or_eq_true, Bool.and_eq_true, Bool.or_eq_false_iff, Bool.and_eq_false_iff, Int.not_lt, Int.not_le] at c12p
                      refine G_region ?_
                      refine GL_step rfl (PS_move rfl) ?_
                      refine GL_callLV rfl cf35 rfl (.cons rfl (.cons rfl .nil)) (.cons .head (.cons .head .nil)) (ref_TellOf_1_spec _ _ _ _ _ _ (by decide) (by decide) (by first | exact hs.who | decide)) (fun v49 B hv => ?_)
                      obtain ⟨y50, rfl, y51, y52, rfl⟩ := hv
                      refine GL_step rfl (PS_move rfl) ?_
                      refine GL_callLV rfl cf36 rfl .nil (.cons .head (.cons (.tail .head) .nil)) (ref_TellOf_2_spec _ _ _ _ hs) (fun v53 B hv => ?_)
                      obtain ⟨y54, rfl, y55, y56, rfl⟩ := hv
                      refine GL_step rfl (PS_add_str rfl rfl (by first | omega | (simp only [List.length_append, List.length_cons, List.length_nil]; omega))) ?_
                      refine GL_step rfl (PS_add_str rfl rfl (by first | omega | (simp only [List.length_append, List.length_cons, List.length_nil]; omega))) ?_
                      refine GL_step rfl (PS_assign rfl) ?_
                      refine GL_nil ?_
                      refine GQ_sub (.cons (k := 13) rfl (.nil _)) ?_
                      refine GQ_block ?_
                      refine GQ_then ?_
                      refine G_seq ?_
                      refine G_region ?_
                      refine GL_step rfl (PS_move rfl) ?_
                      refine GL_step rfl (PS_move rfl) ?_
                      refine GL_step rfl (PS_neq_str rfl rfl) ?_
                      refine GL_step rfl (PS_assign rfl) ?_
                      refine GL_step rfl (PS_assign rfl) ?_
                      refine GL_nil ?_
                      refine GQ_sub (.cons (k := 4) rfl (.cons (k := 5) rfl (.nil _))) ?_
                      refine GQ_then ?_
                      refine G_ret ?_
                      refine GQ_ret rfl (.tmp rfl (.tmp rfl .nil)) ?_
                      subst y51
                      subst y55
                      intro w1 hS; refine ⟨?_, hS.toKeep⟩; have hw : Land.whoOf e b = Land.someone := if_t c2
                      rw [show Land.tellR e b = Land.sayR (decide (b = e.actor)) (Land.whoOf e b) (Land.whomOf e b) (Land.called e.dir) (Lib.itoa e.n) e.thing e.text e.kind from if_f c1, hw, show Land.sayR (decide (b = e.actor)) Land.someone (Land.whomOf e b) (Land.called e.dir) (Lib.itoa e.n) e.thing e.text e.kind = _ from ((if_f c3).trans ((if_f c4).trans ((if_f c6).trans ((if_f c7).trans ((if_f c8).trans ((if_f c10).trans ((if_f c11).trans (if_t c12))))))))]; rfl
                    · skip
                      have c12p := c12
                      try simp only [decide_eq_true_eq, decide_eq_false_iff_not, Bool.not_eq_true', Bool.not_eq_false', Bool.or_eq_true, Bool.and_eq_true, Bool.or_eq_false_iff, Bool.and_eq_false_iff, Int.not_lt, Int.not_le] at c12p
                      refine G_seq ?_
                      refine G_region ?_
                      refine GL_step rfl (PS_eql rfl rfl) ?_
                      refine GL_step rfl (PS_assign rfl) ?_
                      refine GL_nil ?_
                      refine GQ_sub (.cons (k := 2) rfl (.cons (k := 6) rfl (.cons (k := 7) rfl (.cons (k := 9) rfl (.cons (k := 10) rfl (.cons (k := 11) rfl (.cons (k := 12) rfl (.cons (k := 13) rfl (.cons (k := 62) rfl (.cons (k := 139) rfl (.nil _))))))))))) ?_
                      refine GQ_then ?_
                      refine G_cond rfl (fun c13 => ?_) (fun c13 => ?_)
                      · skip
                        have c13p := c13
                        try simp only [decide_eq_true_eq, decide_eq_false_iff_not, Bool.not_eq_true', Bool.not_eq_false', Bool.or_eq_true, Bool.and_eq_true, Bool.or_eq_false_iff, Bool.and_eq_false_iff, Int.not_lt, Int.not_le] at c13p
                        refine G_region ?_
                        refine GL_step rfl (PS_move rfl) ?_
                        refine GL_callLV rfl cf35 rfl (.cons rfl (.cons rfl .nil)) (.cons .head (.cons .head .nil)) (ref_TellOf_1_spec _ _ _ _ _ _ (by decide) (by decide) (by first | exact hs.who | decide)) (fun v57 B hv => ?_)
                        obtain ⟨y58, rfl, y59, y60, rfl⟩ := hv
                        refine GL_step rfl (PS_move rfl) ?_
                        refine GL_callLV rfl cf36 rfl .nil (.cons .head (.cons (.tail .head) .nil)) (ref_TellOf_2_spec _ _ _ _ hs) (fun v61 B hv => ?_)
                        obtain ⟨y62, rfl, y63, y64, rfl⟩ := hv
                        refine GL_step rfl (PS_add_str rfl rfl (by first | omega | (simp only [List.length_append, List.length_cons, List.length_nil]; omega))) ?_
                        refine GL_step rfl (PS_add_str rfl rfl (by first | omega | (simp only [List.length_append, List.length_cons, List.length_nil]; omega))) ?_
                        refine GL_step rfl (PS_assign rfl) ?_
                        refine GL_nil ?_
                        refine GQ_sub (.cons (k := 13) rfl (.nil _)) ?_
                        refine GQ_block ?_
                        refine GQ_then ?_
                        refine G_seq ?_
                        refine G_region ?_
                        refine GL_step rfl (PS_move rfl) ?_
                        refine GL_step rfl (PS_move rfl) ?_
                        refine GL_step rfl (PS_neq_str rfl rfl) ?_
                        refine GL_step rfl (PS_assign rfl) ?_
                        refine GL_step rfl (PS_assign rfl) ?_
                        refine GL_nil ?_
                        refine GQ_sub (.cons (k := 4) rfl (.cons (k := 5) rfl (.nil _))) ?_
                        refine GQ_then ?_
                        refine G_ret ?_
                        refine GQ_ret rfl (.tmp rfl (.tmp rfl .nil)) ?_
                        subst y59
                        subst y63
                        intro w1 hS; refine ⟨?_, hS.toKeep⟩; have hw : Land.whoOf e b = Land.someone := if_t c2
                        rw [show Land.tellR e b = Land.sayR (decide (b = e.actor)) (Land.whoOf e b) (Land.whomOf e b) (Land.called e.dir) (Lib.itoa e.n) e.thing e.text e.kind from if_f c1, hw, show Land.sayR (decide (b = e.actor)) Land.someone (Land.whomOf e b) (Land.called e.dir) (Lib.itoa e.n) e.thing e.text e.kind = _ from ((if_f c3).trans ((if_f c4).trans ((if_f c6).trans ((if_f c7).trans ((if_f c8).trans ((if_f c10).trans ((if_f c11).trans ((if_f c12).trans (if_t c13)))))))))]; rfl
                      · skip
                        have c13p := c13
                        try simp only [decide_eq_true_eq, decide_eq_false_iff_not, Bool.not_eq_true', Bool.not_eq_false', Bool.or_eq_true, Bool.and_eq_true, Bool.or_eq_false_iff, Bool.and_eq_false_iff, Int.not_lt, Int.not_le] at c13p
                        refine G_seq ?_
                        refine G_region ?_
                        refine GL_step rfl (PS_eql rfl rfl) ?_
                        refine GL_step rfl (PS_assign rfl) ?_
                        refine GL_nil ?_
                        refine GQ_sub (.cons (k := 2) rfl (.cons (k := 6) rfl (.cons (k := 7) rfl (.cons (k := 9) rfl (.cons (k := 10) rfl (.cons (k := 11) rfl (.cons (k := 12) rfl (.cons (k := 13) rfl (.cons (k := 62) rfl (.cons (k := 147) rfl (.nil _))))))))))) ?_
                        refine GQ_then ?_
                        refine G_cond rfl (fun c14 => ?_) (fun c14 => ?_)
                        · skip
                          have c14p := c14
                          try simp only [decide_eq_true_eq, decide_eq_false_iff_not, Bool.not_eq_true', Bool.not_eq_false', Bool.or_eq_true, Bool.and_eq_true, Bool.or_eq_false_iff, Bool.and_eq_false_iff, Int.not_lt, Int.not_le] at c14p
                          refine G_region ?_
                          refine GL_step rfl (PS_move rfl) ?_
                          refine GL_callLV rfl cf35 rfl (.cons rfl (.cons rfl .nil)) (.cons .head (.cons .head .nil)) (ref_TellOf_1_spec _ _ _ _ _ _ (by decide) (by decide) (by first | exact hs.who | decide)) (fun v65 B hv => ?_)
                          obtain ⟨y66, rfl, y67, y68, rfl⟩ := hv
                          refine GL_step rfl (PS_move rfl) ?_
                          refine GL_callLV rfl cf36 rfl .nil (.cons .head (.cons (.tail .head) .nil)) (ref_TellOf_2_spec _ _ _ _ hs) (fun v69 B hv => ?_)
                          obtain ⟨y70, rfl, y71, y72, rfl⟩ := hv
                          refine GL_step rfl (PS_add_str rfl rfl (by first | omega | (simp only [List.length_append, List.length_cons, List.length_nil]; omega))) ?_
                          refine GL_step rfl (PS_add_str rfl rfl (by first | omega | (simp only [List.length_append, List.length_cons, List.length_nil]; omega))) ?_
                          refine GL_step rfl (PS_assign rfl) ?_
                          refine GL_nil ?_
                          refine GQ_sub (.cons (k := 13) rfl (.nil _)) ?_
                          refine GQ_block ?_
                          refine GQ_then ?_
                          refine G_seq ?_
                          refine G_region ?_
                          refine GL_step rfl (PS_move rfl) ?_
                          refine GL_step rfl (PS_move rfl) ?_
                          refine GL_step rfl (PS_neq_str rfl rfl) ?_
                          refine GL_step rfl (PS_assign rfl) ?_
                          refine GL_step rfl (PS_assign rfl) ?_
                          refine GL_nil ?_
                          refine GQ_sub (.cons (k := 4) rfl (.cons (k := 5) rfl (.nil _))) ?_
                          refine GQ_then ?_
                          refine G_ret ?_
                          refine GQ_ret rfl (.tmp rfl (.tmp rfl .nil)) ?_
                          subst y67
                          subst y71
                          intro w1 hS; refine ⟨?_, hS.toKeep⟩; have hw : Land.whoOf e b = Land.someone := if_t c2
                          rw [show Land.tellR e b = Land.sayR (decide (b = e.actor)) (Land.whoOf e b) (Land.whomOf e b) (Land.called e.dir) (Lib.itoa e.n) e.thing e.text e.kind from if_f c1, hw, show Land.sayR (decide (b = e.actor)) Land.someone (Land.whomOf e b) (Land.called e.dir) (Lib.itoa e.n) e.thing e.text e.kind = _ from ((if_f c3).trans ((if_f c4).trans ((if_f c6).trans ((if_f c7).trans ((if_f c8).trans ((if_f c10).trans ((if_f c11).trans ((if_f c12).trans ((if_f c13).trans (if_t c14))))))))))]; rfl
                        · skip
                          have c14p := c14
                          try simp only [decide_eq_true_eq, decide_eq_false_iff_not, Bool.not_eq_true', Bool.not_eq_false', Bool.or_eq_true, Bool.and_eq_true, Bool.or_eq_false_iff, Bool.and_eq_false_iff, Int.not_lt, Int.not_le] at c14p
                          refine G_seq ?_
                          refine G_region ?_
                          refine GL_step rfl (PS_eql rfl rfl) ?_
                          refine GL_step rfl (PS_assign rfl) ?_
                          refine GL_nil ?_
                          refine GQ_sub (.cons (k := 2) rfl (.cons (k := 6) rfl (.cons (k := 7) rfl (.cons (k := 9) rfl (.cons (k := 10) rfl (.cons (k := 11) rfl (.cons (k := 12) rfl (.cons (k := 13) rfl (.cons (k := 62) rfl (.cons (k := 155) rfl (.nil _))))))))))) ?_
                          refine GQ_then ?_
                          refine G_cond rfl (fun c15 => ?_) (fun c15 => ?_)
                          · skip
                            have c15p := c15
                            try simp only [decide_eq_true_eq, decide_eq_false_iff_not, Bool.not_eq_true', Bool.not_eq_false', Bool.or_eq_true, Bool.and_eq_true, Bool.or_eq_false_iff, Bool.and_eq_false_iff, Int.not_lt, Int.not_le] at c15p
                            refine G_region ?_
                            refine GL_step rfl (PS_move rfl) ?_
                            refine GL_callLV rfl cf35 rfl (.cons rfl (.cons rfl .nil)) (.cons .head (.cons .head .nil)) (ref_TellOf_1_spec _ _ _ _ _ _ (by decide) (by decide) (by first | exact hs.who | decide)) (fun v73 B hv => ?_)
                            obtain ⟨y74, rfl, y75, y76, rfl⟩ := hv
                            refine GL_step rfl (PS_move rfl) ?_
                            refine GL_callLV rfl cf36 rfl .nil (.cons .head (.cons (.tail .head) .nil)) (ref_TellOf_2_spec _ _ _ _ hs) (fun v77 B hv => ?_)
                            obtain ⟨y78, rfl, y79, y80, rfl⟩ := hv
                            refine GL_step rfl (PS_add_str rfl rfl (by first | omega | (simp only [List.length_append, List.length_cons, List.length_nil]; omega))) ?_
                            refine GL_step rfl (PS_add_str rfl rfl (by first | omega | (simp only [List.length_append, List.length_cons, List.length_nil]; omega))) ?_
                            refine GL_step rfl (PS_assign rfl) ?_
                            refine GL_nil ?_
                            refine GQ_sub (.cons (k := 13) rfl (.nil _)) ?_
                            refine GQ_block ?_
                            refine GQ_then ?_
                            refine G_seq ?_
                            refine G_region ?_
                            refine GL_step rfl (PS_move rfl) ?_
                            refine GL_step rfl (PS_move rfl) ?_
                            refine GL_step rfl (PS_neq_str rfl rfl) ?_
                            refine GL_step rfl (PS_assign rfl) ?_
                            refine GL_step rfl (PS_assign rfl) ?_
                            refine GL_nil ?_
                            refine GQ_sub (.cons (k := 4) rfl (.cons (k := 5) rfl (.nil _))) ?_
                            refine GQ_then ?_
                            refine G_ret ?_
                            refine GQ_ret rfl (.tmp rfl (.tmp rfl .nil)) ?_
                            subst y75
                            subst y79
                            intro w1 hS; refine ⟨?_, hS.toKeep⟩; have hw : Land.whoOf e b = Land.someone := if_t c2
                            rw [show Land.tellR e b = Land.sayR (decide (b = e.actor)) (Land.whoOf e b) (Land.whomOf e b) (Land.called e.dir) (Lib.itoa e.n) e.thing e.text e.kind from if_f c1, hw, show Land.sayR (decide (b = e.actor)) Land.someone (Land.whomOf e b) (Land.called e.dir) (Lib.itoa e.n) e.thing e.text e.kind = _ from ((if_f c3).trans ((if_f c4).trans ((if_f c6).trans ((if_f c7).trans ((if_f c8).trans ((if_f c10).trans ((if_f c11).trans ((if_f c12).trans ((if_f c13).trans ((if_f c14).trans (if_t c15)))))))))))]; rfl
                          · skip
                            have c15p := c15
                            try simp only [decide_eq_true_eq, decide_eq_false_iff_not, Bool.not_eq_true', Bool.not_eq_false', Bool.or_eq_true, Bool.and_eq_true, Bool.or_eq_false_iff, Bool.and_eq_false_iff, Int.not_lt, Int.not_le] at c15p
                            refine G_seq ?_
                            refine G_region ?_
                            refine GL_step rfl (PS_eql rfl rfl) ?_
                            refine GL_step rfl (PS_assign rfl) ?_
                            refine GL_nil ?_
                            refine GQ_sub (.cons (k := 2) rfl (.cons (k := 6) rfl (.cons (k := 7) rfl (.cons (k := 9) rfl (.cons (k := 10) rfl (.cons (k := 11) rfl (.cons (k := 12) rfl (.cons (k := 13) rfl (.cons (k := 62) rfl (.cons (k := 163) rfl (.nil _))))))))))) ?_
                            refine GQ_then ?_
                            refine G_cond rfl (fun c16 => ?_) (fun c16 => ?_)
                            · skip
                              have c16p := c16
                              try simp only [decide_eq_true_eq, decide_eq_false_iff_not, Bool.not_eq_true', Bool.not_eq_false', Bool.or_eq_true, Bool.and_eq_true, Bool.or_eq_false_iff, Bool.and_eq_false_iff, Int.not_lt, Int.not_le] at c16p
                              refine G_region ?_
                              refine GL_step rfl (PS_move rfl) ?_
                              refine GL_callLV rfl cf35 rfl (.cons rfl (.cons rfl .nil)) (.cons .head (.cons .head .nil)) (ref_TellOf_1_spec _ _ _ _ _ _ (by decide) (by decide) (by first | exact hs.who | decide)) (fun v81 B hv => ?_)
                              obtain ⟨y82, rfl, y83, y84, rfl⟩ := hv
                              refine GL_step rfl (PS_move rfl) ?_
                              refine GL_callLV rfl cf36 rfl .nil (.cons .head (.cons (.tail .head) .nil)) (ref_TellOf_2_spec _ _ _ _ hs) (fun v85 B hv => ?_)
                              obtain ⟨y86, rfl, y87, y88, rfl⟩ := hv
                              refine GL_step rfl (PS_add_str rfl rfl (by first | omega | (simp only [List.length_append, List.length_cons, List.length_nil]; omega))) ?_
                              refine GL_step rfl (PS_add_str rfl rfl (by first | omega | (simp only [List.length_append, List.length_cons, List.length_nil]; omega))) ?_
                              refine GL_step rfl (PS_assign rfl) ?_
                              refine GL_nil ?_
                              refine GQ_sub (.cons (k := 13) rfl (.nil _)) ?_
                              refine GQ_block ?_
                              refine GQ_then ?_
                              refine G_seq ?_
                              refine G_region ?_
                              refine GL_step rfl (PS_move rfl) ?_
                              refine GL_step rfl (PS_move rfl) ?_
                              refine GL_step rfl (PS_neq_str rfl rfl) ?_
                              refine GL_step rfl (PS_assign rfl) ?_
                              refine GL_step rfl (PS_assign rfl) ?_
                              refine GL_nil ?_
                              refine GQ_sub (.cons (k := 4) rfl (.cons (k := 5) rfl (.nil _))) ?_
                              refine GQ_then ?_
                              refine G_ret ?_
                              refine GQ_ret rfl (.tmp rfl (.tmp rfl .nil)) ?_
                              subst y83
                              subst y87
                              intro w1 hS; refine ⟨?_, hS.toKeep⟩; have hw : Land.whoOf e b = Land.someone := if_t c2
                              rw [show Land.tellR e b = Land.sayR (decide (b = e.actor)) (Land.whoOf e b) (Land.whomOf e b) (Land.called e.dir) (Lib.itoa e.n) e.thing e.text e.kind from if_f c1, hw, show Land.sayR (decide (b = e.actor)) Land.someone (Land.whomOf e b) (Land.called e.dir) (Lib.itoa e.n) e.thing e.text e.kind = _ from ((if_f c3).trans ((if_f c4).trans ((if_f c6).trans ((if_f c7).trans ((if_f c8).trans ((if_f c10).trans ((if_f c11).trans ((if_f c12).trans ((if_f c13).trans ((if_f c14).trans ((if_f c15).trans (if_t c16))))))))))))]; rfl
                            · skip
                              have c16p := c16
                              try simp only [decide_eq_true_eq, decide_eq_false_iff_not, Bool.not_eq_true', Bool.not_eq_false', Bool.or_eq_true, Bool.and_eq_true, Bool.or_eq_false_iff, Bool.and_eq_false_iff, Int.not_lt, Int.not_le] at c16p
                              refine G_seq ?_
                              refine G_region ?_
                              refine GL_step rfl (PS_eql rfl rfl) ?_
                              refine GL_step rfl (PS_assign rfl) ?_
                              refine GL_nil ?_
                              refine GQ_sub (.cons (k := 2) rfl (.cons (k := 6) rfl (.cons (k := 7) rfl (.cons (k := 9) rfl (.cons (k := 10) rfl (.cons (k := 11) rfl (.cons (k := 12) rfl (.cons (k := 13) rfl (.cons (k := 62) rfl (.cons (k := 171) rfl (.nil _))))))))))) ?_
                              refine GQ_then ?_
                              refine G_cond rfl (fun c17 => ?_) (fun c17 => ?_)
                              · skip
                                have c17p := c17
                                try simp only [decide_eq_true_eq, decide_eq_false_iff_not, Bool.not_eq_true', Bool.not_eq_false', Bool.or_eq_true, Bool.and_eq_true, Bool.or_eq_false_iff, Bool.and_eq_false_iff, Int.not_lt, Int.not_le] at c17p
                                refine G_region ?_
                                refine GL_step rfl (PS_move rfl) ?_
                                refine GL_callLV rfl cf35 rfl (.cons rfl (.cons rfl .nil)) (.cons .head (.cons .head .nil)) (ref_TellOf_1_spec _ _ _ _ _ _ (by decide) (by decide) (by first | exact hs.who | decide)) (fun v89 B hv => ?_)
                                obtain ⟨y90, rfl, y91, y92, rfl⟩ := hv
                                refine GL_step rfl (PS_move rfl) ?_
                                refine GL_callLV rfl cf36 rfl .nil (.cons .head (.cons (.tail .head) .nil)) (ref_TellOf_2_spec _ _ _ _ hs) (fun v93 B hv => ?_)
                                obtain ⟨y94, rfl, y95, y96, rfl⟩ := hv
                                refine GL_step rfl (PS_add_str rfl rfl (by first | omega | (simp only [List.length_append, List.length_cons, List.length_nil]; omega))) ?_
                                refine GL_step rfl (PS_add_str rfl rfl (by first | omega | (simp only [List.length_append, List.length_cons, List.length_nil]; omega))) ?_
                                refine GL_step rfl (PS_assign rfl) ?_
                                refine GL_nil ?_
                                refine GQ_sub (.cons (k := 13) rfl (.nil _)) ?_
                                refine GQ_block ?_
                                refine GQ_then ?_
                                refine G_seq ?_
                                refine G_region ?_
                                refine GL_step rfl (PS_move rfl) ?_
                                refine GL_step rfl (PS_move rfl) ?_
                                refine GL_step rfl (PS_neq_str rfl rfl) ?_
                                refine GL_step rfl (PS_assign rfl) ?_
                                refine GL_step rfl (PS_assign rfl) ?_
                                refine GL_nil ?_
                                refine GQ_sub (.cons (k := 4) rfl (.cons (k := 5) rfl (.nil _))) ?_
                                refine GQ_then ?_
                                refine G_ret ?_
                                refine GQ_ret rfl (.tmp rfl (.tmp rfl .nil)) ?_
                                subst y91
                                subst y95
                                intro w1 hS; refine ⟨?_, hS.toKeep⟩; have hw : Land.whoOf e b = Land.someone := if_t c2
                                rw [show Land.tellR e b = Land.sayR (decide (b = e.actor)) (Land.whoOf e b) (Land.whomOf e b) (Land.called e.dir) (Lib.itoa e.n) e.thing e.text e.kind from if_f c1, hw, show Land.sayR (decide (b = e.actor)) Land.someone (Land.whomOf e b) (Land.called e.dir) (Lib.itoa e.n) e.thing e.text e.kind = _ from ((if_f c3).trans ((if_f c4).trans ((if_f c6).trans ((if_f c7).trans ((if_f c8).trans ((if_f c10).trans ((if_f c11).trans ((if_f c12).trans ((if_f c13).trans ((if_f c14).trans ((if_f c15).trans ((if_f c16).trans (if_t c17)))))))))))))]; rfl
                              · skip
                                have c17p := c17
                                try simp only [decide_eq_true_eq, decide_eq_false_iff_not, Bool.not_eq_true', Bool.not_eq_false', Bool.or_eq_true, Bool.and_eq_true, Bool.or_eq_false_iff, Bool.and_eq_false_iff, Int.not_lt, Int.not_le] at c17p
                                refine G_seq ?_
                                refine G_region ?_
                                refine GL_step rfl (PS_eql rfl rfl) ?_
                                refine GL_step rfl (PS_assign rfl) ?_
                                refine GL_nil ?_
                                refine GQ_sub (.cons (k := 2) rfl (.cons (k := 6) rfl (.cons (k := 7) rfl (.cons (k := 9) rfl (.cons (k := 10) rfl (.cons (k := 11) rfl (.cons (k := 13) rfl (.cons (k := 62) rfl (.cons (k := 179) rfl (.nil _)))))))))) ?_
                                refine GQ_then ?_
                                refine G_cond rfl (fun c18 => ?_) (fun c18 => ?_)
                                · skip
                                  have c18p := c18
                                  try simp only [decide_eq_true_eq, decide_eq_false_iff_not, Bool.not_eq_true', Bool.not_eq_false', Bool.or_eq_true, Bool.and_eq_true, Bool.or_eq_false_iff, Bool.and_eq_false_iff, Int.not_lt, Int.not_le] at c18p
                                  refine G_region ?_
                                  refine GL_step rfl (PS_move rfl) ?_
                                  refine GL_callLV rfl cf35 rfl (.cons rfl (.cons rfl .nil)) (.cons .head (.cons .head .nil)) (ref_TellOf_1_spec _ _ _ _ _ _ (by decide) (by decide) (by first | exact hs.who | decide)) (fun v97 B hv => ?_)
                                  obtain ⟨y98, rfl, y99, y100, rfl⟩ := hv
                                  refine GL_step rfl (PS_move rfl) ?_
                                  refine GL_step rfl (PS_add_str rfl rfl (by first | omega | (simp only [List.length_append, List.length_cons, List.length_nil]; omega))) ?_
                                  refine GL_step rfl (PS_add_str rfl rfl (by first | omega | (simp only [List.length_append, List.length_cons, List.length_nil]; omega))) ?_
                                  refine GL_step rfl (PS_move rfl) ?_
                                  refine GL_step rfl (PS_add_str rfl rfl (by first | omega | (simp only [List.length_append, List.length_cons, List.length_nil]; omega))) ?_
                                  refine GL_step rfl (PS_add_str rfl rfl (by first | omega | (simp only [List.length_append, List.length_cons, List.length_nil]; omega))) ?_
                                  refine GL_step rfl (PS_assign rfl) ?_
                                  refine GL_nil ?_
                                  refine GQ_sub (.cons (k := 13) rfl (.nil _)) ?_
                                  refine GQ_block ?_
                                  refine GQ_then ?_
                                  refine G_seq ?_
                                  refine G_region ?_
                                  refine GL_step rfl (PS_move rfl) ?_
                                  refine GL_step rfl (PS_move rfl) ?_
                                  refine GL_step rfl (PS_neq_str rfl rfl) ?_
                                  refine GL_step rfl (PS_assign rfl) ?_
                                  refine GL_step rfl (PS_assign rfl) ?_
                                  refine GL_nil ?_
                                  refine GQ_sub (.cons (k := 4) rfl (.cons (k := 5) rfl (.nil _))) ?_
                                  refine GQ_then ?_
                                  refine G_ret ?_
                                  refine GQ_ret rfl (.tmp rfl (.tmp rfl .nil)) ?_
                                  subst y99
                                  intro w1 hS; refine ⟨?_, hS.toKeep⟩; have hw : Land.whoOf e b = Land.someone := if_t c2
                                  rw [show Land.tellR e b = Land.sayR (decide (b = e.actor)) (Land.whoOf e b) (Land.whomOf e b) (Land.called e.dir) (Lib.itoa e.n) e.thing e.text e.kind from if_f c1, hw, show Land.sayR (decide (b = e.actor)) Land.someone (Land.whomOf e b) (Land.called e.dir) (Lib.itoa e.n) e.thing e.text e.kind = _ from ((if_f c3).trans ((if_f c4).trans ((if_f c6).trans ((if_f c7).trans ((if_f c8).trans ((if_f c10).trans ((if_f c11).trans ((if_f c12).trans ((if_f c13).trans ((if_f c14).trans ((if_f c15).trans ((if_f c16).trans ((if_f c17).trans (if_t c18))))))))))))))]; rfl
                                · skip
                                  have c18p := c18
                                  try simp only [decide_eq_true_eq, decide_eq_false_iff_not, Bool.not_eq_true', Bool.not_eq_false', Bool.or_eq_true, Bool.and_eq_true, Bool.or_eq_false_iff, Bool.and_eq_false_iff, Int.not_lt, Int.not_le] at c18p
                                  refine G_seq ?_
                                  refine G_region ?_
                                  refine GL_step rfl (PS_eql rfl rfl) ?_
                                  refine GL_step rfl (PS_assign rfl) ?_
                                  refine GL_nil ?_
                                  refine GQ_sub (.cons (k := 2) rfl (.cons (k := 6) rfl (.cons (k := 10) rfl (.cons (k := 13) rfl (.cons (k := 62) rfl (.cons (k := 189) rfl (.nil _))))))) ?_
                                  refine GQ_then ?_
                                  refine G_cond rfl (fun c19 => ?_) (fun c19 => ?_)
                                  · skip
                                    have c19p := c19
                                    try simp only [decide_eq_true_eq, decide_eq_false_iff_not, Bool.not_eq_true', Bool.not_eq_false', Bool.or_eq_true, Bool.and_eq_true, Bool.or_eq_false_iff, Bool.and_eq_false_iff, Int.not_lt, Int.not_le] at c19p
                                    refine G_seq ?_
                                    refine G_region ?_
                                    refine GL_step rfl (PS_load1 rfl tys9 (.tail _ (.head _))) ?_
                                    refine GL_step rfl (PS_add_str rfl rfl (by first | omega | (simp only [List.length_append, List.length_cons, List.length_nil]; omega))) ?_
                                    refine GL_step rfl (PS_assign rfl) ?_
                                    refine GL_nil ?_
                                    refine GQ_sub (.cons (k := 10) rfl (.cons (k := 13) rfl (.nil _))) ?_
                                    refine GQ_then ?_
                                    refine G_seq ?_
                                    refine G_region ?_
                                    refine GL_step rfl (PS_load1 rfl tys4 (.head _)) ?_
                                    refine GL_nil ?_
                                    refine GQ_sub (.cons (k := 13) rfl (.cons (k := 193) rfl (.nil _))) ?_
                                    refine GQ_then ?_
                                    refine G_set1 (vstr) (s := _) rfl rfl rfl rfl rfl ?_
                                    refine GQ_sub (.cons (k := 13) rfl (.nil _)) ?_
                                    refine GQ_block ?_
                                    refine GQ_then ?_
                                    refine G_seq ?_
                                    refine G_region ?_
                                    refine GL_step rfl (PS_move rfl) ?_
                                    refine GL_step rfl (PS_move rfl) ?_
                                    refine GL_step rfl (PS_neq_str rfl rfl) ?_
                                    refine GL_step rfl (PS_assign rfl) ?_
                                    refine GL_step rfl (PS_assign rfl) ?_
                                    refine GL_nil ?_
                                    refine GQ_sub (.cons (k := 4) rfl (.cons (k := 5) rfl (.nil _))) ?_
                                    refine GQ_then ?_
                                    refine G_ret ?_
                                    refine GQ_ret rfl (.tmp rfl (.tmp rfl .nil)) ?_
                                    intro w1 hS; refine ⟨?_, hS.toKeep⟩; have hw : Land.whoOf e b = Land.someone := if_t c2
                                    rw [show Land.tellR e b = Land.sayR (decide (b = e.actor)) (Land.whoOf e b) (Land.whomOf e b) (Land.called e.dir) (Lib.itoa e.n) e.thing e.text e.kind from if_f c1, hw, show Land.sayR (decide (b = e.actor)) Land.someone (Land.whomOf e b) (Land.called e.dir) (Lib.itoa e.n) e.thing e.text e.kind = _ from ((if_f c3).trans ((if_f c4).trans ((if_f c6).trans ((if_f c7).trans ((if_f c8).trans ((if_f c10).trans ((if_f c11).trans ((if_f c12).trans ((if_f c13).trans ((if_f c14).trans ((if_f c15).trans ((if_f c16).trans ((if_f c17).trans ((if_f c18).trans (if_t c19)))))))))))))))]; rfl
                                  · skip
                                    have c19p := c19
                                    try simp only [decide_eq_true_eq, decide_eq_false_iff_not, Bool.not_eq_true', Bool.not_eq_false', Bool.or_eq_true, Bool.and_eq_true, Bool.or_eq_false_iff, Bool.and_eq_false_iff, Int.not_lt, Int.not_le] at c19p
                                    refine G_seq ?_
                                    refine G_region ?_
                                    refine GL_step rfl (PS_eql rfl rfl) ?_
                                    refine GL_step rfl (PS_assign rfl) ?_
                                    refine GL_nil ?_
                                    refine GQ_sub (.cons (k := 2) rfl (.cons (k := 6) rfl (.cons (k := 10) rfl (.cons (k := 13) rfl (.cons (k := 62) rfl (.cons (k := 194) rfl (.nil _))))))) ?_
                                    refine GQ_then ?_
                                    refine G_cond rfl (fun c20 => ?_) (fun c20 => ?_)
                                    · skip
                                      have c20p := c20
                                      try simp only [decide_eq_true_eq, decide_eq_false_iff_not, Bool.not_eq_true', Bool.not_eq_false', Bool.or_eq_true, Bool.and_eq_true, Bool.or_eq_false_iff, Bool.and_eq_false_iff, Int.not_lt, Int.not_le] at c20p
                                      refine G_seq ?_
                                      refine G_region ?_
                                      refine GL_step rfl (PS_load1 rfl tys4 (.head _)) ?_
                                      refine GL_nil ?_
                                      refine GQ_sub (.cons (k := 2) rfl (.cons (k := 13) rfl (.cons (k := 196) rfl (.nil _)))) ?_
                                      refine GQ_then ?_
                                      refine G_cond rfl (fun c21 => ?_) (fun c21 => ?_)
                                      · skip
                                        have c21p := c21
                                        try simp only [decide_eq_true_eq, decide_eq_false_iff_not, Bool.not_eq_true', Bool.not_eq_false', Bool.or_eq_true, Bool.and_eq_true, Bool.or_eq_false_iff, Bool.and_eq_false_iff, Int.not_lt, Int.not_le] at c21p
                                        refine G_seq ?_
                                        refine G_region ?_
                                        refine GL_step rfl (PS_fieldAddr fa36_9 rfl) ?_
                                        refine GL_step rfl (PS_load rfl tys9 (.tail _ (.tail _ (.head _))) Ing.Event.l9 rfl rfl) ?_
                                        refine GL_step rfl (PS_assign rfl) ?_
                                        refine GL_nil ?_
                                        refine GQ_sub (.cons (k := 13) rfl (.nil _)) ?_
                                        refine GQ_then ?_
                                        refine G_seq ?_
                                        refine G_region ?_
                                        refine GL_step rfl (PS_move rfl) ?_
                                        refine GL_step rfl (PS_assign rfl) ?_
                                        refine GL_step rfl (PS_assign rfl) ?_
                                        refine GL_nil ?_
                                        refine GQ_sub (.cons (k := 4) rfl (.cons (k := 5) rfl (.nil _))) ?_
                                        refine GQ_then ?_
                                        refine G_ret ?_
                                        refine GQ_block_ret ?_
                                        refine GQ_then_ret ?_
                                        refine GQ_ret rfl (.tmp rfl (.tmp rfl .nil)) ?_
                                        intro w1 hS; refine ⟨?_, hS.toKeep⟩; have hw : Land.whoOf e b = Land.someone := if_t c2
                                        rw [show Land.tellR e b = Land.sayR (decide (b = e.actor)) (Land.whoOf e b) (Land.whomOf e b) (Land.called e.dir) (Lib.itoa e.n) e.thing e.text e.kind from if_f c1, hw, show Land.sayR (decide (b = e.actor)) Land.someone (Land.whomOf e b) (Land.called e.dir) (Lib.itoa e.n) e.thing e.text e.kind = _ from ((if_f c3).trans ((if_f c4).trans ((if_f c6).trans ((if_f c7).trans ((if_f c8).trans ((if_f c10).trans ((if_f c11).trans ((if_f c12).trans ((if_f c13).trans ((if_f c14).trans ((if_f c15).trans ((if_f c16).trans ((if_f c17).trans ((if_f c18).trans ((if_f c19).trans ((if_t c20).trans (if_t c21)))))))))))))))))]; rfl
                                      · skip
                                        have c21p := c21
                                        try simp only [decide_eq_true_eq, decide_eq_false_iff_not, Bool.not_eq_true', Bool.not_eq_false', Bool.or_eq_true, Bool.and_eq_true, Bool.or_eq_false_iff, Bool.and_eq_false_iff, Int.not_lt, Int.not_le] at c21p
                                        refine G_skip ?_
                                        refine GQ_sub (.cons (k := 13) rfl (.nil _)) ?_
                                        refine GQ_block ?_
                                        refine GQ_then ?_
                                        refine G_seq ?_
                                        refine G_region ?_
                                        refine GL_step rfl (PS_move rfl) ?_
                                        refine GL_step rfl (PS_move rfl) ?_
                                        refine GL_step rfl (PS_neq_str rfl rfl) ?_
                                        refine GL_step rfl (PS_assign rfl) ?_
                                        refine GL_step rfl (PS_assign rfl) ?_
                                        refine GL_nil ?_
                                        refine GQ_sub (.cons (k := 4) rfl (.cons (k := 5) rfl (.nil _))) ?_
                                        refine GQ_then ?_
                                        refine G_ret ?_
                                        refine GQ_ret rfl (.tmp rfl (.tmp rfl .nil)) ?_
                                        intro w1 hS; refine ⟨?_, hS.toKeep⟩; have hw : Land.whoOf e b = Land.someone := if_t c2
                                        rw [show Land.tellR e b = Land.sayR (decide (b = e.actor)) (Land.whoOf e b) (Land.whomOf e b) (Land.called e.dir) (Lib.itoa e.n) e.thing e.text e.kind from if_f c1, hw, show Land.sayR (decide (b = e.actor)) Land.someone (Land.whomOf e b) (Land.called e.dir) (Lib.itoa e.n) e.thing e.text e.kind = _ from ((if_f c3).trans ((if_f c4).trans ((if_f c6).trans ((if_f c7).trans ((if_f c8).trans ((if_f c10).trans ((if_f c11).trans ((if_f c12).trans ((if_f c13).trans ((if_f c14).trans ((if_f c15).trans ((if_f c16).trans ((if_f c17).trans ((if_f c18).trans ((if_f c19).trans ((if_t c20).trans (if_f c21)))))))))))))))))]; rfl
                                    · skip
                                      have c20p := c20
                                      try simp only [decide_eq_true_eq, decide_eq_false_iff_not, Bool.not_eq_true', Bool.not_eq_false', Bool.or_eq_true, Bool.and_eq_true, Bool.or_eq_false_iff, Bool.and_eq_false_iff, Int.not_lt, Int.not_le] at c20p
                                      refine G_seq ?_
                                      refine G_region ?_
                                      refine GL_step rfl (PS_eql rfl rfl) ?_
                                      refine GL_step rfl (PS_assign rfl) ?_
                                      refine GL_nil ?_
                                      refine GQ_sub (.cons (k := 6) rfl (.cons (k := 10) rfl (.cons (k := 13) rfl (.cons (k := 62) rfl (.cons (k := 200) rfl (.nil _)))))) ?_
                                      refine GQ_then ?_
                                      refine G_cond rfl (fun c22 => ?_) (fun c22 => ?_)
                                      · skip
                                        have c22p := c22
                                        try simp only [decide_eq_true_eq, decide_eq_false_iff_not, Bool.not_eq_true', Bool.not_eq_false', Bool.or_eq_true, Bool.and_eq_true, Bool.or_eq_false_iff, Bool.and_eq_false_iff, Int.not_lt, Int.not_le] at c22p
                                        refine G_seq ?_
                                        refine G_region ?_
                                        refine GL_step rfl (PS_load1 rfl tys9 (.tail _ (.head _))) ?_
                                        refine GL_step rfl (PS_add_str rfl rfl (by first | omega | (simp only [List.length_append, List.length_cons, List.length_nil]; omega))) ?_
                                        refine GL_step rfl (PS_assign rfl) ?_
                                        refine GL_nil ?_
                                        refine GQ_sub (.cons (k := 10) rfl (.cons (k := 13) rfl (.nil _))) ?_
                                        refine GQ_then ?_
                                        refine G_seq ?_
                                        refine G_region ?_
                                        refine GL_step rfl (PS_load1 rfl tys4 (.head _)) ?_
                                        refine GL_nil ?_
                                        refine GQ_sub (.cons (k := 13) rfl (.cons (k := 204) rfl (.nil _))) ?_
                                        refine GQ_then ?_
                                        refine G_set1 (vstr) (s := _) rfl rfl rfl rfl rfl ?_
                                        refine GQ_sub (.cons (k := 13) rfl (.nil _)) ?_
                                        refine GQ_block ?_
                                        refine GQ_then ?_
                                        refine G_seq ?_
                                        refine G_region ?_
                                        refine GL_step rfl (PS_move rfl) ?_
                                        refine GL_step rfl (PS_move rfl) ?_
                                        refine GL_step rfl (PS_neq_str rfl rfl) ?_
                                        refine GL_step rfl (PS_assign rfl) ?_
                                        refine GL_step rfl (PS_assign rfl) ?_
                                        refine GL_nil ?_
                                        refine GQ_sub (.cons (k := 4) rfl (.cons (k := 5) rfl (.nil _))) ?_
                                        refine GQ_then ?_
                                        refine G_ret ?_
                                        refine GQ_ret rfl (.tmp rfl (.tmp rfl .nil)) ?_
                                        intro w1 hS; refine ⟨?_, hS.toKeep⟩; have hw : Land.whoOf e b = Land.someone := if_t c2
                                        rw [show Land.tellR e b = Land.sayR (decide (b = e.actor)) (Land.whoOf e b) (Land.whomOf e b) (Land.called e.dir) (Lib.itoa e.n) e.thing e.text e.kind from if_f c1, hw, show Land.sayR (decide (b = e.actor)) Land.someone (Land.whomOf e b) (Land.called e.dir) (Lib.itoa e.n) e.thing e.text e.kind = _ from ((if_f c3).trans ((if_f c4).trans ((if_f c6).trans ((if_f c7).trans ((if_f c8).trans ((if_f c10).trans ((if_f c11).trans ((if_f c12).trans ((if_f c13).trans ((if_f c14).trans ((if_f c15).trans ((if_f c16).trans ((if_f c17).trans ((if_f c18).trans ((if_f c19).trans ((if_f c20).trans (if_t c22)))))))))))))))))]; rfl
                                      · skip
                                        have c22p := c22
                                        try simp only [decide_eq_true_eq, decide_eq_false_iff_not, Bool.not_eq_true', Bool.not_eq_false', Bool.or_eq_true, Bool.and_eq_true, Bool.or_eq_false_iff, Bool.and_eq_false_iff, Int.not_lt, Int.not_le] at c22p
                                        refine G_seq ?_
                                        refine G_region ?_
                                        refine GL_step rfl (PS_eql rfl rfl) ?_
                                        refine GL_step rfl (PS_assign rfl) ?_
                                        refine GL_nil ?_
                                        refine GQ_sub (.cons (k := 6) rfl (.cons (k := 10) rfl (.cons (k := 13) rfl (.cons (k := 205) rfl (.nil _))))) ?_
                                        refine GQ_then ?_
                                        refine G_cond rfl (fun c23 => ?_) (fun c23 => ?_)
                                        · skip
                                          have c23p := c23
                                          try simp only [decide_eq_true_eq, decide_eq_false_iff_not, Bool.not_eq_true', Bool.not_eq_false', Bool.or_eq_true, Bool.and_eq_true, Bool.or_eq_false_iff, Bool.and_eq_false_iff, Int.not_lt, Int.not_le] at c23p
                                          refine G_seq ?_
                                          refine G_region ?_
                                          refine GL_step rfl (PS_load1 rfl tys4 (.head _)) ?_
                                          refine GL_step rfl (PS_not rfl) ?_
                                          refine GL_nil ?_
                                          refine GQ_sub (.cons (k := 6) rfl (.cons (k := 13) rfl (.cons (k := 208) rfl (.nil _)))) ?_
                                          refine GQ_then ?_
                                          refine G_cond rfl (fun c24 => ?_) (fun c24 => ?_)
                                          · skip
                                            have c24p := c24
                                            try simp only [decide_eq_true_eq, decide_eq_false_iff_not, Bool.not_eq_true', Bool.not_eq_false', Bool.or_eq_true, Bool.and_eq_true, Bool.or_eq_false_iff, Bool.and_eq_false_iff, Int.not_lt, Int.not_le] at c24p
                                            refine G_region ?_
                                            refine GL_step rfl (PS_load1 rfl tys9 (.tail _ (.head _))) ?_
                                            refine GL_step rfl (PS_add_str rfl rfl (by first | omega | (simp only [List.length_append, List.length_cons, List.length_nil]; omega))) ?_
                                            refine GL_step rfl (PS_assign rfl) ?_
                                            refine GL_nil ?_
                                            refine GQ_sub (.cons (k := 13) rfl (.nil _)) ?_
                                            refine GQ_block ?_
                                            refine GQ_then ?_
                                            refine G_seq ?_
                                            refine G_region ?_
                                            refine GL_step rfl (PS_move rfl) ?_
                                            refine GL_step rfl (PS_move rfl) ?_
                                            refine GL_step rfl (PS_neq_str rfl rfl) ?_
                                            refine GL_step rfl (PS_assign rfl) ?_
                                            refine GL_step rfl (PS_assign rfl) ?_
                                            refine GL_nil ?_
                                            refine GQ_sub (.cons (k := 4) rfl (.cons (k := 5) rfl (.nil _))) ?_
                                            refine GQ_then ?_
                                            refine G_ret ?_
                                            refine GQ_ret rfl (.tmp rfl (.tmp rfl .nil)) ?_
                                            intro w1 hS; refine ⟨?_, hS.toKeep⟩; have hw : Land.whoOf e b = Land.someone := if_t c2
                                            rw [show Land.tellR e b = Land.sayR (decide (b = e.actor)) (Land.whoOf e b) (Land.whomOf e b) (Land.called e.dir) (Lib.itoa e.n) e.thing e.text e.kind from if_f c1, hw, show Land.sayR (decide (b = e.actor)) Land.someone (Land.whomOf e b) (Land.called e.dir) (Lib.itoa e.n) e.thing e.text e.kind = _ from ((if_f c3).trans ((if_f c4).trans ((if_f c6).trans ((if_f c7).trans ((if_f c8).trans ((if_f c10).trans ((if_f c11).trans ((if_f c12).trans ((if_f c13).trans ((if_f c14).trans ((if_f c15).trans ((if_f c16).trans ((if_f c17).trans ((if_f c18).trans ((if_f c19).trans ((if_f c20).trans ((if_f c22).trans ((if_t c23).trans (if_t c24)))))))))))))))))))]; rfl
                                          · skip
                                            have c24p := c24
                                            try simp only [decide_eq_true_eq, decide_eq_false_iff_not, Bool.not_eq_true', Bool.not_eq_false', Bool.or_eq_true, Bool.and_eq_true, Bool.or_eq_false_iff, Bool.and_eq_false_iff, Int.not_lt, Int.not_le] at c24p
                                            refine G_skip ?_
                                            refine GQ_sub (.cons (k := 13) rfl (.nil _)) ?_
                                            refine GQ_block ?_
                                            refine GQ_then ?_
                                            refine G_seq ?_
                                            refine G_region ?_
                                            refine GL_step rfl (PS_move rfl) ?_
                                            refine GL_step rfl (PS_move rfl) ?_
                                            refine GL_step rfl (PS_neq_str rfl rfl) ?_
                                            refine GL_step rfl (PS_assign rfl) ?_
                                            refine GL_step rfl (PS_assign rfl) ?_
                                            refine GL_nil ?_
                                            refine GQ_sub (.cons (k := 4) rfl (.cons (k := 5) rfl (.nil _))) ?_
                                            refine GQ_then ?_
                                            refine G_ret ?_
                                            refine GQ_ret rfl (.tmp rfl (.tmp rfl .nil)) ?_
                                            intro w1 hS; refine ⟨?_, hS.toKeep⟩; have hw : Land.whoOf e b = Land.someone := if_t c2
                                            rw [show Land.tellR e b = Land.sayR (decide (b = e.actor)) (Land.whoOf e b) (Land.whomOf e b) (Land.called e.dir) (Lib.itoa e.n) e.thing e.text e.kind from if_f c1, hw, show Land.sayR (decide (b = e.actor)) Land.someone (Land.whomOf e b) (Land.called e.dir) (Lib.itoa e.n) e.thing e.text e.kind = _ from ((if_f c3).trans ((if_f c4).trans ((if_f c6).trans ((if_f c7).trans ((if_f c8).trans ((if_f c10).trans ((if_f c11).trans ((if_f c12).trans ((if_f c13).trans ((if_f c14).trans ((if_f c15).trans ((if_f c16).trans ((if_f c17).trans ((if_f c18).trans ((if_f c19).trans ((if_f c20).trans ((if_f c22).trans ((if_t c23).trans (if_f c24)))))))))))))))))))]; rfl
                                        · skip
                                          have c23p := c23
                                          try simp only [decide_eq_true_eq, decide_eq_false_iff_not, Bool.not_eq_true', Bool.not_eq_false', Bool.or_eq_true, Bool.and_eq_true, Bool.or_eq_false_iff, Bool.and_eq_false_iff, Int.not_lt, Int.not_le] at c23p
                                          refine G_skip ?_
                                          refine GQ_sub (.cons (k := 13) rfl (.nil _)) ?_
                                          refine GQ_block ?_
                                          refine GQ_then ?_
                                          refine G_seq ?_
                                          refine G_region ?_
                                          refine GL_step rfl (PS_move rfl) ?_
                                          refine GL_step rfl (PS_move rfl) ?_
                                          refine GL_step rfl (PS_neq_str rfl rfl) ?_
                                          refine GL_step rfl (PS_assign rfl) ?_
                                          refine GL_step rfl (PS_assign rfl) ?_
                                          refine GL_nil ?_
                                          refine GQ_sub (.cons (k := 4) rfl (.cons (k := 5) rfl (.nil _))) ?_
                                          refine GQ_then ?_
                                          refine G_ret ?_
                                          refine GQ_ret rfl (.tmp rfl (.tmp rfl .nil)) ?_
                                          intro w1 hS; refine ⟨?_, hS.toKeep⟩; have hw : Land.whoOf e b = Land.someone := if_t c2
                                          rw [show Land.tellR e b = Land.sayR (decide (b = e.actor)) (Land.whoOf e b) (Land.whomOf e b) (Land.called e.dir) (Lib.itoa e.n) e.thing e.text e.kind from if_f c1, hw, show Land.sayR (decide (b = e.actor)) Land.someone (Land.whomOf e b) (Land.called e.dir) (Lib.itoa e.n) e.thing e.text e.kind = _ from ((if_f c3).trans ((if_f c4).trans ((if_f c6).trans ((if_f c7).trans ((if_f c8).trans ((if_f c10).trans ((if_f c11).trans ((if_f c12).trans ((if_f c13).trans ((if_f c14).trans ((if_f c15).trans ((if_f c16).trans ((if_f c17).trans ((if_f c18).trans ((if_f c19).trans ((if_f c20).trans ((if_f c22).trans (if_f c23))))))))))))))))))]; rfl
    · skip
      have c2p := c2
      try simp only [decide_eq_true_eq, decide_eq_false_iff_not, Bool.not_eq_true', Bool.not_eq_false', Bool.or_eq_true, Bool.and_eq_true, Bool.or_eq_false_iff, Bool.and_eq_false_iff, Int.not_lt, Int.not_le] at c2p
      refine G_skip ?_
      refine GQ_sub (.cons (k := 1) rfl (.cons (k := 2) rfl (.cons (k := 6) rfl (.cons (k := 7) rfl (.nil _))))) ?_
      refine GQ_then ?_
      refine G_seq ?_
      refine G_seq ?_
      refine G_region ?_
      refine GL_step rfl (PS_move rfl) ?_
      refine GL_step rfl (PS_fieldAddr fa36_10 rfl) ?_
      refine GL_step rfl (PS_indexAddr ia22 rfl rfl (by first | omega | (simp only [List.length_append, List.length_cons, List.length_nil]; omega)) (by first | omega | (simp only [List.length_append, List.length_cons, List.length_nil]; omega))) ?_
      refine GL_step rfl (PS_load rfl tys3 (.tail _ (.head _)) (Ing.Event.l10.comp (Lens.arr (n := 6) flI (by first | omega | (simp only [List.length_append, List.length_cons, List.length_nil]; omega)) (by first | omega | (simp only [List.length_append, List.length_cons, List.length_nil]; omega)))) rfl rfl) ?_
      refine GL_step rfl (PS_andb rfl rfl (show _ = Land.band _ _ from rfl)) ?_
      refine GL_step rfl (PS_neq rfl rfl) ?_
      refine GL_nil ?_
      refine GQ_sub (.cons (k := 1) rfl (.cons (k := 2) rfl (.cons (k := 6) rfl (.cons (k := 7) rfl (.cons (k := 44) rfl (.nil _)))))) ?_
      refine GQ_then ?_
      refine G_set1 (vstr) (s := Land.whomA e b) rfl rfl rfl rfl rfl ?_
      refine GQ_sub (.cons (k := 1) rfl (.cons (k := 2) rfl (.cons (k := 6) rfl (.cons (k := 7) rfl (.nil _))))) ?_
      refine GQ_then ?_
      refine G_seq ?_
      refine G_seq ?_
      refine G_region ?_
      refine GL_step rfl (PS_move rfl) ?_
      refine GL_step rfl (PS_fieldAddr fa36_3 rfl) ?_
      refine GL_step rfl (PS_load rfl tys3 (.tail _ (.head _)) Ing.Event.l3 rfl rfl) ?_
      refine GL_step rfl (PS_eql rfl rfl) ?_
      refine GL_nil ?_
      refine GQ_sub (.cons (k := 1) rfl (.cons (k := 2) rfl (.cons (k := 6) rfl (.cons (k := 7) rfl (.cons (k := 48) rfl (.nil _)))))) ?_
      refine GQ_then ?_
      refine G_set1 (vstr) (s := (Land.whomOf e b)) rfl rfl rfl rfl rfl ?_
      refine GQ_sub (.cons (k := 1) rfl (.cons (k := 2) rfl (.cons (k := 6) rfl (.cons (k := 7) rfl (.nil _))))) ?_
      refine GQ_then ?_
      refine G_seq ?_
      refine G_planN (N := 8) [0, 1, 3, 0, 8, 31, 63, 127] mix (by kernel_rfl) rfl ?_
      refine Plan_float 0 rfl rfl (by kernel_rfl) (OK_s (EX_s (PS_fieldAddr fa36_4 rfl))) ?_
      refine Plan_float 1 rfl rfl (by kernel_rfl) (OK_s (EX_s (PS_load rfl tys3 (.tail _ (.head _)) Ing.Event.l4 rfl rfl))) ?_
      refine Plan_float 2 rfl rfl (by kernel_rfl) (OK_s (EX_c (PC_of cf34 (.cons rfl .nil) (fun w hS => ref_CalledOf_spec _ w (gl1.st hS))))) ?_
      refine Plan_float 3 rfl rfl (by kernel_rfl) (OK_s (EX_s (PS_fieldAddr fa36_5 rfl))) ?_
      refine Plan_float 4 rfl rfl (by kernel_rfl) (OK_s (EX_s (PS_load rfl tys3 (.tail _ (.head _)) Ing.Event.l5 rfl rfl))) ?_
      refine Plan_float 5 rfl rfl (by kernel_rfl) (OK_s (EX_c (PC_of cf32 (.cons rfl .nil) (fun w hS => strconv_Itoa_spec _ hs.n0 hs.n1 w (gl0.st hS))))) ?_
      refine Plan_float 6 rfl rfl (by kernel_rfl) (OK_s (EX_s (PS_assign rfl))) ?_
      refine Plan_float 7 rfl rfl (by kernel_rfl) (OK_s (EX_s (PS_assign rfl))) ?_
      refine Plan_end (by kernel_rfl) ?_
      refine GQ_sub (.cons (k := 1) rfl (.cons (k := 2) rfl (.cons (k := 6) rfl (.cons (k := 7) rfl (.cons (k := 8) rfl (.cons (k := 9) rfl (.nil _))))))) ?_
      refine GQ_then ?_
      refine G_seq ?_
      refine G_region ?_
      refine GL_step rfl (PS_move rfl) ?_
      refine GL_step rfl (PS_fieldAddr fa36_2 rfl) ?_
      refine GL_step rfl (PS_load rfl tys3 (.tail _ (.head _)) Ing.Event.l2 rfl rfl) ?_
      refine GL_step rfl (PS_eql rfl rfl) ?_
      refine GL_alloc rfl zv4 rfl (fun b4 => ?_)
      refine GL_unit (PU_store1 rfl rfl rfl rfl sz4 .head) ?_
      refine GL_nil ?_
      refine GQ_sub (.cons (k := 2) rfl (.cons (k := 6) rfl (.cons (k := 7) rfl (.cons (k := 8) rfl (.cons (k := 9) rfl (.cons (k := 10) rfl (.nil _))))))) ?_
      refine GQ_then ?_
      refine G_seq ?_
      refine G_region ?_
      refine GL_step rfl (PS_makeFunc (.cons rfl (.cons rfl .nil))) ?_
      refine GL_step rfl (PS_assign rfl) ?_
      refine GL_nil ?_
      refine GQ_sub (.cons (k := 2) rfl (.cons (k := 6) rfl (.cons (k := 7) rfl (.cons (k := 8) rfl (.cons (k := 9) rfl (.cons (k := 10) rfl (.cons (k := 11) rfl (.nil _)))))))) ?_
      refine GQ_then ?_
      refine G_seq ?_
      refine G_region ?_
      refine GL_step rfl (PS_makeFunc (.cons rfl (.cons rfl .nil))) ?_
      refine GL_step rfl (PS_assign rfl) ?_
      refine GL_nil ?_
      refine GQ_sub (.cons (k := 2) rfl (.cons (k := 6) rfl (.cons (k := 7) rfl (.cons (k := 8) rfl (.cons (k := 9) rfl (.cons (k := 10) rfl (.cons (k := 11) rfl (.cons (k := 12) rfl (.nil _))))))))) ?_
      refine GQ_then ?_
      refine G_seq ?_
      refine G_region ?_
      refine GL_step rfl (PS_assign rfl) ?_
      refine GL_nil ?_
      refine GQ_then ?_
      refine G_seq ?_
      refine G_seq ?_
      refine G_region ?_
      refine GL_step rfl (PS_fieldAddr fa36_0 rfl) ?_
      refine GL_step rfl (PS_load rfl tys3 (.tail _ (.tail _ (.head _))) Ing.Event.l0 rfl rfl) ?_
      refine GL_nil ?_
      refine GQ_sub (.cons (k := 2) rfl (.cons (k := 6) rfl (.cons (k := 7) rfl (.cons (k := 8) rfl (.cons (k := 9) rfl (.cons (k := 10) rfl (.cons (k := 11) rfl (.cons (k := 12) rfl (.cons (k := 13) rfl (.cons (k := 62) rfl (.nil _))))))))))) ?_
      refine GQ_then ?_
      refine G_block ?_
      refine G_seq ?_
      refine G_region ?_
      refine GL_step rfl (PS_eql rfl rfl) ?_
      refine GL_step rfl (PS_assign rfl) ?_
      refine GL_nil ?_
      refine GQ_sub (.cons (k := 2) rfl (.cons (k := 6) rfl (.cons (k := 7) rfl (.cons (k := 8) rfl (.cons (k := 9) rfl (.cons (k := 10) rfl (.cons (k := 11) rfl (.cons (k := 12) rfl (.cons (k := 13) rfl (.cons (k := 62) rfl (.cons (k := 63) rfl (.nil _)))))))))))) ?_
      refine GQ_then ?_
      refine G_cond rfl (fun c25 => ?_) (fun c25 => ?_)
      · skip
        have c25p := c25
        try simp only [decide_eq_true_eq, decide_eq_false_iff_not, Bool.not_eq_true', Bool.not_eq_false', Bool.or_eq_true, Bool.and_eq_true, Bool.or_eq_false_iff, Bool.and_eq_false_iff, Int.not_lt, Int.not_le] at c25p
        refine G_region ?_
        refine GL_step rfl (PS_move rfl) ?_
        refine GL_callLV rfl cf35 rfl (.cons rfl (.cons rfl .nil)) (.cons .head (.cons .head .nil)) (ref_TellOf_1_spec _ _ _ _ _ _ (by decide) (by decide) (by first | exact hs.who | decide)) (fun v101 B hv => ?_)
        obtain ⟨y102, rfl, y103, y104, rfl⟩ := hv
        refine GL_step rfl (PS_move rfl) ?_
        refine GL_step rfl (PS_add_str rfl rfl (by first | omega | (simp only [List.length_append, List.length_cons, List.length_nil]; omega))) ?_
        refine GL_step rfl (PS_add_str rfl rfl (by first | omega | (simp only [List.length_append, List.length_cons, List.length_nil]; omega))) ?_
        refine GL_step rfl (PS_assign rfl) ?_
        refine GL_nil ?_
        refine GQ_sub (.cons (k := 13) rfl (.nil _)) ?_
        refine GQ_block ?_
        refine GQ_then ?_
        refine G_seq ?_
        refine G_region ?_
        refine GL_step rfl (PS_move rfl) ?_
        refine GL_step rfl (PS_move rfl) ?_
        refine GL_step rfl (PS_neq_str rfl rfl) ?_
        refine GL_step rfl (PS_assign rfl) ?_
        refine GL_step rfl (PS_assign rfl) ?_
        refine GL_nil ?_
        refine GQ_sub (.cons (k := 4) rfl (.cons (k := 5) rfl (.nil _))) ?_
        refine GQ_then ?_
        refine G_ret ?_
        refine GQ_ret rfl (.tmp rfl (.tmp rfl .nil)) ?_
        subst y103
        intro w1 hS; refine ⟨?_, hS.toKeep⟩; have hw : Land.whoOf e b = e.who := if_f c2
        rw [show Land.tellR e b = Land.sayR (decide (b = e.actor)) (Land.whoOf e b) (Land.whomOf e b) (Land.called e.dir) (Lib.itoa e.n) e.thing e.text e.kind from if_f c1, hw, show Land.sayR (decide (b = e.actor)) e.who (Land.whomOf e b) (Land.called e.dir) (Lib.itoa e.n) e.thing e.text e.kind = _ from (if_t c25)]; rfl
      · skip
        have c25p := c25
        try simp only [decide_eq_true_eq, decide_eq_false_iff_not, Bool.not_eq_true', Bool.not_eq_false', Bool.or_eq_true, Bool.and_eq_true, Bool.or_eq_false_iff, Bool.and_eq_false_iff, Int.not_lt, Int.not_le] at c25p
        refine G_seq ?_
        refine G_region ?_
        refine GL_step rfl (PS_eql rfl rfl) ?_
        refine GL_step rfl (PS_assign rfl) ?_
        refine GL_nil ?_
        refine GQ_sub (.cons (k := 2) rfl (.cons (k := 6) rfl (.cons (k := 7) rfl (.cons (k := 8) rfl (.cons (k := 9) rfl (.cons (k := 10) rfl (.cons (k := 11) rfl (.cons (k := 12) rfl (.cons (k := 13) rfl (.cons (k := 62) rfl (.cons (k := 70) rfl (.nil _)))))))))))) ?_
        refine GQ_then ?_
        refine G_cond rfl (fun c26 => ?_) (fun c26 => ?_)
        · skip
          have c26p := c26
          try simp only [decide_eq_true_eq, decide_eq_false_iff_not, Bool.not_eq_true', Bool.not_eq_false', Bool.or_eq_true, Bool.and_eq_true, Bool.or_eq_false_iff, Bool.and_eq_false_iff, Int.not_lt, Int.not_le] at c26p
          refine G_seq ?_
          refine G_region ?_
          refine GL_step rfl (PS_load1 rfl tys4 (.head _)) ?_
          refine GL_step rfl (PS_not rfl) ?_
          refine GL_nil ?_
          refine GQ_sub (.cons (k := 6) rfl (.cons (k := 8) rfl (.cons (k := 13) rfl (.cons (k := 73) rfl (.nil _))))) ?_
          refine GQ_then ?_
          refine G_cond rfl (fun c27 => ?_) (fun c27 => ?_)
          · skip
            have c27p := c27
            try simp only [decide_eq_true_eq, decide_eq_false_iff_not, Bool.not_eq_true', Bool.not_eq_false', Bool.or_eq_true, Bool.and_eq_true, Bool.or_eq_false_iff, Bool.and_eq_false_iff, Int.not_lt, Int.not_le] at c27p
            refine G_region ?_
            refine GL_step rfl (PS_load1 rfl tys9 (.tail _ (.head _))) ?_
            refine GL_step rfl (PS_add_str rfl rfl (by first | omega | (simp only [List.length_append, List.length_cons, List.length_nil]; omega))) ?_
            refine GL_step rfl (PS_move rfl) ?_
            refine GL_step rfl (PS_add_str rfl rfl (by first | omega | (simp only [List.length_append, List.length_cons, List.length_nil]; omega))) ?_
            refine GL_step rfl (PS_add_str rfl rfl (by first | omega | (simp only [List.length_append, List.length_cons, List.length_nil]; omega))) ?_
            refine GL_step rfl (PS_assign rfl) ?_
            refine GL_nil ?_
            refine GQ_sub (.cons (k := 13) rfl (.nil _)) ?_
            refine GQ_block ?_
            refine GQ_then ?_
            refine G_seq ?_
            refine G_region ?_
            refine GL_step rfl (PS_move rfl) ?_
            refine GL_step rfl (PS_move rfl) ?_
            refine GL_step rfl (PS_neq_str rfl rfl) ?_
            refine GL_step rfl (PS_assign rfl) ?_
            refine GL_step rfl (PS_assign rfl) ?_
            refine GL_nil ?_
            refine GQ_sub (.cons (k := 4) rfl (.cons (k := 5) rfl (.nil _))) ?_
            refine GQ_then ?_
            refine G_ret ?_
            refine GQ_ret rfl (.tmp rfl (.tmp rfl .nil)) ?_
            intro w1 hS; refine ⟨?_, hS.toKeep⟩; have hw : Land.whoOf e b = e.who := if_f c2
            rw [show Land.tellR e b = Land.sayR (decide (b = e.actor)) (Land.whoOf e b) (Land.whomOf e b) (Land.called e.dir) (Lib.itoa e.n) e.thing e.text e.kind from if_f c1, hw, show Land.sayR (decide (b = e.actor)) e.who (Land.whomOf e b) (Land.called e.dir) (Lib.itoa e.n) e.thing e.text e.kind = _ from ((if_f c25).trans ((if_t c26).trans (if_t c27)))]; rfl
          · skip
            have c27p := c27
            try simp only [decide_eq_true_eq, decide_eq_false_iff_not, Bool.not_eq_true', Bool.not_eq_false', Bool.or_eq_true, Bool.and_eq_true, Bool.or_eq_false_iff, Bool.and_eq_false_iff, Int.not_lt, Int.not_le] at c27p
            refine G_skip ?_
            refine GQ_sub (.cons (k := 13) rfl (.nil _)) ?_
            refine GQ_block ?_
            refine GQ_then ?_
            refine G_seq ?_
            refine G_region ?_
            refine GL_step rfl (PS_move rfl) ?_
            refine GL_step rfl (PS_move rfl) ?_
            refine GL_step rfl (PS_neq_str rfl rfl) ?_
            refine GL_step rfl (PS_assign rfl) ?_
            refine GL_step rfl (PS_assign rfl) ?_
            refine GL_nil ?_
            refine GQ_sub (.cons (k := 4) rfl (.cons (k := 5) rfl (.nil _))) ?_
            refine GQ_then ?_
            refine G_ret ?_
            refine GQ_ret rfl (.tmp rfl (.tmp rfl .nil)) ?_
            intro w1 hS; refine ⟨?_, hS.toKeep⟩; have hw : Land.whoOf e b = e.who := if_f c2
            rw [show Land.tellR e b = Land.sayR (decide (b = e.actor)) (Land.whoOf e b) (Land.whomOf e b) (Land.called e.dir) (Lib.itoa e.n) e.thing e.text e.kind from if_f c1, hw, show Land.sayR (decide (b = e.actor)) e.who (Land.whomOf e b) (Land.called e.dir) (Lib.itoa e.n) e.thing e.text e.kind = _ from ((if_f c25).trans ((if_t c26).trans (if_f c27)))]; rfl
        · skip
          have c26p := c26
          try simp only [decide_eq_true_eq, decide_eq_false_iff_not, Bool.not_eq_true', Bool.not_eq_false', Bool.or_eq_true, Bool.and_eq_true, Bool.or_eq_false_iff, Bool.and_eq_false_iff, Int.not_lt, Int.not_le] at c26p
          refine G_seq ?_
          refine G_region ?_
          refine GL_step rfl (PS_eql rfl rfl) ?_
          refine GL_step rfl (PS_assign rfl) ?_
          refine GL_nil ?_
          refine GQ_sub (.cons (k := 2) rfl (.cons (k := 6) rfl (.cons (k := 7) rfl (.cons (k := 9) rfl (.cons (k := 10) rfl (.cons (k := 11) rfl (.cons (k := 12) rfl (.cons (k := 13) rfl (.cons (k := 62) rfl (.cons (k := 79) rfl (.nil _))))))))))) ?_
          refine GQ_then ?_
          refine G_cond rfl (fun c28 => ?_) (fun c28 => ?_)
          · skip
            have c28p := c28
            try simp only [decide_eq_true_eq, decide_eq_false_iff_not, Bool.not_eq_true', Bool.not_eq_false', Bool.or_eq_true, Bool.and_eq_true, Bool.or_eq_false_iff, Bool.and_eq_false_iff, Int.not_lt, Int.not_le] at c28p
            refine G_region ?_
            refine GL_step rfl (PS_move rfl) ?_
            refine GL_callLV rfl cf35 rfl (.cons rfl (.cons rfl .nil)) (.cons .head (.cons .head .nil)) (ref_TellOf_1_spec _ _ _ _ _ _ (by decide) (by decide) (by first | exact hs.who | decide)) (fun v105 B hv => ?_)
            obtain ⟨y106, rfl, y107, y108, rfl⟩ := hv
            refine GL_step rfl (PS_move rfl) ?_
            refine GL_callLV rfl cf36 rfl .nil (.cons .head (.cons (.tail .head) .nil)) (ref_TellOf_2_spec _ _ _ _ hs) (fun v109 B hv => ?_)
            obtain ⟨y110, rfl, y111, y112, rfl⟩ := hv
            refine GL_step rfl (PS_add_str rfl rfl (by first | omega | (simp only [List.length_append, List.length_cons, List.length_nil]; omega))) ?_
            refine GL_step rfl (PS_add_str rfl rfl (by first | omega | (simp only [List.length_append, List.length_cons, List.length_nil]; omega))) ?_
            refine GL_step rfl (PS_assign rfl) ?_
            refine GL_nil ?_
            refine GQ_sub (.cons (k := 13) rfl (.nil _)) ?_
            refine GQ_block ?_
            refine GQ_then ?_
            refine G_seq ?_
            refine G_region ?_
            refine GL_step rfl (PS_move rfl) ?_
            refine GL_step rfl (PS_move rfl) ?_
            refine GL_step rfl (PS_neq_str rfl rfl) ?_
            refine GL_step rfl (PS_assign rfl) ?_
            refine GL_step rfl (PS_assign rfl) ?_
            refine GL_nil ?_
            refine GQ_sub (.cons (k := 4) rfl (.cons (k := 5) rfl (.nil _))) ?_
            refine GQ_then ?_
            refine G_ret ?_
            refine GQ_ret rfl (.tmp rfl (.tmp rfl .nil)) ?_
            subst y107
            subst y111
            intro w1 hS; refine ⟨?_, hS.toKeep⟩; have hw : Land.whoOf e b = e.who := if_f c2
            rw [show Land.tellR e b = Land.sayR (decide (b = e.actor)) (Land.whoOf e b) (Land.whomOf e b) (Land.called e.dir) (Lib.itoa e.n) e.thing e.text e.kind from if_f c1, hw, show Land.sayR (decide (b = e.actor)) e.who (Land.whomOf e b) (Land.called e.dir) (Lib.itoa e.n) e.thing e.text e.kind = _ from ((if_f c25).trans ((if_f c26).trans (if_t c28)))]; rfl
          · skip
            have c28p := c28
            try simp only [decide_eq_true_eq, decide_eq_false_iff_not, Bool.not_eq_true', Bool.not_eq_false', Bool.or_eq_true, Bool.and_eq_true, Bool.or_eq_false_iff, Bool.and_eq_false_iff, Int.not_lt, Int.not_le] at c28p
            refine G_seq ?_
            refine G_region ?_
            refine GL_step rfl (PS_eql rfl rfl) ?_
            refine GL_step rfl (PS_assign rfl) ?_
            refine GL_nil ?_
            refine GQ_sub (.cons (k := 2) rfl (.cons (k := 6) rfl (.cons (k := 7) rfl (.cons (k := 9) rfl (.cons (k := 10) rfl (.cons (k := 11) rfl (.cons (k := 12) rfl (.cons (k := 13) rfl (.cons (k := 62) rfl (.cons (k := 87) rfl (.nil _))))))))))) ?_
            refine GQ_then ?_
            refine G_cond rfl (fun c29 => ?_) (fun c29 => ?_)
            · skip
              have c29p := c29
              try simp only [decide_eq_true_eq, decide_eq_false_iff_not, Bool.not_eq_true', Bool.not_eq_false', Bool.or_eq_true, Bool.and_eq_true, Bool.or_eq_false_iff, Bool.and_eq_false_iff, Int.not_lt, Int.not_le] at c29p
              refine G_region ?_
              refine GL_step rfl (PS_move rfl) ?_
              refine GL_callLV rfl cf35 rfl (.cons rfl (.cons rfl .nil)) (.cons .head (.cons .head .nil)) (ref_TellOf_1_spec _ _ _ _ _ _ (by decide) (by decide) (by first | exact hs.who | decide)) (fun v113 B hv => ?_)
              obtain ⟨y114, rfl, y115, y116, rfl⟩ := hv
              refine GL_step rfl (PS_move rfl) ?_
              refine GL_callLV rfl cf36 rfl .nil (.cons .head (.cons (.tail .head) .nil)) (ref_TellOf_2_spec _ _ _ _ hs) (fun v117 B hv => ?_)
              obtain ⟨y118, rfl, y119, y120, rfl⟩ := hv
              refine GL_step rfl (PS_add_str rfl rfl (by first | omega | (simp only [List.length_append, List.length_cons, List.length_nil]; omega))) ?_
              refine GL_step rfl (PS_add_str rfl rfl (by first | omega | (simp only [List.length_append, List.length_cons, List.length_nil]; omega))) ?_
              refine GL_step rfl (PS_assign rfl) ?_
              refine GL_nil ?_
              refine GQ_sub (.cons (k := 13) rfl (.nil _)) ?_
              refine GQ_block ?_
              refine GQ_then ?_
              refine G_seq ?_
              refine G_region ?_
              refine GL_step rfl (PS_move rfl) ?_
              refine GL_step rfl (PS_move rfl) ?_
              refine GL_step rfl (PS_neq_str rfl rfl) ?_
              refine GL_step rfl (PS_assign rfl) ?_
              refine GL_step rfl (PS_assign rfl) ?_
              refine GL_nil ?_
              refine GQ_sub (.cons (k := 4) rfl (.cons (k := 5) rfl (.nil _))) ?_
              refine GQ_then ?_
              refine G_ret ?_
              refine GQ_ret rfl (.tmp rfl (.tmp rfl .nil)) ?_
              subst y115
              subst y119
              intro w1 hS; refine ⟨?_, hS.toKeep⟩; have hw : Land.whoOf e b = e.who := if_f c2
              rw [show Land.tellR e b = Land.sayR (decide (b = e.actor)) (Land.whoOf e b) (Land.whomOf e b) (Land.called e.dir) (Lib.itoa e.n) e.thing e.text e.kind from if_f c1, hw, show Land.sayR (decide (b = e.actor)) e.who (Land.whomOf e b) (Land.called e.dir) (Lib.itoa e.n) e.thing e.text e.kind = _ from ((if_f c25).trans ((if_f c26).trans ((if_f c28).trans (if_t c29))))]; rfl
            · skip
              have c29p := c29
              try simp only [decide_eq_true_eq, decide_eq_false_iff_not, Bool.not_eq_true', Bool.not_eq_false', Bool.or_eq_true, Bool.and_eq_true, Bool.or_eq_false_iff, Bool.and_eq_false_iff, Int.not_lt, Int.not_le] at c29p
              refine G_seq ?_
              refine G_region ?_
              refine GL_step rfl (PS_eql rfl rfl) ?_
              refine GL_step rfl (PS_assign rfl) ?_
              refine GL_nil ?_
              refine GQ_sub (.cons (k := 2) rfl (.cons (k := 6) rfl (.cons (k := 7) rfl (.cons (k := 9) rfl (.cons (k := 10) rfl (.cons (k := 11) rfl (.cons (k := 12) rfl (.cons (k := 13) rfl (.cons (k := 62) rfl (.cons (k := 95) rfl (.nil _))))))))))) ?_
              refine GQ_then ?_
              refine G_cond rfl (fun c30 => ?_) (fun c30 => ?_)
              · skip
                have c30p := c30
                try simp only [decide_eq_true_eq, decide_eq_false_iff_not, Bool.not_eq_true', Bool.not_eq_false', Bool.or_eq_true, Bool.and_eq_true, Bool.or_eq_false_iff, Bool.and_eq_false_iff, Int.not_lt, Int.not_le] at c30p
                refine G_seq ?_
                refine G_region ?_
                refine GL_step rfl (PS_fieldAddr fa36_9 rfl) ?_
                refine GL_step rfl (PS_load rfl tys9 (.tail _ (.tail _ (.head _))) Ing.Event.l9 rfl rfl) ?_
                refine GL_step rfl (PS_add_str rfl rfl (by first | omega | (simp only [List.length_append, List.length_cons, List.length_nil]; omega))) ?_
                refine GL_step rfl (PS_assign rfl) ?_
                refine GL_nil ?_
                refine GQ_sub (.cons (k := 2) rfl (.cons (k := 10) rfl (.cons (k := 11) rfl (.cons (k := 12) rfl (.cons (k := 14) rfl (.nil _)))))) ?_
                refine GQ_then ?_
                refine G_seq ?_
                refine G_seq ?_
                refine G_region ?_
                refine GL_step rfl (PS_load1 rfl tys4 (.head _)) ?_
                refine GL_nil ?_
                refine GQ_sub (.cons (k := 2) rfl (.cons (k := 11) rfl (.cons (k := 12) rfl (.cons (k := 14) rfl (.cons (k := 100) rfl (.nil _)))))) ?_
                refine GQ_then ?_
                refine G_cond rfl (fun c31 => ?_) (fun c31 => ?_)
                · skip
                  have c31p := c31
                  try simp only [decide_eq_true_eq, decide_eq_false_iff_not, Bool.not_eq_true', Bool.not_eq_false', Bool.or_eq_true, Bool.and_eq_true, Bool.or_eq_false_iff, Bool.and_eq_false_iff, Int.not_lt, Int.not_le] at c31p
                  refine G_region ?_
                  refine GL_step rfl (PS_fieldAddr fa36_9 rfl) ?_
                  refine GL_step rfl (PS_load rfl tys9 (.tail _ (.tail _ (.head _))) Ing.Event.l9 rfl rfl) ?_
                  refine GL_step rfl (PS_add_str rfl rfl (by first | omega | (simp only [List.length_append, List.length_cons, List.length_nil]; omega))) ?_
                  refine GL_step rfl (PS_assign rfl) ?_
                  refine GL_nil ?_
                  refine GQ_sub (.cons (k := 11) rfl (.cons (k := 12) rfl (.cons (k := 14) rfl (.nil _)))) ?_
                  refine GQ_then ?_
                  refine G_region ?_
                  refine GL_step rfl (PS_move rfl) ?_
                  refine GL_callLV rfl cf35 rfl (.cons rfl (.cons rfl .nil)) (.cons .head (.cons .head .nil)) (ref_TellOf_1_spec _ _ _ _ _ _ (by decide) (by decide) (by first | exact hs.who | decide)) (fun v121 B hv => ?_)
                  obtain ⟨y122, rfl, y123, y124, rfl⟩ := hv
                  refine GL_step rfl (PS_move rfl) ?_
                  refine GL_callLV rfl cf36 rfl .nil (.cons .head (.cons (.tail .head) .nil)) (ref_TellOf_2_spec _ _ _ _ hs) (fun v125 B hv => ?_)
                  obtain ⟨y126, rfl, y127, y128, rfl⟩ := hv
                  refine GL_step rfl (PS_add_str rfl rfl (by first | omega | (simp only [List.length_append, List.length_cons, List.length_nil]; omega))) ?_
                  refine GL_step rfl (PS_add_str rfl rfl (by first | omega | (simp only [List.length_append, List.length_cons, List.length_nil]; omega))) ?_
                  refine GL_step rfl (PS_move rfl) ?_
                  refine GL_step rfl (PS_add_str rfl rfl (by first | omega | (simp only [List.length_append, List.length_cons, List.length_nil]; omega))) ?_
                  refine GL_step rfl (PS_add_str rfl rfl (by first | omega | (simp only [List.length_append, List.length_cons, List.length_nil]; omega))) ?_
                  refine GL_step rfl (PS_assign rfl) ?_
                  refine GL_nil ?_
                  refine GQ_sub (.cons (k := 13) rfl (.nil _)) ?_
                  refine GQ_block ?_
                  refine GQ_then ?_
                  refine G_seq ?_
                  refine G_region ?_
                  refine GL_step rfl (PS_move rfl) ?_
                  refine GL_step rfl (PS_move rfl) ?_
                  refine GL_step rfl (PS_neq_str rfl rfl) ?_
                  refine GL_step rfl (PS_assign rfl) ?_
                  refine GL_step rfl (PS_assign rfl) ?_
                  refine GL_nil ?_
                  refine GQ_sub (.cons (k := 4) rfl (.cons (k := 5) rfl (.nil _))) ?_
                  refine GQ_then ?_
                  refine G_ret ?_
                  refine GQ_ret rfl (.tmp rfl (.tmp rfl .nil)) ?_
                  subst y123
                  subst y127
                  intro w1 hS; refine ⟨?_, hS.toKeep⟩; have hw : Land.whoOf e b = e.who := if_f c2
                  rw [show Land.tellR e b = Land.sayR (decide (b = e.actor)) (Land.whoOf e b) (Land.whomOf e b) (Land.called e.dir) (Lib.itoa e.n) e.thing e.text e.kind from if_f c1, hw, show Land.sayR (decide (b = e.actor)) e.who (Land.whomOf e b) (Land.called e.dir) (Lib.itoa e.n) e.thing e.text e.kind = _ from ((if_f c25).trans ((if_f c26).trans ((if_f c28).trans ((if_f c29).trans (if_t c30))))), show Land.theS (decide (b = e.actor)) e.text = _ from if_t c31]; rfl
                · skip
                  have c31p := c31
                  try simp only [decide_eq_true_eq, decide_eq_false_iff_not, Bool.not_eq_true', Bool.not_eq_false', Bool.or_eq_true, Bool.and_eq_true, Bool.or_eq_false_iff, Bool.and_eq_false_iff, Int.not_lt, Int.not_le] at c31p
                  refine G_skip ?_
                  refine GQ_sub (.cons (k := 11) rfl (.cons (k := 12) rfl (.cons (k := 14) rfl (.nil _)))) ?_
                  refine GQ_then ?_
                  refine G_region ?_
                  refine GL_step rfl (PS_move rfl) ?_
                  refine GL_callLV rfl cf35 rfl (.cons rfl (.cons rfl .nil)) (.cons .head (.cons .head .nil)) (ref_TellOf_1_spec _ _ _ _ _ _ (by decide) (by decide) (by first | exact hs.who | decide)) (fun v129 B hv => ?_)
                  obtain ⟨y130, rfl, y131, y132, rfl⟩ := hv
                  refine GL_step rfl (PS_move rfl) ?_
                  refine GL_callLV rfl cf36 rfl .nil (.cons .head (.cons (.tail .head) .nil)) (ref_TellOf_2_spec _ _ _ _ hs) (fun v133 B hv => ?_)
                  obtain ⟨y134, rfl, y135, y136, rfl⟩ := hv
                  refine GL_step rfl (PS_add_str rfl rfl (by first | omega | (simp only [List.length_append, List.length_cons, List.length_nil]; omega))) ?_
                  refine GL_step rfl (PS_add_str rfl rfl (by first | omega | (simp only [List.length_append, List.length_cons, List.length_nil]; omega))) ?_
                  refine GL_step rfl (PS_move rfl) ?_
                  refine GL_step rfl (PS_add_str rfl rfl (by first | omega | (simp only [List.length_append, List.length_cons, List.length_nil]; omega))) ?_
                  refine GL_step rfl (PS_add_str rfl rfl (by first | omega | (simp only [List.length_append, List.length_cons, List.length_nil]; omega))) ?_
                  refine GL_step rfl (PS_assign rfl) ?_
                  refine GL_nil ?_
                  refine GQ_sub (.cons (k := 13) rfl (.nil _)) ?_
                  refine GQ_block ?_
                  refine GQ_then ?_
                  refine G_seq ?_
                  refine G_region ?_
                  refine GL_step rfl (PS_move rfl) ?_
                  refine GL_step rfl (PS_move rfl) ?_
                  refine GL_step rfl (PS_neq_str rfl rfl) ?_
                  refine GL_step rfl (PS_assign rfl) ?_
                  refine GL_step rfl (PS_assign rfl) ?_
                  refine GL_nil ?_
                  refine GQ_sub (.cons (k := 4) rfl (.cons (k := 5) rfl (.nil _))) ?_
                  refine GQ_then ?_
                  refine G_ret ?_
                  refine GQ_ret rfl (.tmp rfl (.tmp rfl .nil)) ?_
                  subst y131
                  subst y135
                  intro w1 hS; refine ⟨?_, hS.toKeep⟩; have hw : Land.whoOf e b = e.who := if_f c2
                  rw [show Land.tellR e b = Land.sayR (decide (b = e.actor)) (Land.whoOf e b) (Land.whomOf e b) (Land.called e.dir) (Lib.itoa e.n) e.thing e.text e.kind from if_f c1, hw, show Land.sayR (decide (b = e.actor)) e.who (Land.whomOf e b) (Land.called e.dir) (Lib.itoa e.n) e.thing e.text e.kind = _ from ((if_f c25).trans ((if_f c26).trans ((if_f c28).trans ((if_f c29).trans (if_t c30))))), show Land.theS (decide (b = e.actor)) e.text = _ from if_f c31]; rfl
              · skip
                have c30p := c30
                try simp only [decide_eq_true_eq, decide_eq_false_iff_not, Bool.not_eq_true', Bool.not_eq_false', Bool.or_eq_true, Bool.and_eq_true, Bool.or_eq_false_iff, Bool.and_eq_false_iff, Int.not_lt, Int.not_le] at c30p
                refine G_seq ?_
                refine G_region ?_
                refine GL_step rfl (PS_eql rfl rfl) ?_
                refine GL_step rfl (PS_assign rfl) ?_
                refine GL_nil ?_
                refine GQ_sub (.cons (k := 2) rfl (.cons (k := 6) rfl (.cons (k := 7) rfl (.cons (k := 9) rfl (.cons (k := 10) rfl (.cons (k := 11) rfl (.cons (k := 12) rfl (.cons (k := 13) rfl (.cons (k := 62) rfl (.cons (k := 113) rfl (.nil _))))))))))) ?_
                refine GQ_then ?_
                refine G_cond rfl (fun c32 => ?_) (fun c32 => ?_)
                · skip
                  have c32p := c32
                  try simp only [decide_eq_true_eq, decide_eq_false_iff_not, Bool.not_eq_true', Bool.not_eq_false', Bool.or_eq_true, Bool.and_eq_true, Bool.or_eq_false_iff, Bool.and_eq_false_iff, Int.not_lt, Int.not_le] at c32p
                  refine G_region ?_
                  refine GL_step rfl (PS_move rfl) ?_
                  refine GL_callLV rfl cf35 rfl (.cons rfl (.cons rfl .nil)) (.cons .head (.cons .head .nil)) (ref_TellOf_1_spec _ _ _ _ _ _ (by decide) (by decide) (by first | exact hs.who | decide)) (fun v137 B hv => ?_)
                  obtain ⟨y138, rfl, y139, y140, rfl⟩ := hv
                  refine GL_step rfl (PS_move rfl) ?_
                  refine GL_callLV rfl cf36 rfl .nil (.cons .head (.cons (.tail .head) .nil)) (ref_TellOf_2_spec _ _ _ _ hs) (fun v141 B hv => ?_)
                  obtain ⟨y142, rfl, y143, y144, rfl⟩ := hv
                  refine GL_step rfl (PS_add_str rfl rfl (by first | omega | (simp only [List.length_append, List.length_cons, List.length_nil]; omega))) ?_
                  refine GL_step rfl (PS_add_str rfl rfl (by first | omega | (simp only [List.length_append, List.length_cons, List.length_nil]; omega))) ?_
                  refine GL_step rfl (PS_move rfl) ?_
                  refine GL_step rfl (PS_add_str rfl rfl (by first | omega | (simp only [List.length_append, List.length_cons, List.length_nil]; omega))) ?_
                  refine GL_step rfl (PS_add_str rfl rfl (by first | omega | (simp only [List.length_append, List.length_cons, List.length_nil]; omega))) ?_
                  refine GL_step rfl (PS_assign rfl) ?_
                  refine GL_nil ?_
                  refine GQ_sub (.cons (k := 13) rfl (.nil _)) ?_
                  refine GQ_block ?_
                  refine GQ_then ?_
                  refine G_seq ?_
                  refine G_region ?_
                  refine GL_step rfl (PS_move rfl) ?_
                  refine GL_step rfl (PS_move rfl) ?_
                  refine GL_step rfl (PS_neq_str rfl rfl) ?_
                  refine GL_step rfl (PS_assign rfl) ?_
                  refine GL_step rfl (PS_assign rfl) ?_
                  refine GL_nil ?_
                  refine GQ_sub (.cons (k := 4) rfl (.cons (k := 5) rfl (.nil _))) ?_
                  refine GQ_then ?_
                  refine G_ret ?_
                  refine GQ_ret rfl (.tmp rfl (.tmp rfl .nil)) ?_
                  subst y139
                  subst y143
                  intro w1 hS; refine ⟨?_, hS.toKeep⟩; have hw : Land.whoOf e b = e.who := if_f c2
                  rw [show Land.tellR e b = Land.sayR (decide (b = e.actor)) (Land.whoOf e b) (Land.whomOf e b) (Land.called e.dir) (Lib.itoa e.n) e.thing e.text e.kind from if_f c1, hw, show Land.sayR (decide (b = e.actor)) e.who (Land.whomOf e b) (Land.called e.dir) (Lib.itoa e.n) e.thing e.text e.kind = _ from ((if_f c25).trans ((if_f c26).trans ((if_f c28).trans ((if_f c29).trans ((if_f c30).trans (if_t c32))))))]; rfl
                · skip
                  have c32p := c32
                  try simp only [decide_eq_true_eq, decide_eq_false_iff_not, Bool.not_eq_true', Bool.not_eq_false', Bool.or_eq_true, Bool.and_eq_true, Bool.or_eq_false_iff, Bool.and_eq_false_iff, Int.not_lt, Int.not_le] at c32p
                  refine G_seq ?_
                  refine G_region ?_
                  refine GL_step rfl (PS_eql rfl rfl) ?_
                  refine GL_step rfl (PS_assign rfl) ?_
                  refine GL_nil ?_
                  refine GQ_sub (.cons (k := 2) rfl (.cons (k := 6) rfl (.cons (k := 7) rfl (.cons (k := 9) rfl (.cons (k := 10) rfl (.cons (k := 11) rfl (.cons (k := 12) rfl (.cons (k := 13) rfl (.cons (k := 62) rfl (.cons (k := 124) rfl (.nil _))))))))))) ?_
                  refine GQ_then ?_
                  refine G_cond rfl (fun c33 => ?_) (fun c33 => ?_)
                  · skip
                    have c33p := c33
                    try simp only [decide_eq_true_eq, decide_eq_false_iff_not, Bool.not_eq_true', Bool.not_eq_false', Bool.or_eq_true, Bool.and_eq_true, Bool.or_eq_false_iff, Bool.and_eq_false_iff, Int.not_lt, Int.not_le] at c33p
                    refine G_subF (.cons (k := 2) rfl (.cons (k := 6) rfl (.cons (k := 7) rfl (.cons (k := 9) rfl (.cons (k := 10) rfl (.cons (k := 11) rfl (.cons (k := 12) rfl (.cons (k := 62) rfl (.cons (k := 124) rfl (.nil _)))))))))) ?_
                    refine G_planN (N := 6) [0, 1, 0, 4, 15, 31] mix (by kernel_rfl) rfl ?_
                    refine Plan_float 0 rfl rfl (by kernel_rfl) (OK_s (EX_s (PS_move rfl))) ?_
                    refine Plan_float 2 rfl rfl (by kernel_rfl) (OK_s (EX_s (PS_fieldAddr fa36_9 rfl))) ?_
                    refine Plan_float 3 rfl rfl (by kernel_rfl) (OK_s (EX_s (PS_load rfl tys9 (.tail _ (.tail _ (.head _))) Ing.Event.l9 rfl rfl))) ?_
                    refine Plan_chain 1 rfl (by kernel_rfl) ?_
                    refine GL_callLV rfl cf35 rfl (.cons rfl (.cons rfl .nil)) (.cons .head (.cons .head .nil)) (ref_TellOf_1_spec _ _ _ _ _ _ (by decide) (by decide) (by first | exact hs.who | decide)) (fun v145 B hv => ?_)
                    obtain ⟨y146, rfl, y147, y148, rfl⟩ := hv
                    refine GL_hand rfl ⟨?_, ?_⟩
                    · exact (Pend_okv rfl (OK_s (EX_s (PS_load rfl tys9 (.tail _ (.tail _ (.head _))) Ing.Event.l9 rfl rfl))) rfl rfl (Pend_okv rfl (OK_s (EX_s (PS_fieldAddr fa36_9 rfl))) rfl rfl (Pend_skip (by kernel_rfl) Pend_nil)))
                    refine Plan_float 4 rfl rfl (by kernel_rfl) (OK_s (EX_s (PS_add_str rfl rfl (by first | omega | (simp only [List.length_append, List.length_cons, List.length_nil]; omega))))) ?_
                    refine Plan_float 5 rfl rfl (by kernel_rfl) (OK_s (EX_s (PS_assign rfl))) ?_
                    refine Plan_end (by kernel_rfl) ?_
                    refine GQ_sub (.cons (k := 13) rfl (.nil _)) ?_
                    refine GQ_block ?_
                    refine GQ_then ?_
                    refine G_seq ?_
                    refine G_region ?_
                    refine GL_step rfl (PS_move rfl) ?_
                    refine GL_step rfl (PS_move rfl) ?_
                    refine GL_step rfl (PS_neq_str rfl rfl) ?_
                    refine GL_step rfl (PS_assign rfl) ?_
                    refine GL_step rfl (PS_assign rfl) ?_
                    refine GL_nil ?_
                    refine GQ_sub (.cons (k := 4) rfl (.cons (k := 5) rfl (.nil _))) ?_
                    refine GQ_then ?_
                    refine G_ret ?_
                    refine GQ_ret rfl (.tmp rfl (.tmp rfl .nil)) ?_
                    subst y147
                    intro w1 hS; refine ⟨?_, hS.toKeep⟩; have hw : Land.whoOf e b = e.who := if_f c2
                    rw [show Land.tellR e b = Land.sayR (decide (b = e.actor)) (Land.whoOf e b) (Land.whomOf e b) (Land.called e.dir) (Lib.itoa e.n) e.thing e.text e.kind from if_f c1, hw, show Land.sayR (decide (b = e.actor)) e.who (Land.whomOf e b) (Land.called e.dir) (Lib.itoa e.n) e.thing e.text e.kind = _ from ((if_f c25).trans ((if_f c26).trans ((if_f c28).trans ((if_f c29).trans ((if_f c30).trans ((if_f c32).trans (if_t c33)))))))]; rfl
                  · skip
                    have c33p := c33
                    try simp only [decide_eq_true_eq, decide_eq_false_iff_not, Bool.not_eq_true', Bool.not_eq_false', Bool.or_eq_true, Bool.and_eq_true, Bool.or_eq_false_iff, Bool.and_eq_false_iff, Int.not_lt, Int.not_le] at c33p
                    refine G_seq ?_
                    refine G_region ?_
                    refine GL_step rfl (PS_eql rfl rfl) ?_
                    refine GL_step rfl (PS_assign rfl) ?_
                    refine GL_nil ?_
                    refine GQ_sub (.cons (k := 2) rfl (.cons (k := 6) rfl (.cons (k := 7) rfl (.cons (k := 9) rfl (.cons (k := 10) rfl (.cons (k := 11) rfl (.cons (k := 12) rfl (.cons (k := 13) rfl (.cons (k := 62) rfl (.cons (k := 131) rfl (.nil _))))))))))) ?_
                    refine GQ_then ?_
                    refine G_cond rfl (fun c34 => ?_) (fun c34 => ?_)
                    · skip
                      have c34p := c34
                      try simp only [decide_eq_true_eq, decide_eq_false_iff_not, Bool.not_eq_true', Bool.not_eq_false', Bool.or_eq_true, Bool.and_eq_true, Bool.or_eq_false_iff, Bool.and_eq_false_iff, Int.not_lt, Int.not_le] at c34p
                      refine G_region ?_
                      refine GL_step rfl (PS_move rfl) ?_
                      refine GL_callLV rfl cf35 rfl (.cons rfl (.cons rfl .nil)) (.cons .head (.cons .head .nil)) (ref_TellOf_1_spec _ _ _ _ _ _ (by decide) (by decide) (by first | exact hs.who | decide)) (fun v149 B hv => ?_)
                      obtain ⟨y150, rfl, y151, y152, rfl⟩ := hv
                      refine GL_step rfl (PS_move rfl) ?_
                      refine GL_callLV rfl cf36 rfl .nil (.cons .head (.cons (.tail .head) .nil)) (ref_TellOf_2_spec _ _ _ _ hs) (fun v153 B hv => ?_)
                      obtain ⟨y154, rfl, y155, y156, rfl⟩ := hv
                      refine GL_step rfl (PS_add_str rfl rfl (by first | omega | (simp only [List.length_append, List.length_cons, List.length_nil]; omega))) ?_
                      refine GL_step rfl (PS_add_str rfl rfl (by first | omega | (simp only [List.length_append, List.length_cons, List.length_nil]; omega))) ?_
                      refine GL_step rfl (PS_assign rfl) ?_
                      refine GL_nil ?_
                      refine GQ_sub (.cons (k := 13) rfl (.nil _)) ?_
                      refine GQ_block ?_
                      refine GQ_then ?_
                      refine G_seq ?_
                      refine G_region ?_
                      refine GL_step rfl (PS_move rfl) ?_
                      refine GL_step rfl (PS_move rfl) ?_
                      refine GL_step rfl (PS_neq_str rfl rfl) ?_
                      refine GL_step rfl (PS_assign rfl) ?_
                      refine GL_step rfl (PS_assign rfl) ?_
                      refine GL_nil ?_
                      refine GQ_sub (.cons (k := 4) rfl (.cons (k := 5) rfl (.nil _))) ?_
                      refine GQ_then ?_
                      refine G_ret ?_
                      refine GQ_ret rfl (.tmp rfl (.tmp rfl .nil)) ?_
                      subst y151
                      subst y155
                      intro w1 hS; refine ⟨?_, hS.toKeep⟩; have hw : Land.whoOf e b = e.who := if_f c2
                      rw [show Land.tellR e b = Land.sayR (decide (b = e.actor)) (Land.whoOf e b) (Land.whomOf e b) (Land.called e.dir) (Lib.itoa e.n) e.thing e.text e.kind from if_f c1, hw, show Land.sayR (decide (b = e.actor)) e.who (Land.whomOf e b) (Land.called e.dir) (Lib.itoa e.n) e.thing e.text e.kind = _ from ((if_f c25).trans ((if_f c26).trans ((if_f c28).trans ((if_f c29).trans ((if_f c30).trans ((if_f c32).trans ((if_f c33).trans (if_t c34))))))))]; rfl
                    · skip
                      have c34p := c34
                      try simp only [decide_eq_true_eq, decide_eq_false_iff_not, Bool.not_eq_true', Bool.not_eq_false', Bool.or_eq_true, Bool.and_eq_true, Bool.or_eq_false_iff, Bool.and_eq_false_iff, Int.not_lt, Int.not_le] at c34p
                      refine G_seq ?_
                      refine G_region ?_
                      refine GL_step rfl (PS_eql rfl rfl) ?_
                      refine GL_step rfl (PS_assign rfl) ?_
                      refine GL_nil ?_
                      refine GQ_sub (.cons (k := 2) rfl (.cons (k := 6) rfl (.cons (k := 7) rfl (.cons (k := 9) rfl (.cons (k := 10) rfl (.cons (k := 11) rfl (.cons (k := 12) rfl (.cons (k := 13) rfl (.cons (k := 62) rfl (.cons (k := 139) rfl (.nil _))))))))))) ?_
                      refine GQ_then ?_
                      refine G_cond rfl (fun c35 => ?_) (fun c35 => ?_)
                      · skip
                        have c35p := c35
                        try simp only [decide_eq_true_eq, decide_eq_false_iff_not, Bool.not_eq_true', Bool.not_eq_false', Bool.or_eq_true, Bool.and_eq_true, Bool.or_eq_false_iff, Bool.and_eq_false_iff, Int.not_lt, Int.not_le] at c35p
                        refine G_region ?_
                        refine GL_step rfl (PS_move rfl) ?_
                        refine GL_callLV rfl cf35 rfl (.cons rfl (.cons rfl .nil)) (.cons .head (.cons .head .nil)) (ref_TellOf_1_spec _ _ _ _ _ _ (by decide) (by decide) (by first | exact hs.who | decide)) (fun v157 B hv => ?_)
                        obtain ⟨y158, rfl, y159, y160, rfl⟩ := hv
                        refine GL_step rfl (PS_move rfl) ?_
                        refine GL_callLV rfl cf36 rfl .nil (.cons .head (.cons (.tail .head) .nil)) (ref_TellOf_2_spec _ _ _ _ hs) (fun v161 B hv => ?_)
                        obtain ⟨y162, rfl, y163, y164, rfl⟩ := hv
                        refine GL_step rfl (PS_add_str rfl rfl (by first | omega | (simp only [List.length_append, List.length_cons, List.length_nil]; omega))) ?_
                        refine GL_step rfl (PS_add_str rfl rfl (by first | omega | (simp only [List.length_append, List.length_cons, List.length_nil]; omega))) ?_
                        refine GL_step rfl (PS_assign rfl) ?_
                        refine GL_nil ?_
                        refine GQ_sub (.cons (k := 13) rfl (.nil _)) ?_
                        refine GQ_block ?_
                        refine GQ_then ?_
                        refine G_seq ?_
                        refine G_region ?_
                        refine GL_step rfl (PS_move rfl) ?_
                        refine GL_step rfl (PS_move rfl) ?_
                        refine GL_step rfl (PS_neq_str rfl rfl) ?_
                        refine GL_step rfl (PS_assign rfl) ?_
                        refine GL_step rfl (PS_assign rfl) ?_
                        refine GL_nil ?_
                        refine GQ_sub (.cons (k := 4) rfl (.cons (k := 5) rfl (.nil _))) ?_
                        refine GQ_then ?_
                        refine G_ret ?_
                        refine GQ_ret rfl (.tmp rfl (.tmp rfl .nil)) ?_
                        subst y159
                        subst y163
                        intro w1 hS; refine ⟨?_, hS.toKeep⟩; have hw : Land.whoOf e b = e.who := if_f c2
                        rw [show Land.tellR e b = Land.sayR (decide (b = e.actor)) (Land.whoOf e b) (Land.whomOf e b) (Land.called e.dir) (Lib.itoa e.n) e.thing e.text e.kind from if_f c1, hw, show Land.sayR (decide (b = e.actor)) e.who (Land.whomOf e b) (Land.called e.dir) (Lib.itoa e.n) e.thing e.text e.kind = _ from ((if_f c25).trans ((if_f c26).trans ((if_f c28).trans ((if_f c29).trans ((if_f c30).trans ((if_f c32).trans ((if_f c33).trans ((if_f c34).trans (if_t c35)))))))))]; rfl
                      · skip
                        have c35p := c35
                        try simp only [decide_eq_true_eq, decide_eq_false_iff_not, Bool.not_eq_true', Bool.not_eq_false', Bool.or_eq_true, Bool.and_eq_true, Bool.or_eq_false_iff, Bool.and_eq_false_iff, Int.not_lt, Int.not_le] at c35p
                        refine G_seq ?_
                        refine G_region ?_
                        refine GL_step rfl (PS_eql rfl rfl) ?_
                        refine GL_step rfl (PS_assign rfl) ?_
                        refine GL_nil ?_
                        refine GQ_sub (.cons (k := 2) rfl (.cons (k := 6) rfl (.cons (k := 7) rfl (.cons (k := 9) rfl (.cons (k := 10) rfl (.cons (k := 11) rfl (.cons (k := 12) rfl (.cons (k := 13) rfl (.cons (k := 62) rfl (.cons (k := 147) rfl (.nil _))))))))))) ?_
                        refine GQ_then ?_
                        refine G_cond rfl (fun c36 => ?_) (fun c36 => ?_)
                        · skip
                          have c36p := c36
                          try simp only [decide_eq_true_eq, decide_eq_false_iff_not, Bool.not_eq_true', Bool.not_eq_false', Bool.or_eq_true, Bool.and_eq_true, Bool.or_eq_false_iff, Bool.and_eq_false_iff, Int.not_lt, Int.not_le] at c36p
                          refine G_region ?_
                          refine GL_step rfl (PS_move rfl) ?_
                          refine GL_callLV rfl cf35 rfl (.cons rfl (.cons rfl .nil)) (.cons .head (.cons .head .nil)) (ref_TellOf_1_spec _ _ _ _ _ _ (by decide) (by decide) (by first | exact hs.who | decide)) (fun v165 B hv => ?_)
                          obtain ⟨y166, rfl, y167, y168, rfl⟩ := hv
                          refine GL_step rfl (PS_move rfl) ?_
                          refine GL_callLV rfl cf36 rfl .nil (.cons .head (.cons (.tail .head) .nil)) (ref_TellOf_2_spec _ _ _ _ hs) (fun v169 B hv => ?_)
                          obtain ⟨y170, rfl, y171, y172, rfl⟩ := hv
                          refine GL_step rfl (PS_add_str rfl rfl (by first | omega | (simp only [List.length_append, List.length_cons, List.length_nil]; omega))) ?_
                          refine GL_step rfl (PS_add_str rfl rfl (by first | omega | (simp only [List.length_append, List.length_cons, List.length_nil]; omega))) ?_
                          refine GL_step rfl (PS_assign rfl) ?_
                          refine GL_nil ?_
                          refine GQ_sub (.cons (k := 13) rfl (.nil _)) ?_
                          refine GQ_block ?_
                          refine GQ_then ?_
                          refine G_seq ?_
                          refine G_region ?_
                          refine GL_step rfl (PS_move rfl) ?_
                          refine GL_step rfl (PS_move rfl) ?_
                          refine GL_step rfl (PS_neq_str rfl rfl) ?_
                          refine GL_step rfl (PS_assign rfl) ?_
                          refine GL_step rfl (PS_assign rfl) ?_
                          refine GL_nil ?_
                          refine GQ_sub (.cons (k := 4) rfl (.cons (k := 5) rfl (.nil _))) ?_
                          refine GQ_then ?_
                          refine G_ret ?_
                          refine GQ_ret rfl (.tmp rfl (.tmp rfl .nil)) ?_
                          subst y167
                          subst y171
                          intro w1 hS; refine ⟨?_, hS.toKeep⟩; have hw : Land.whoOf e b = e.who := if_f c2
                          rw [show Land.tellR e b = Land.sayR (decide (b = e.actor)) (Land.whoOf e b) (Land.whomOf e b) (Land.called e.dir) (Lib.itoa e.n) e.thing e.text e.kind from if_f c1, hw, show Land.sayR (decide (b = e.actor)) e.who (Land.whomOf e b) (Land.called e.dir) (Lib.itoa e.n) e.thing e.text e.kind = _ from ((if_f c25).trans ((if_f c26).trans ((if_f c28).trans ((if_f c29).trans ((if_f c30).trans ((if_f c32).trans ((if_f c33).trans ((if_f c34).trans ((if_f c35).trans (if_t c36))))))))))]; rfl
                        · skip
                          have c36p := c36
                          try simp only [decide_eq_true_eq, decide_eq_false_iff_not, Bool.not_eq_true', Bool.not_eq_false', Bool.or_eq_true, Bool.and_eq_true, Bool.or_eq_false_iff, Bool.and_eq_false_iff, Int.not_lt, Int.not_le] at c36p
                          refine G_seq ?_
                          refine G_region ?_
                          refine GL_step rfl (PS_eql rfl rfl) ?_
                          refine GL_step rfl (PS_assign rfl) ?_
                          refine GL_nil ?_
                          refine GQ_sub (.cons (k := 2) rfl (.cons (k := 6) rfl (.cons (k := 7) rfl (.cons (k := 9) rfl (.cons (k := 10) rfl (.cons (k := 11) rfl (.cons (k := 12) rfl (.cons (k := 13) rfl (.cons (k := 62) rfl (.cons (k := 155) rfl (.nil _))))))))))) ?_
                          refine GQ_then ?_
                          refine G_cond rfl (fun c37 => ?_) (fun c37 => ?_)
                          · skip
                            have c37p := c37
                            try simp only [decide_eq_true_eq, decide_eq_false_iff_not, Bool.not_eq_true', Bool.not_eq_false', Bool.or_eq_true, Bool.and_eq_true, Bool.or_eq_false_iff, Bool.and_eq_false_iff, Int.not_lt, Int.not_le] at c37p
                            refine G_region ?_
                            refine GL_step rfl (PS_move rfl) ?_
                            refine GL_callLV rfl cf35 rfl (.cons rfl (.cons rfl .nil)) (.cons .head (.cons .head .nil)) (ref_TellOf_1_spec _ _ _ _ _ _ (by decide) (by decide) (by first | exact hs.who | decide)) (fun v173 B hv => ?_)
                            obtain ⟨y174, rfl, y175, y176, rfl⟩ := hv
                            refine GL_step rfl (PS_move rfl) ?_
                            refine GL_callLV rfl cf36 rfl .nil (.cons .head (.cons (.tail .head) .nil)) (ref_TellOf_2_spec _ _ _ _ hs) (fun v177 B hv => ?_)
                            obtain ⟨y178, rfl, y179, y180, rfl⟩ := hv
                            refine GL_step rfl (PS_add_str rfl rfl (by first | omega | (simp only [List.length_append, List.length_cons, List.length_nil]; omega))) ?_
                            refine GL_step rfl (PS_add_str rfl rfl (by first | omega | (simp only [List.length_append, List.length_cons, List.length_nil]; omega))) ?_
                            refine GL_step rfl (PS_assign rfl) ?_
                            refine GL_nil ?_
                            refine GQ_sub (.cons (k := 13) rfl (.nil _)) ?_
                            refine GQ_block ?_
                            refine GQ_then ?_
                            refine G_seq ?_
                            refine G_region ?_
                            refine GL_step rfl (PS_move rfl) ?_
                            refine GL_step rfl (PS_move rfl) ?_
                            refine GL_step rfl (PS_neq_str rfl rfl) ?_
                            refine GL_step rfl (PS_assign rfl) ?_
                            refine GL_step rfl (PS_assign rfl) ?_
                            refine GL_nil ?_
                            refine GQ_sub (.cons (k := 4) rfl (.cons (k := 5) rfl (.nil _))) ?_
                            refine GQ_then ?_
                            refine G_ret ?_
                            refine GQ_ret rfl (.tmp rfl (.tmp rfl .nil)) ?_
                            subst y175
                            subst y179
                            intro w1 hS; refine ⟨?_, hS.toKeep⟩; have hw : Land.whoOf e b = e.who := if_f c2
                            rw [show Land.tellR e b = Land.sayR (decide (b = e.actor)) (Land.whoOf e b) (Land.whomOf e b) (Land.called e.dir) (Lib.itoa e.n) e.thing e.text e.kind from if_f c1, hw, show Land.sayR (decide (b = e.actor)) e.who (Land.whomOf e b) (Land.called e.dir) (Lib.itoa e.n) e.thing e.text e.kind = _ from ((if_f c25).trans ((if_f c26).trans ((if_f c28).trans ((if_f c29).trans ((if_f c30).trans ((if_f c32).trans ((if_f c33).trans ((if_f c34).trans ((if_f c35).trans ((if_f c36).trans (if_t c37)))))))))))]; rfl
                          · skip
                            have c37p := c37
                            try simp only [decide_eq_true_eq, decide_eq_false_iff_not, Bool.not_eq_true', Bool.not_eq_false', Bool.or_eq_true, Bool.and_eq_true, Bool.or_eq_false_iff, Bool.and_eq_false_iff, Int.not_lt, Int.not_le] at c37p
                            refine G_seq ?_
                            refine G_region ?_
                            refine GL_step rfl (PS_eql rfl rfl) ?_
                            refine GL_step rfl (PS_assign rfl) ?_
                            refine GL_nil ?_
                            refine GQ_sub (.cons (k := 2) rfl (.cons (k := 6) rfl (.cons (k := 7) rfl (.cons (k := 9) rfl (.cons (k := 10) rfl (.cons (k := 11) rfl (.cons (k := 12) rfl (.cons (k := 13) rfl (.cons (k := 62) rfl (.cons (k := 163) rfl (.nil _))))))))))) ?_
                            refine GQ_then ?_
                            refine G_cond rfl (fun c38 => ?_) (fun c38 => ?_)
                            · skip
                              have c38p := c38
                              try simp only [decide_eq_true_eq, decide_eq_false_iff_not, Bool.not_eq_true', Bool.not_eq_false', Bool.or_eq_true, Bool.and_eq_true, Bool.or_eq_false_iff, Bool.and_eq_false_iff, Int.not_lt, Int.not_le] at c38p
                              refine G_region ?_
                              refine GL_step rfl (PS_move rfl) ?_
                              refine GL_callLV rfl cf35 rfl (.cons rfl (.cons rfl .nil)) (.cons .head (.cons .head .nil)) (ref_TellOf_1_spec _ _ _ _ _ _ (by decide) (by decide) (by first | exact hs.who | decide)) (fun v181 B hv => ?_)
                              obtain ⟨y182, rfl, y183, y184, rfl⟩ := hv
                              refine GL_step rfl (PS_move rfl) ?_
                              refine GL_callLV rfl cf36 rfl .nil (.cons .head (.cons (.tail .head) .nil)) (ref_TellOf_2_spec _ _ _ _ hs) (fun v185 B hv => ?_)
                              obtain ⟨y186, rfl, y187, y188, rfl⟩ := hv
                              refine GL_step rfl (PS_add_str rfl rfl (by first | omega | (simp only [List.length_append, List.length_cons, List.length_nil]; omega))) ?_
                              refine GL_step rfl (PS_add_str rfl rfl (by first | omega | (simp only [List.length_append, List.length_cons, List.length_nil]; omega))) ?_
                              refine GL_step rfl (PS_assign rfl) ?_
                              refine GL_nil ?_
                              refine GQ_sub (.cons (k := 13) rfl (.nil _)) ?_
                              refine GQ_block ?_
                              refine GQ_then ?_
                              refine G_seq ?_
                              refine G_region ?_
                              refine GL_step rfl (PS_move rfl) ?_
                              refine GL_step rfl (PS_move rfl) ?_
                              refine GL_step rfl (PS_neq_str rfl rfl) ?_
                              refine GL_step rfl (PS_assign rfl) ?_
                              refine GL_step rfl (PS_assign rfl) ?_
                              refine GL_nil ?_
                              refine GQ_sub (.cons (k := 4) rfl (.cons (k := 5) rfl (.nil _))) ?_
                              refine GQ_then ?_
                              refine G_ret ?_
                              refine GQ_ret rfl (.tmp rfl (.tmp rfl .nil)) ?_
                              subst y183
                              subst y187
                              intro w1 hS; refine ⟨?_, hS.toKeep⟩; have hw : Land.whoOf e b = e.who := if_f c2
                              rw [show Land.tellR e b = Land.sayR (decide (b = e.actor)) (Land.whoOf e b) (Land.whomOf e b) (Land.called e.dir) (Lib.itoa e.n) e.thing e.text e.kind from if_f c1, hw, show Land.sayR (decide (b = e.actor)) e.who (Land.whomOf e b) (Land.called e.dir) (Lib.itoa e.n) e.thing e.text e.kind = _ from ((if_f c25).trans ((if_f c26).trans ((if_f c28).trans ((if_f c29).trans ((if_f c30).trans ((if_f c32).trans ((if_f c33).trans ((if_f c34).trans ((if_f c35).trans ((if_f c36).trans ((if_f c37).trans (if_t c38))))))))))))]; rfl
                            · skip
                              have c38p := c38
                              try simp only [decide_eq_true_eq, decide_eq_false_iff_not, Bool.not_eq_true', Bool.not_eq_false', Bool.or_eq_true, Bool.and_eq_true, Bool.or_eq_false_iff, Bool.and_eq_false_iff, Int.not_lt, Int.not_le] at c38p
                              refine G_seq ?_
                              refine G_region ?_
                              refine GL_step rfl (PS_eql rfl rfl) ?_
                              refine GL_step rfl (PS_assign rfl) ?_
                              refine GL_nil ?_
                              refine GQ_sub (.cons (k := 2) rfl (.cons (k := 6) rfl (.cons (k := 7) rfl (.cons (k := 9) rfl (.cons (k := 10) rfl (.cons (k := 11) rfl (.cons (k := 12) rfl (.cons (k := 13) rfl (.cons (k := 62) rfl (.cons (k := 171) rfl (.nil _))))))))))) ?_
                              refine GQ_then ?_
                              refine G_cond rfl (fun c39 => ?_) (fun c39 => ?_)
                              · skip
                                have c39p := c39
                                try simp only [decide_eq_true_eq, decide_eq_false_iff_not, Bool.not_eq_true', Bool.not_eq_false', Bool.or_eq_true, Bool.and_eq_true, Bool.or_eq_false_iff, Bool.and_eq_false_iff, Int.not_lt, Int.not_le] at c39p
                                refine G_region ?_
                                refine GL_step rfl (PS_move rfl) ?_
                                refine GL_callLV rfl cf35 rfl (.cons rfl (.cons rfl .nil)) (.cons .head (.cons .head .nil)) (ref_TellOf_1_spec _ _ _ _ _ _ (by decide) (by decide) (by first | exact hs.who | decide)) (fun v189 B hv => ?_)
                                obtain ⟨y190, rfl, y191, y192, rfl⟩ := hv
                                refine GL_step rfl (PS_move rfl) ?_
                                refine GL_callLV rfl cf36 rfl .nil (.cons .head (.cons (.tail .head) .nil)) (ref_TellOf_2_spec _ _ _ _ hs) (fun v193 B hv => ?_)
                                obtain ⟨y194, rfl, y195, y196, rfl⟩ := hv
                                refine GL_step rfl (PS_add_str rfl rfl (by first | omega | (simp only [List.length_append, List.length_cons, List.length_nil]; omega))) ?_
                                refine GL_step rfl (PS_add_str rfl rfl (by first | omega | (simp only [List.length_append, List.length_cons, List.length_nil]; omega))) ?_
                                refine GL_step rfl (PS_assign rfl) ?_
                                refine GL_nil ?_
                                refine GQ_sub (.cons (k := 13) rfl (.nil _)) ?_
                                refine GQ_block ?_
                                refine GQ_then ?_
                                refine G_seq ?_
                                refine G_region ?_
                                refine GL_step rfl (PS_move rfl) ?_
                                refine GL_step rfl (PS_move rfl) ?_
                                refine GL_step rfl (PS_neq_str rfl rfl) ?_
                                refine GL_step rfl (PS_assign rfl) ?_
                                refine GL_step rfl (PS_assign rfl) ?_
                                refine GL_nil ?_
                                refine GQ_sub (.cons (k := 4) rfl (.cons (k := 5) rfl (.nil _))) ?_
                                refine GQ_then ?_
                                refine G_ret ?_
                                refine GQ_ret rfl (.tmp rfl (.tmp rfl .nil)) ?_
                                subst y191
                                subst y195
                                intro w1 hS; refine ⟨?_, hS.toKeep⟩; have hw : Land.whoOf e b = e.who := if_f c2
                                rw [show Land.tellR e b = Land.sayR (decide (b = e.actor)) (Land.whoOf e b) (Land.whomOf e b) (Land.called e.dir) (Lib.itoa e.n) e.thing e.text e.kind from if_f c1, hw, show Land.sayR (decide (b = e.actor)) e.who (Land.whomOf e b) (Land.called e.dir) (Lib.itoa e.n) e.thing e.text e.kind = _ from ((if_f c25).trans ((if_f c26).trans ((if_f c28).trans ((if_f c29).trans ((if_f c30).trans ((if_f c32).trans ((if_f c33).trans ((if_f c34).trans ((if_f c35).trans ((if_f c36).trans ((if_f c37).trans ((if_f c38).trans (if_t c39)))))))))))))]; rfl
                              · skip
                                have c39p := c39
                                try simp only [decide_eq_true_eq, decide_eq_false_iff_not, Bool.not_eq_true', Bool.not_eq_false', Bool.or_eq_true, Bool.and_eq_true, Bool.or_eq_false_iff, Bool.and_eq_false_iff, Int.not_lt, Int.not_le] at c39p
                                refine G_seq ?_
                                refine G_region ?_
                                refine GL_step rfl (PS_eql rfl rfl) ?_
                                refine GL_step rfl (PS_assign rfl) ?_
                                refine GL_nil ?_
                                refine GQ_sub (.cons (k := 2) rfl (.cons (k := 6) rfl (.cons (k := 7) rfl (.cons (k := 9) rfl (.cons (k := 10) rfl (.cons (k := 11) rfl (.cons (k := 13) rfl (.cons (k := 62) rfl (.cons (k := 179) rfl (.nil _)))))))))) ?_
                                refine GQ_then ?_
                                refine G_cond rfl (fun c40 => ?_) (fun c40 => ?_)
                                · skip
                                  have c40p := c40
                                  try simp only [decide_eq_true_eq, decide_eq_false_iff_not, Bool.not_eq_true', Bool.not_eq_false', Bool.or_eq_true, Bool.and_eq_true, Bool.or_eq_false_iff, Bool.and_eq_false_iff, Int.not_lt, Int.not_le] at c40p
                                  refine G_region ?_
                                  refine GL_step rfl (PS_move rfl) ?_
                                  refine GL_callLV rfl cf35 rfl (.cons rfl (.cons rfl .nil)) (.cons .head (.cons .head .nil)) (ref_TellOf_1_spec _ _ _ _ _ _ (by decide) (by decide) (by first | exact hs.who | decide)) (fun v197 B hv => ?_)
                                  obtain ⟨y198, rfl, y199, y200, rfl⟩ := hv
                                  refine GL_step rfl (PS_move rfl) ?_
                                  refine GL_step rfl (PS_add_str rfl rfl (by first | omega | (simp only [List.length_append, List.length_cons, List.length_nil]; omega))) ?_
                                  refine GL_step rfl (PS_add_str rfl rfl (by first | omega | (simp only [List.length_append, List.length_cons, List.length_nil]; omega))) ?_
                                  refine GL_step rfl (PS_move rfl) ?_
                                  refine GL_step rfl (PS_add_str rfl rfl (by first | omega | (simp only [List.length_append, List.length_cons, List.length_nil]; omega))) ?_
                                  refine GL_step rfl (PS_add_str rfl rfl (by first | omega | (simp only [List.length_append, List.length_cons, List.length_nil]; omega))) ?_
                                  refine GL_step rfl (PS_assign rfl) ?_
                                  refine GL_nil ?_
                                  refine GQ_sub (.cons (k := 13) rfl (.nil _)) ?_
                                  refine GQ_block ?_
                                  refine GQ_then ?_
                                  refine G_seq ?_
                                  refine G_region ?_
                                  refine GL_step rfl (PS_move rfl) ?_
                                  refine GL_step rfl (PS_move rfl) ?_
                                  refine GL_step rfl (PS_neq_str rfl rfl) ?_
                                  refine GL_step rfl (PS_assign rfl) ?_
                                  refine GL_step rfl (PS_assign rfl) ?_
                                  refine GL_nil ?_
                                  refine GQ_sub (.cons (k := 4) rfl (.cons (k := 5) rfl (.nil _))) ?_
                                  refine GQ_then ?_
                                  refine G_ret ?_
                                  refine GQ_ret rfl (.tmp rfl (.tmp rfl .nil)) ?_
                                  subst y199
                                  intro w1 hS; refine ⟨?_, hS.toKeep⟩; have hw : Land.whoOf e b = e.who := if_f c2
                                  rw [show Land.tellR e b = Land.sayR (decide (b = e.actor)) (Land.whoOf e b) (Land.whomOf e b) (Land.called e.dir) (Lib.itoa e.n) e.thing e.text e.kind from if_f c1, hw, show Land.sayR (decide (b = e.actor)) e.who (Land.whomOf e b) (Land.called e.dir) (Lib.itoa e.n) e.thing e.text e.kind = _ from ((if_f c25).trans ((if_f c26).trans ((if_f c28).trans ((if_f c29).trans ((if_f c30).trans ((if_f c32).trans ((if_f c33).trans ((if_f c34).trans ((if_f c35).trans ((if_f c36).trans ((if_f c37).trans ((if_f c38).trans ((if_f c39).trans (if_t c40))))))))))))))]; rfl
                                · skip
                                  have c40p := c40
                                  try simp only [decide_eq_true_eq, decide_eq_false_iff_not, Bool.not_eq_true', Bool.not_eq_false', Bool.or_eq_true, Bool.and_eq_true, Bool.or_eq_false_iff, Bool.and_eq_false_iff, Int.not_lt, Int.not_le] at c40p
                                  refine G_seq ?_
                                  refine G_region ?_
                                  refine GL_step rfl (PS_eql rfl rfl) ?_
                                  refine GL_step rfl (PS_assign rfl) ?_
                                  refine GL_nil ?_
                                  refine GQ_sub (.cons (k := 2) rfl (.cons (k := 6) rfl (.cons (k := 10) rfl (.cons (k := 13) rfl (.cons (k := 62) rfl (.cons (k := 189) rfl (.nil _))))))) ?_
                                  refine GQ_then ?_
                                  refine G_cond rfl (fun c41 => ?_) (fun c41 => ?_)
                                  · skip
                                    have c41p := c41
                                    try simp only [decide_eq_true_eq, decide_eq_false_iff_not, Bool.not_eq_true', Bool.not_eq_false', Bool.or_eq_true, Bool.and_eq_true, Bool.or_eq_false_iff, Bool.and_eq_false_iff, Int.not_lt, Int.not_le] at c41p
                                    refine G_seq ?_
                                    refine G_region ?_
                                    refine GL_step rfl (PS_load1 rfl tys9 (.tail _ (.head _))) ?_
                                    refine GL_step rfl (PS_add_str rfl rfl (by first | omega | (simp only [List.length_append, List.length_cons, List.length_nil]; omega))) ?_
                                    refine GL_step rfl (PS_assign rfl) ?_
                                    refine GL_nil ?_
                                    refine GQ_sub (.cons (k := 10) rfl (.cons (k := 13) rfl (.nil _))) ?_
                                    refine GQ_then ?_
                                    refine G_seq ?_
                                    refine G_region ?_
                                    refine GL_step rfl (PS_load1 rfl tys4 (.head _)) ?_
                                    refine GL_nil ?_
                                    refine GQ_sub (.cons (k := 13) rfl (.cons (k := 193) rfl (.nil _))) ?_
                                    refine GQ_then ?_
                                    refine G_set1 (vstr) (s := _) rfl rfl rfl rfl rfl ?_
                                    refine GQ_sub (.cons (k := 13) rfl (.nil _)) ?_
                                    refine GQ_block ?_
                                    refine GQ_then ?_
                                    refine G_seq ?_
                                    refine G_region ?_
                                    refine GL_step rfl (PS_move rfl) ?_
                                    refine GL_step rfl (PS_move rfl) ?_
                                    refine GL_step rfl (PS_neq_str rfl rfl) ?_
                                    refine GL_step rfl (PS_assign rfl) ?_
                                    refine GL_step rfl (PS_assign rfl) ?_
                                    refine GL_nil ?_
                                    refine GQ_sub (.cons (k := 4) rfl (.cons (k := 5) rfl (.nil _))) ?_
                                    refine GQ_then ?_
                                    refine G_ret ?_
                                    refine GQ_ret rfl (.tmp rfl (.tmp rfl .nil)) ?_
                                    intro w1 hS; refine ⟨?_, hS.toKeep⟩; have hw : Land.whoOf e b = e.who := if_f c2
                                    rw [show Land.tellR e b = Land.sayR (decide (b = e.actor)) (Land.whoOf e b) (Land.whomOf e b) (Land.called e.dir) (Lib.itoa e.n) e.thing e.text e.kind from if_f c1, hw, show Land.sayR (decide (b = e.actor)) e.who (Land.whomOf e b) (Land.called e.dir) (Lib.itoa e.n) e.thing e.text e.kind = _ from ((if_f c25).trans ((if_f c26).trans ((if_f c28).trans ((if_f c29).trans ((if_f c30).trans ((if_f c32).trans ((if_f c33).trans ((if_f c34).trans ((if_f c35).trans ((if_f c36).trans ((if_f c37).trans ((if_f c38).trans ((if_f c39).trans ((if_f c40).trans (if_t c41)))))))))))))))]; rfl
                                  · skip
                                    have c41p := c41
                                    try simp only [decide_eq_true_eq, decide_eq_false_iff_not, Bool.not_eq_true', Bool.not_eq_false', Bool.or_eq_true, Bool.and_eq_true, Bool.or_eq_false_iff, Bool.and_eq_false_iff, Int.not_lt, Int.not_le] at c41p
                                    refine G_seq ?_
                                    refine G_region ?_
                                    refine GL_step rfl (PS_eql rfl rfl) ?_
                                    refine GL_step rfl (PS_assign rfl) ?_
                                    refine GL_nil ?_
                                    refine GQ_sub (.cons (k := 2) rfl (.cons (k := 6) rfl (.cons (k := 10) rfl (.cons (k := 13) rfl (.cons (k := 62) rfl (.cons (k := 194) rfl (.nil _))))))) ?_
                                    refine GQ_then ?_
                                    refine G_cond rfl (fun c42 => ?_) (fun c42 => ?_)
                                    · skip
                                      have c42p := c42
                                      try simp only [decide_eq_true_eq, decide_eq_false_iff_not, Bool.not_eq_true', Bool.not_eq_false', Bool.or_eq_true, Bool.and_eq_true, Bool.or_eq_false_iff, Bool.and_eq_false_iff, Int.not_lt, Int.not_le] at c42p
                                      refine G_seq ?_
                                      refine G_region ?_
                                      refine GL_step rfl (PS_load1 rfl tys4 (.head _)) ?_
                                      refine GL_nil ?_
                                      refine GQ_sub (.cons (k := 2) rfl (.cons (k := 13) rfl (.cons (k := 196) rfl (.nil _)))) ?_
                                      refine GQ_then ?_
                                      refine G_cond rfl (fun c43 => ?_) (fun c43 => ?_)
                                      · skip
                                        have c43p := c43
                                        try simp only [decide_eq_true_eq, decide_eq_false_iff_not, Bool.not_eq_true', Bool.not_eq_false', Bool.or_eq_true, Bool.and_eq_true, Bool.or_eq_false_iff, Bool.and_eq_false_iff, Int.not_lt, Int.not_le] at c43p
                                        refine G_seq ?_
                                        refine G_region ?_
                                        refine GL_step rfl (PS_fieldAddr fa36_9 rfl) ?_
                                        refine GL_step rfl (PS_load rfl tys9 (.tail _ (.tail _ (.head _))) Ing.Event.l9 rfl rfl) ?_
                                        refine GL_step rfl (PS_assign rfl) ?_
                                        refine GL_nil ?_
                                        refine GQ_sub (.cons (k := 13) rfl (.nil _)) ?_
                                        refine GQ_then ?_
                                        refine G_seq ?_
                                        refine G_region ?_
                                        refine GL_step rfl (PS_move rfl) ?_
                                        refine GL_step rfl (PS_assign rfl) ?_
                                        refine GL_step rfl (PS_assign rfl) ?_
                                        refine GL_nil ?_
                                        refine GQ_sub (.cons (k := 4) rfl (.cons (k := 5) rfl (.nil _))) ?_
                                        refine GQ_then ?_
                                        refine G_ret ?_
                                        refine GQ_block_ret ?_
                                        refine GQ_then_ret ?_
                                        refine GQ_ret rfl (.tmp rfl (.tmp rfl .nil)) ?_
                                        intro w1 hS; refine ⟨?_, hS.toKeep⟩; have hw : Land.whoOf e b = e.who := if_f c2
                                        rw [show Land.tellR e b = Land.sayR (decide (b = e.actor)) (Land.whoOf e b) (Land.whomOf e b) (Land.called e.dir) (Lib.itoa e.n) e.thing e.text e.kind from if_f c1, hw, show Land.sayR (decide (b = e.actor)) e.who (Land.whomOf e b) (Land.called e.dir) (Lib.itoa e.n) e.thing e.text e.kind = _ from ((if_f c25).trans ((if_f c26).trans ((if_f c28).trans ((if_f c29).trans ((if_f c30).trans ((if_f c32).trans ((if_f c33).trans ((if_f c34).trans ((if_f c35).trans ((if_f c36).trans ((if_f c37).trans ((if_f c38).trans ((if_f c39).trans ((if_f c40).trans ((if_f c41).trans ((if_t c42).trans (if_t c43)))))))))))))))))]; rfl
                                      · skip
                                        have c43p := c43
                                        try simp only [decide_eq_true_eq, decide_eq_false_iff_not, Bool.not_eq_true', Bool.not_eq_false', Bool.or_eq_true, Bool.and_eq_true, Bool.or_eq_false_iff, Bool.and_eq_false_iff, Int.not_lt, Int.not_le] at c43p
                                        refine G_skip ?_
                                        refine GQ_sub (.cons (k := 13) rfl (.nil _)) ?_
                                        refine GQ_block ?_
                                        refine GQ_then ?_
                                        refine G_seq ?_
                                        refine G_region ?_
                                        refine GL_step rfl (PS_move rfl) ?_
                                        refine GL_step rfl (PS_move rfl) ?_
                                        refine GL_step rfl (PS_neq_str rfl rfl) ?_
                                        refine GL_step rfl (PS_assign rfl) ?_
                                        refine GL_step rfl (PS_assign rfl) ?_
                                        refine GL_nil ?_
                                        refine GQ_sub (.cons (k := 4) rfl (.cons (k := 5) rfl (.nil _))) ?_
                                        refine GQ_then ?_
                                        refine G_ret ?_
                                        refine GQ_ret rfl (.tmp rfl (.tmp rfl .nil)) ?_
                                        intro w1 hS; refine ⟨?_, hS.toKeep⟩; have hw : Land.whoOf e b = e.who := if_f c2
                                        rw [show Land.tellR e b = Land.sayR (decide (b = e.actor)) (Land.whoOf e b) (Land.whomOf e b) (Land.called e.dir) (Lib.itoa e.n) e.thing e.text e.kind from if_f c1, hw, show Land.sayR (decide (b = e.actor)) e.who (Land.whomOf e b) (Land.called e.dir) (Lib.itoa e.n) e.thing e.text e.kind = _ from ((if_f c25).trans ((if_f c26).trans ((if_f c28).trans ((if_f c29).trans ((if_f c30).trans ((if_f c32).trans ((if_f c33).trans ((if_f c34).trans ((if_f c35).trans ((if_f c36).trans ((if_f c37).trans ((if_f c38).trans ((if_f c39).trans ((if_f c40).trans ((if_f c41).trans ((if_t c42).trans (if_f c43)))))))))))))))))]; rfl
                                    · skip
                                      have c42p := c42
                                      try simp only [decide_eq_true_eq, decide_eq_false_iff_not, Bool.not_eq_true', Bool.not_eq_false', Bool.or_eq_true, Bool.and_eq_true, Bool.or_eq_false_iff, Bool.and_eq_false_iff, Int.not_lt, Int.not_le] at c42p
                                      refine G_seq ?_
                                      refine G_region ?_
                                      refine GL_step rfl (PS_eql rfl rfl) ?_
                                      refine GL_step rfl (PS_assign rfl) ?_
                                      refine GL_nil ?_
                                      refine GQ_sub (.cons (k := 6) rfl (.cons (k := 10) rfl (.cons (k := 13) rfl (.cons (k := 62) rfl (.cons (k := 200) rfl (.nil _)))))) ?_
                                      refine GQ_then ?_
                                      refine G_cond rfl (fun c44 => ?_) (fun c44 => ?_)
                                      · skip
                                        have c44p := c44
                                        try simp only [decide_eq_true_eq, decide_eq_false_iff_not, Bool.not_eq_true', Bool.not_eq_false', Bool.or_eq_true, Bool.and_eq_true, Bool.or_eq_false_iff, Bool.and_eq_false_iff, Int.not_lt, Int.not_le] at c44p
                                        refine G_seq ?_
                                        refine G_region ?_
                                        refine GL_step rfl (PS_load1 rfl tys9 (.tail _ (.head _))) ?_
                                        refine GL_step rfl (PS_add_str rfl rfl (by first | omega | (simp only [List.length_append, List.length_cons, List.length_nil]; omega))) ?_
                                        refine GL_step rfl (PS_assign rfl) ?_
                                        refine GL_nil ?_
                                        refine GQ_sub (.cons (k := 10) rfl (.cons (k := 13) rfl (.nil _))) ?_
                                        refine GQ_then ?_
                                        refine G_seq ?_
                                        refine G_region ?_
                                        refine GL_step rfl (PS_load1 rfl tys4 (.head _)) ?_
                                        refine GL_nil ?_
                                        refine GQ_sub (.cons (k := 13) rfl (.cons (k := 204) rfl (.nil _))) ?_
                                        refine GQ_then ?_
                                        refine G_set1 (vstr) (s := _) rfl rfl rfl rfl rfl ?_
                                        refine GQ_sub (.cons (k := 13) rfl (.nil _)) ?_
                                        refine GQ_block ?_
                                        refine GQ_then ?_
                                        refine G_seq ?_
                                        refine G_region ?_
                                        refine GL_step rfl (PS_move rfl) ?_
                                        refine GL_step rfl (PS_move rfl) ?_
                                        refine GL_step rfl (PS_neq_str rfl rfl) ?_
                                        refine GL_step rfl (PS_assign rfl) ?_
                                        refine GL_step rfl (PS_assign rfl) ?_
                                        refine GL_nil ?_
                                        refine GQ_sub (.cons (k := 4) rfl (.cons (k := 5) rfl (.nil _))) ?_
                                        refine GQ_then ?_
                                        refine G_ret ?_
                                        refine GQ_ret rfl (.tmp rfl (.tmp rfl .nil)) ?_
                                        intro w1 hS; refine ⟨?_, hS.toKeep⟩; have hw : Land.whoOf e b = e.who := if_f c2
                                        rw [show Land.tellR e b = Land.sayR (decide (b = e.actor)) (Land.whoOf e b) (Land.whomOf e b) (Land.called e.dir) (Lib.itoa e.n) e.thing e.text e.kind from if_f c1, hw, show Land.sayR (decide (b = e.actor)) e.who (Land.whomOf e b) (Land.called e.dir) (Lib.itoa e.n) e.thing e.text e.kind = _ from ((if_f c25).trans ((if_f c26).trans ((if_f c28).trans ((if_f c29).trans ((if_f c30).trans ((if_f c32).trans ((if_f c33).trans ((if_f c34).trans ((if_f c35).trans ((if_f c36).trans ((if_f c37).trans ((if_f c38).trans ((if_f c39).trans ((if_f c40).trans ((if_f c41).trans ((if_f c42).trans (if_t c44)))))))))))))))))]; rfl
                                      · skip
                                        have c44p := c44
                                        try simp only [decide_eq_true_eq, decide_eq_false_iff_not, Bool.not_eq_true', Bool.not_eq_false', Bool.or_eq_true, Bool.and_eq_true, Bool.or_eq_false_iff, Bool.and_eq_false_iff, Int.not_lt, Int.not_le] at c44p
                                        refine G_seq ?_
                                        refine G_region ?_
                                        refine GL_step rfl (PS_eql rfl rfl) ?_
                                        refine GL_step rfl (PS_assign rfl) ?_
                                        refine GL_nil ?_
                                        refine GQ_sub (.cons (k := 6) rfl (.cons (k := 10) rfl (.cons (k := 13) rfl (.cons (k := 205) rfl (.nil _))))) ?_
                                        refine GQ_then ?_
                                        refine G_cond rfl (fun c45 => ?_) (fun c45 => ?_)
                                        · skip
                                          have c45p := c45
                                          try simp only [decide_eq_true_eq, decide_eq_false_iff_not, Bool.not_eq_true', Bool.not_eq_false', Bool.or_eq_true, Bool.and_eq_true, Bool.or_eq_false_iff, Bool.and_eq_false_iff, Int.not_lt, Int.not_le] at c45p
                                          refine G_seq ?_
                                          refine G_region ?_
                                          refine GL_step rfl (PS_load1 rfl tys4 (.head _)) ?_
                                          refine GL_step rfl (PS_not rfl) ?_
                                          refine GL_nil ?_
                                          refine GQ_sub (.cons (k := 6) rfl (.cons (k := 13) rfl (.cons (k := 208) rfl (.nil _)))) ?_
                                          refine GQ_then ?_
                                          refine G_cond rfl (fun c46 => ?_) (fun c46 => ?_)
                                          · skip
                                            have c46p := c46
                                            try simp only [decide_eq_true_eq, decide_eq_false_iff_not, Bool.not_eq_true', Bool.not_eq_false', Bool.or_eq_true, Bool.and_eq_true, Bool.or_eq_false_iff, Bool.and_eq_false_iff, Int.not_lt, Int.not_le] at c46p
                                            refine G_region ?_
                                            refine GL_step rfl (PS_load1 rfl tys9 (.tail _ (.head _))) ?_
                                            refine GL_step rfl (PS_add_str rfl rfl (by first | omega | (simp only [List.length_append, List.length_cons, List.length_nil]; omega))) ?_
                                            refine GL_step rfl (PS_assign rfl) ?_
                                            refine GL_nil ?_
                                            refine GQ_sub (.cons (k := 13) rfl (.nil _)) ?_
                                            refine GQ_block ?_
                                            refine GQ_then ?_
                                            refine G_seq ?_
                                            refine G_region ?_
                                            refine GL_step rfl (PS_move rfl) ?_
                                            refine GL_step rfl (PS_move rfl) ?_
                                            refine GL_step rfl (PS_neq_str rfl rfl) ?_
                                            refine GL_step rfl (PS_assign rfl) ?_
                                            refine GL_step rfl (PS_assign rfl) ?_
                                            refine GL_nil ?_
                                            refine GQ_sub (.cons (k := 4) rfl (.cons (k := 5) rfl (.nil _))) ?_
                                            refine GQ_then ?_
                                            refine G_ret ?_
                                            refine GQ_ret rfl (.tmp rfl (.tmp rfl .nil)) ?_
                                            intro w1 hS; refine ⟨?_, hS.toKeep⟩; have hw : Land.whoOf e b = e.who := if_f c2
                                            rw [show Land.tellR e b = Land.sayR (decide (b = e.actor)) (Land.whoOf e b) (Land.whomOf e b) (Land.called e.dir) (Lib.itoa e.n) e.thing e.text e.kind from if_f c1, hw, show Land.sayR (decide (b = e.actor)) e.who (Land.whomOf e b) (Land.called e.dir) (Lib.itoa e.n) e.thing e.text e.kind = _ from ((if_f c25).trans ((if_f c26).trans ((if_f c28).trans ((if_f c29).trans ((if_f c30).trans ((if_f c32).trans ((if_f c33).trans ((if_f c34).trans ((if_f c35).trans ((if_f c36).trans ((if_f c37).trans ((if_f c38).trans ((if_f c39).trans ((if_f c40).trans ((if_f c41).trans ((if_f c42).trans ((if_f c44).trans ((if_t c45).trans (if_t c46)))))))))))))))))))]; rfl
                                          · skip
                                            have c46p := c46
                                            try simp only [decide_eq_true_eq, decide_eq_false_iff_not, Bool.not_eq_true', Bool.not_eq_false', Bool.or_eq_true, Bool.and_eq_true, Bool.or_eq_false_iff, Bool.and_eq_false_iff, Int.not_lt, Int.not_le] at c46p
                                            refine G_skip ?_
                                            refine GQ_sub (.cons (k := 13) rfl (.nil _)) ?_
                                            refine GQ_block ?_
                                            refine GQ_then ?_
                                            refine G_seq ?_
                                            refine G_region ?_
                                            refine GL_step rfl (PS_move rfl) ?_
                                            refine GL_step rfl (PS_move rfl) ?_
                                            refine GL_step rfl (PS_neq_str rfl rfl) ?_
                                            refine GL_step rfl (PS_assign rfl) ?_
                                            refine GL_step rfl (PS_assign rfl) ?_
                                            refine GL_nil ?_
                                            refine GQ_sub (.cons (k := 4) rfl (.cons (k := 5) rfl (.nil _))) ?_
                                            refine GQ_then ?_
                                            refine G_ret ?_
                                            refine GQ_ret rfl (.tmp rfl (.tmp rfl .nil)) ?_
                                            intro w1 hS; refine ⟨?_, hS.toKeep⟩; have hw : Land.whoOf e b = e.who := if_f c2
                                            rw [show Land.tellR e b = Land.sayR (decide (b = e.actor)) (Land.whoOf e b) (Land.whomOf e b) (Land.called e.dir) (Lib.itoa e.n) e.thing e.text e.kind from if_f c1, hw, show Land.sayR (decide (b = e.actor)) e.who (Land.whomOf e b) (Land.called e.dir) (Lib.itoa e.n) e.thing e.text e.kind = _ from ((if_f c25).trans ((if_f c26).trans ((if_f c28).trans ((if_f c29).trans ((if_f c30).trans ((if_f c32).trans ((if_f c33).trans ((if_f c34).trans ((if_f c35).trans ((if_f c36).trans ((if_f c37).trans ((if_f c38).trans ((if_f c39).trans ((if_f c40).trans ((if_f c41).trans ((if_f c42).trans ((if_f c44).trans ((if_t c45).trans (if_f c46)))))))))))))))))))]; rfl
                                        · skip
                                          have c45p := c45
                                          try simp only [decide_eq_true_eq, decide_eq_false_iff_not, Bool.not_eq_true', Bool.not_eq_false', Bool.or_eq_true, Bool.and_eq_true, Bool.or_eq_false_iff, Bool.and_eq_false_iff, Int.not_lt, Int.not_le] at c45p
                                          refine G_skip ?_
                                          refine GQ_sub (.cons (k := 13) rfl (.nil _)) ?_
                                          refine GQ_block ?_
                                          refine GQ_then ?_
                                          refine G_seq ?_
                                          refine G_region ?_
                                          refine GL_step rfl (PS_move rfl) ?_
                                          refine GL_step rfl (PS_move rfl) ?_
                                          refine GL_step rfl (PS_neq_str rfl rfl) ?_
                                          refine GL_step rfl (PS_assign rfl) ?_
                                          refine GL_step rfl (PS_assign rfl) ?_
                                          refine GL_nil ?_
                                          refine GQ_sub (.cons (k := 4) rfl (.cons (k := 5) rfl (.nil _))) ?_
                                          refine GQ_then ?_
                                          refine G_ret ?_
                                          refine GQ_ret rfl (.tmp rfl (.tmp rfl .nil)) ?_
                                          intro w1 hS; refine ⟨?_, hS.toKeep⟩; have hw : Land.whoOf e b = e.who := if_f c2
                                          rw [show Land.tellR e b = Land.sayR (decide (b = e.actor)) (Land.whoOf e b) (Land.whomOf e b) (Land.called e.dir) (Lib.itoa e.n) e.thing e.text e.kind from if_f c1, hw, show Land.sayR (decide (b = e.actor)) e.who (Land.whomOf e b) (Land.called e.dir) (Lib.itoa e.n) e.thing e.text e.kind = _ from ((if_f c25).trans ((if_f c26).trans ((if_f c28).trans ((if_f c29).trans ((if_f c30).trans ((if_f c32).trans ((if_f c33).trans ((if_f c34).trans ((if_f c35).trans ((if_f c36).trans ((if_f c37).trans ((if_f c38).trans ((if_f c39).trans ((if_f c40).trans ((if_f c41).trans ((if_f c42).trans ((if_f c44).trans (if_f c45))))))))))))))))))]; rfl
theorem land_New_spec  (w : World) : Ret Tryd.prog 27 #[] w fun v w' => v = .agg Land.new.enc.toArray ∧ Keep w w' := by
  refine Ret_body [] [] Tryd.func27 rfl rfl rfl (St.start w []) ?_
  refine G_seq ?_
  refine G_region ?_
  refine GL_alloc rfl zv34 rfl (fun b1 => ?_)
  refine GL_nil ?_
  refine GQ_then ?_
  refine G_seq ?_
  refine G_region ?_
  refine GL_alloc rfl zv34 rfl (fun b2 => ?_)
  refine GL_nil ?_
  refine GQ_then ?_
  refine G_seq ?_
  refine G_seq ?_
  refine G_region ?_
  refine GL_step rfl (PS_buildA Tryd.underlying22 sz3 zv22 rfl (.cons (Lens.arr (n := 6) (i := 0) flI (by decide) (by decide)) rfl rfl rfl (.cons (Lens.arr (n := 6) (i := 1) flI (by decide) (by decide)) rfl rfl rfl (.cons (Lens.arr (n := 6) (i := 2) flI (by decide) (by decide)) rfl rfl rfl (.cons (Lens.arr (n := 6) (i := 3) flI (by decide) (by decide)) rfl rfl rfl (.cons (Lens.arr (n := 6) (i := 4) flI (by decide) (by decide)) rfl rfl rfl (.cons (Lens.arr (n := 6) (i := 5) flI (by decide) (by decide)) rfl rfl rfl .nil))))))) ?_
  refine GL_step rfl (PS_buildA Tryd.underlying23 sz4 zv23 rfl (.cons (Lens.arr (n := 6) (i := 5) flB (by decide) (by decide)) rfl rfl rfl .nil)) ?_
  refine GL_step rfl (PS_build pl25 zv25 rfl (.cons Room.l0 rfl rfl rfl (.cons Room.l2 rfl rfl rfl (.cons Room.l3 rfl rfl rfl .nil)))) ?_
  refine GL_step rfl (PS_buildA Tryd.underlying22 sz3 zv22 rfl (.cons (Lens.arr (n := 6) (i := 0) flI (by decide) (by decide)) rfl rfl rfl (.cons (Lens.arr (n := 6) (i := 1) flI (by decide) (by decide)) rfl rfl rfl (.cons (Lens.arr (n := 6) (i := 2) flI (by decide) (by decide)) rfl rfl rfl (.cons (Lens.arr (n := 6) (i := 3) flI (by decide) (by decide)) rfl rfl rfl (.cons (Lens.arr (n := 6) (i := 4) flI (by decide) (by decide)) rfl rfl rfl (.cons (Lens.arr (n := 6) (i := 5) flI (by decide) (by decide)) rfl rfl rfl .nil))))))) ?_
  refine GL_step rfl (PS_build pl25 zv25 rfl (.cons Room.l0 rfl rfl rfl (.cons Room.l2 rfl rfl rfl .nil))) ?_
  refine GL_step rfl (PS_buildA Tryd.underlying22 sz3 zv22 rfl (.cons (Lens.arr (n := 6) (i := 0) flI (by decide) (by decide)) rfl rfl rfl (.cons (Lens.arr (n := 6) (i := 1) flI (by decide) (by decide)) rfl rfl rfl (.cons (Lens.arr (n := 6) (i := 2) flI (by decide) (by decide)) rfl rfl rfl (.cons (Lens.arr (n := 6) (i := 3) flI (by decide) (by decide)) rfl rfl rfl (.cons (Lens.arr (n := 6) (i := 4) flI (by decide) (by decide)) rfl rfl rfl (.cons (Lens.arr (n := 6) (i := 5) flI (by decide) (by decide)) rfl rfl rfl .nil))))))) ?_
  refine GL_step rfl (PS_build pl25 zv25 rfl (.cons Room.l0 rfl rfl rfl (.cons Room.l2 rfl rfl rfl (.cons Room.l1 rfl rfl rfl .nil)))) ?_
  refine GL_step rfl (PS_buildA Tryd.underlying22 sz3 zv22 rfl (.cons (Lens.arr (n := 6) (i := 0) flI (by decide) (by decide)) rfl rfl rfl (.cons (Lens.arr (n := 6) (i := 1) flI (by decide) (by decide)) rfl rfl rfl (.cons (Lens.arr (n := 6) (i := 2) flI (by decide) (by decide)) rfl rfl rfl (.cons (Lens.arr (n := 6) (i := 3) flI (by decide) (by decide)) rfl rfl rfl (.cons (Lens.arr (n := 6) (i := 4) flI (by decide) (by decide)) rfl rfl rfl (.cons (Lens.arr (n := 6) (i := 5) flI (by decide) (by decide)) rfl rfl rfl .nil))))))) ?_
  refine GL_step rfl (PS_build pl25 zv25 rfl (.cons Room.l0 rfl rfl rfl (.cons Room.l2 rfl rfl rfl (.cons Room.l1 rfl rfl rfl .nil)))) ?_
  refine GL_step rfl (PS_buildA Tryd.underlying22 sz3 zv22 rfl (.cons (Lens.arr (n := 6) (i := 0) flI (by decide) (by decide)) rfl rfl rfl (.cons (Lens.arr (n := 6) (i := 1) flI (by decide) (by decide)) rfl rfl rfl (.cons (Lens.arr (n := 6) (i := 2) flI (by decide) (by decide)) rfl rfl rfl (.cons (Lens.arr (n := 6) (i := 3) flI (by decide) (by decide)) rfl rfl rfl (.cons (Lens.arr (n := 6) (i := 4) flI (by decide) (by decide)) rfl rfl rfl (.cons (Lens.arr (n := 6) (i := 5) flI (by decide) (by decide)) rfl rfl rfl .nil))))))) ?_
  refine GL_step rfl (PS_buildA Tryd.underlying23 sz4 zv23 rfl (.cons (Lens.arr (n := 6) (i := 2) flB (by decide) (by decide)) rfl rfl rfl .nil)) ?_
  refine GL_step rfl (PS_build pl25 zv25 rfl (.cons Room.l0 rfl rfl rfl (.cons Room.l2 rfl rfl rfl (.cons Room.l3 rfl rfl rfl (.cons Room.l1 rfl rfl rfl .nil))))) ?_
  refine GL_step rfl (PS_buildA Tryd.underlying22 sz3 zv22 rfl (.cons (Lens.arr (n := 6) (i := 0) flI (by decide) (by decide)) rfl rfl rfl (.cons (Lens.arr (n := 6) (i := 1) flI (by decide) (by decide)) rfl rfl rfl (.cons (Lens.arr (n := 6) (i := 2) flI (by decide) (by decide)) rfl rfl rfl (.cons (Lens.arr (n := 6) (i := 3) flI (by decide) (by decide)) rfl rfl rfl (.cons (Lens.arr (n := 6) (i := 4) flI (by decide) (by decide)) rfl rfl rfl (.cons (Lens.arr (n := 6) (i := 5) flI (by decide) (by decide)) rfl rfl rfl .nil))))))) ?_
  refine GL_step rfl (PS_build pl25 zv25 rfl (.cons Room.l0 rfl rfl rfl (.cons Room.l2 rfl rfl rfl .nil))) ?_
  refine GL_bs (cs := encA (n := 6) Room.enc (Vector.replicate 6 default)) (cs' := encA (n := 6) Room.enc Land.roomsV) rfl Tryd.underlying68 sz25 zv25 (by decide) (by decide) (by kernel_rfl) (.cons (Lens.arr (n := 6) (i := 0) Room.fl (by decide) (by decide)) rfl rfl rfl (.cons (Lens.arr (n := 6) (i := 1) Room.fl (by decide) (by decide)) rfl rfl rfl (.cons (Lens.arr (n := 6) (i := 2) Room.fl (by decide) (by decide)) rfl rfl rfl (.cons (Lens.arr (n := 6) (i := 3) Room.fl (by decide) (by decide)) rfl rfl rfl (.cons (Lens.arr (n := 6) (i := 4) Room.fl (by decide) (by decide)) rfl rfl rfl (.cons (Lens.arr (n := 6) (i := 5) Room.fl (by decide) (by decide)) rfl rfl rfl .nil)))))) ((flA Room.fl).len _) (fun b3 => ?_)
  refine GL_step rfl (PS_len_slice rfl Tryd.underlying68 rfl) ?_
  refine GL_step rfl (PS_move rfl) ?_
  refine GL_nil ?_
  refine GQ_sub (.cons (k := 0) rfl (.cons (k := 1) rfl (.cons (k := 20) rfl (.cons (k := 21) rfl (.cons (k := 22) rfl (.nil _)))))) ?_
  refine GQ_then ?_
  refine G_block ?_
  refine G_subF (.cons (k := 22) rfl (.cons (k := 0) rfl (.cons (k := 1) rfl (.cons (k := 20) rfl (.cons (k := 21) rfl (.nil _)))))) ?_
  refine G_pull (.tail .head) ?_
  refine G_loop1_ (fun (k : Int) => 0 ≤ k ∧ k ≤ 6) (fun (k : Int) => (6 - k).toNat) (fun (k : Int) => [(22, .int .i64 k)]) (fun (k : Int) => [Res.box b2 34 (Land.enc (Land.newA k.toNat))]) (0) ?_ rfl rfl (fun k hI1 => ?_)
  · exact ⟨Int.le_refl _, by omega⟩
  obtain ⟨hI11, hI12⟩ := hI1
  refine G_seq ?_
  refine G_region ?_
  refine GL_step rfl (PS_lss rfl rfl) ?_
  refine GL_nil ?_
  refine GQ_then ?_
  refine G_seq ?_
  refine G_cond rfl (fun c1 => ?_) (fun c1 => ?_)
  · skip
    have c1p := c1
    try simp only [decide_eq_true_eq, decide_eq_false_iff_not, Bool.not_eq_true', Bool.not_eq_false', Bool.or_eq_true, Bool.and_eq_true, Bool.or_eq_false_iff, Bool.and_eq_false_iff, Int.not_lt, Int.not_le] at c1p
    refine G_skip ?_
    refine GQ_sub (.cons (k := 0) rfl (.cons (k := 1) rfl (.cons (k := 20) rfl (.cons (k := 21) rfl (.cons (k := 22) rfl (.nil _)))))) ?_
    refine GQ_then ?_
    refine G_seq ?_
    refine G_block ?_
    refine G_seq ?_
    refine G_region ?_
    refine GL_step rfl (PS_move rfl) ?_
    refine GL_step rfl (PS_idxS is68 (by decide) (Kn.own (.tail _ (.head _))) rfl rfl (by omega) (by dsimp only; omega)) ?_
    refine GL_step rfl (PS_ldG rfl tya25 (by decide) Room.fl (Kn.own (.tail _ (.head _))) (by simp; omega)) ?_
    refine GL_alloc rfl zv25 rfl (fun b4 => ?_)
    refine GL_step rfl (PS_assign rfl) ?_
    refine GL_unit (PU_store (Lens.id Room.fl.len Room.fl.one) rfl rfl rfl sz25 rfl .head) ?_
    refine GL_nil ?_
    refine GQ_sub (.cons (k := 0) rfl (.cons (k := 1) rfl (.cons (k := 2) rfl (.cons (k := 3) rfl (.cons (k := 20) rfl (.cons (k := 21) rfl (.cons (k := 22) rfl (.nil _)))))))) ?_
    refine GQ_then ?_
    refine G_region ?_
    refine GL_step rfl (PS_move rfl) ?_
    refine GL_step rfl (PS_loadA rfl tya25 (.head _) (Lens.id Room.fl.len Room.fl.one) rfl) ?_
    refine GL_step rfl (PS_fieldAddr fa34_0 rfl) ?_
    refine GL_step rfl (PS_indexAddr ia26 rfl rfl (by omega) (by omega)) ?_
    refine GL_unit (PU_store (Land.l0.comp (Lens.arr (n := 6) Room.fl (by omega) (by omega))) rfl rfl rfl sz25 rfl (.tail .head)) ?_
    refine GL_nil ?_
    refine GQ_sub (.cons (k := 0) rfl (.cons (k := 1) rfl (.cons (k := 20) rfl (.cons (k := 21) rfl (.cons (k := 22) rfl (.nil _)))))) ?_
    refine GQ_block ?_
    refine GQ_then ?_
    refine G_region ?_
    refine GL_step rfl (PS_add rfl rfl (IntWalk.i64_in _ (by omega))) ?_
    refine GL_step rfl (PS_move rfl) ?_
    refine GL_nil ?_
    refine GQ_sub (.cons (k := 0) rfl (.cons (k := 1) rfl (.cons (k := 20) rfl (.cons (k := 21) rfl (.cons (k := 22) rfl (.nil _)))))) ?_
    refine GQ_next1_ (k + 1) ?_ ?_ (.cons (k := 22) rfl (.cons (k := 0) rfl (.cons (k := 1) rfl (.cons (k := 20) rfl (.cons (k := 21) rfl (.nil _)))))) (by rw [Land.newA_step (by omega)]; exact (.cons _ (.refl _)))
    · exact ⟨by omega, by omega⟩
    · omega
  · skip
    have c1p := c1
    try simp only [decide_eq_true_eq, decide_eq_false_iff_not, Bool.not_eq_true', Bool.not_eq_false', Bool.or_eq_true, Bool.and_eq_true, Bool.or_eq_false_iff, Bool.and_eq_false_iff, Int.not_lt, Int.not_le] at c1p
    obtain rfl : k = 6 := by omega
    refine G_exit ?_
    refine GQ_then_exit ?_
    refine GQ_then_exit ?_
    refine GQ_block_exit ?_
    refine GQ_sub (.cons (k := 0) rfl (.cons (k := 1) rfl (.nil _))) ?_
    refine GQ_then ?_
    refine G_seq ?_
    refine G_seq ?_
    refine G_region ?_
    refine GL_step rfl (PS_build pl28 zv28 rfl (.cons Thing.l0 rfl rfl rfl (.cons Thing.l1 rfl rfl rfl .nil))) ?_
    refine GL_step rfl (PS_build pl28 zv28 rfl (.cons Thing.l0 rfl rfl rfl (.cons Thing.l1 rfl rfl rfl (.cons Thing.l3 rfl rfl rfl .nil)))) ?_
    refine GL_step rfl (PS_build pl28 zv28 rfl (.cons Thing.l0 rfl rfl rfl (.cons Thing.l1 rfl rfl rfl .nil))) ?_
    refine GL_step rfl (PS_build pl28 zv28 rfl (.cons Thing.l0 rfl rfl rfl (.cons Thing.l1 rfl rfl rfl (.cons Thing.l3 rfl rfl rfl .nil)))) ?_
    refine GL_step rfl (PS_build pl28 zv28 rfl (.cons Thing.l0 rfl rfl rfl (.cons Thing.l2 rfl rfl rfl (.cons Thing.l3 rfl rfl rfl .nil)))) ?_
    refine GL_step rfl (PS_build pl28 zv28 rfl (.cons Thing.l0 rfl rfl rfl (.cons Thing.l3 rfl rfl rfl .nil))) ?_
    refine GL_step rfl (PS_build pl28 zv28 rfl (.cons Thing.l0 rfl rfl rfl .nil)) ?_
    refine GL_step rfl (PS_build pl28 zv28 rfl (.cons Thing.l0 rfl rfl rfl (.cons Thing.l1 rfl rfl rfl (.cons Thing.l4 rfl rfl rfl .nil)))) ?_
    refine GL_step rfl (PS_build pl28 zv28 rfl (.cons Thing.l0 rfl rfl rfl (.cons Thing.l2 rfl rfl rfl (.cons Thing.l3 rfl rfl rfl .nil)))) ?_
    refine GL_bs (cs := encA (n := 9) Thing.enc (Vector.replicate 9 default)) (cs' := encA (n := 9) Thing.enc Land.thingsV) rfl Tryd.underlying69 sz28 zv28 (by decide) (by decide) (by kernel_rfl) (.cons (Lens.arr (n := 9) (i := 0) Thing.fl (by decide) (by decide)) rfl rfl rfl (.cons (Lens.arr (n := 9) (i := 1) Thing.fl (by decide) (by decide)) rfl rfl rfl (.cons (Lens.arr (n := 9) (i := 2) Thing.fl (by decide) (by decide)) rfl rfl rfl (.cons (Lens.arr (n := 9) (i := 3) Thing.fl (by decide) (by decide)) rfl rfl rfl (.cons (Lens.arr (n := 9) (i := 4) Thing.fl (by decide) (by decide)) rfl rfl rfl (.cons (Lens.arr (n := 9) (i := 5) Thing.fl (by decide) (by decide)) rfl rfl rfl (.cons (Lens.arr (n := 9) (i := 6) Thing.fl (by decide) (by decide)) rfl rfl rfl (.cons (Lens.arr (n := 9) (i := 7) Thing.fl (by decide) (by decide)) rfl rfl rfl (.cons (Lens.arr (n := 9) (i := 8) Thing.fl (by decide) (by decide)) rfl rfl rfl .nil))))))))) ((flA Thing.fl).len _) (fun b5 => ?_)
    refine GL_step rfl (PS_len_slice rfl Tryd.underlying69 rfl) ?_
    refine GL_step rfl (PS_move rfl) ?_
    refine GL_nil ?_
    refine GQ_sub (.cons (k := 0) rfl (.cons (k := 1) rfl (.cons (k := 41) rfl (.cons (k := 42) rfl (.cons (k := 43) rfl (.nil _)))))) ?_
    refine GQ_then ?_
    refine G_block ?_
    refine G_subF (.cons (k := 43) rfl (.cons (k := 0) rfl (.cons (k := 1) rfl (.cons (k := 41) rfl (.cons (k := 42) rfl (.nil _)))))) ?_
    refine G_pull (.tail .head) ?_
    refine G_loop1_ (fun (k : Int) => 0 ≤ k ∧ k ≤ 9) (fun (k : Int) => (9 - k).toNat) (fun (k : Int) => [(43, .int .i64 k)]) (fun (k : Int) => [Res.box b2 34 (Land.enc (Land.newB k.toNat))]) (0) ?_ rfl rfl (fun k hI2 => ?_)
    · exact ⟨Int.le_refl _, by omega⟩
    obtain ⟨hI21, hI22⟩ := hI2
    refine G_seq ?_
    refine G_region ?_
    refine GL_step rfl (PS_lss rfl rfl) ?_
    refine GL_nil ?_
    refine GQ_then ?_
    refine G_seq ?_
    refine G_cond rfl (fun c2 => ?_) (fun c2 => ?_)
    · skip
      have c2p := c2
      try simp only [decide_eq_true_eq, decide_eq_false_iff_not, Bool.not_eq_true', Bool.not_eq_false', Bool.or_eq_true, Bool.and_eq_true, Bool.or_eq_false_iff, Bool.and_eq_false_iff, Int.not_lt, Int.not_le] at c2p
      refine G_skip ?_
      refine GQ_sub (.cons (k := 0) rfl (.cons (k := 1) rfl (.cons (k := 41) rfl (.cons (k := 42) rfl (.cons (k := 43) rfl (.nil _)))))) ?_
      refine GQ_then ?_
      refine G_seq ?_
      refine G_block ?_
      refine G_seq ?_
      refine G_region ?_
      refine GL_step rfl (PS_move rfl) ?_
      refine GL_step rfl (PS_idxS is69 (by decide) (Kn.own (.tail _ (.head _))) rfl rfl (by omega) (by dsimp only; omega)) ?_
      refine GL_step rfl (PS_ldG rfl tya28 (by decide) Thing.fl (Kn.own (.tail _ (.head _))) (by simp; omega)) ?_
      refine GL_alloc rfl zv28 rfl (fun b6 => ?_)
      refine GL_step rfl (PS_assign rfl) ?_
      refine GL_unit (PU_store (Lens.id Thing.fl.len Thing.fl.one) rfl rfl rfl sz28 rfl .head) ?_
      refine GL_nil ?_
      refine GQ_sub (.cons (k := 0) rfl (.cons (k := 1) rfl (.cons (k := 4) rfl (.cons (k := 5) rfl (.cons (k := 41) rfl (.cons (k := 42) rfl (.cons (k := 43) rfl (.nil _)))))))) ?_
      refine GQ_then ?_
      refine G_region ?_
      refine GL_step rfl (PS_move rfl) ?_
      refine GL_step rfl (PS_loadA rfl tya28 (.head _) (Lens.id Thing.fl.len Thing.fl.one) rfl) ?_
      refine GL_step rfl (PS_fieldAddr fa34_1 rfl) ?_
      refine GL_step rfl (PS_indexAddr ia29 rfl rfl (by omega) (by omega)) ?_
      refine GL_unit (PU_store (Land.l1.comp (Lens.arr (n := 9) Thing.fl (by omega) (by omega))) rfl rfl rfl sz28 rfl (.tail .head)) ?_
      refine GL_nil ?_
      refine GQ_sub (.cons (k := 0) rfl (.cons (k := 1) rfl (.cons (k := 41) rfl (.cons (k := 42) rfl (.cons (k := 43) rfl (.nil _)))))) ?_
      refine GQ_block ?_
      refine GQ_then ?_
      refine G_region ?_
      refine GL_step rfl (PS_add rfl rfl (IntWalk.i64_in _ (by omega))) ?_
      refine GL_step rfl (PS_move rfl) ?_
      refine GL_nil ?_
      refine GQ_sub (.cons (k := 0) rfl (.cons (k := 1) rfl (.cons (k := 41) rfl (.cons (k := 42) rfl (.cons (k := 43) rfl (.nil _)))))) ?_
      refine GQ_next1_ (k + 1) ?_ ?_ (.cons (k := 43) rfl (.cons (k := 0) rfl (.cons (k := 1) rfl (.cons (k := 41) rfl (.cons (k := 42) rfl (.nil _)))))) (by rw [Land.newB_step (by omega)]; exact (.cons _ (.refl _)))
      · exact ⟨by omega, by omega⟩
      · omega
    · skip
      have c2p := c2
      try simp only [decide_eq_true_eq, decide_eq_false_iff_not, Bool.not_eq_true', Bool.not_eq_false', Bool.or_eq_true, Bool.and_eq_true, Bool.or_eq_false_iff, Bool.and_eq_false_iff, Int.not_lt, Int.not_le] at c2p
      obtain rfl : k = 9 := by omega
      refine G_exit ?_
      refine GQ_then_exit ?_
      refine GQ_then_exit ?_
      refine GQ_block_exit ?_
      refine GQ_sub (.cons (k := 0) rfl (.cons (k := 1) rfl (.nil _))) ?_
      refine GQ_then ?_
      refine G_seq ?_
      refine G_region ?_
      refine GL_step rfl (PS_build pl31 zv31 rfl (.cons Being.l0 rfl rfl rfl (.cons Being.l1 rfl rfl rfl (.cons Being.l2 rfl rfl rfl (.cons Being.l4 rfl rfl rfl .nil))))) ?_
      refine GL_step rfl (PS_fieldAddr fa34_2 rfl) ?_
      refine GL_step rfl (PS_indexAddr ia32 rfl rfl (by decide) (by decide)) ?_
      refine GL_unit (PU_store (Land.l2.comp (Lens.arr (n := 6) Being.fl (by decide) (by decide))) rfl rfl rfl sz31 rfl .head) ?_
      refine GL_nil ?_
      refine GQ_sub (.cons (k := 0) rfl (.cons (k := 1) rfl (.nil _))) ?_
      refine GQ_then ?_
      refine G_seq ?_
      refine G_region ?_
      refine GL_step rfl (PS_build pl31 zv31 rfl (.cons Being.l0 rfl rfl rfl (.cons Being.l1 rfl rfl rfl (.cons Being.l3 rfl rfl rfl (.cons Being.l4 rfl rfl rfl .nil))))) ?_
      refine GL_step rfl (PS_fieldAddr fa34_2 rfl) ?_
      refine GL_step rfl (PS_indexAddr ia32 rfl rfl (by decide) (by decide)) ?_
      refine GL_unit (PU_store (Land.l2.comp (Lens.arr (n := 6) Being.fl (by decide) (by decide))) rfl rfl rfl sz31 rfl .head) ?_
      refine GL_nil ?_
      refine GQ_sub (.cons (k := 0) rfl (.cons (k := 1) rfl (.nil _))) ?_
      refine GQ_then ?_
      refine G_seq ?_
      refine G_region ?_
      refine GL_step rfl (PS_loadA rfl tya34 (.head _) (Lens.id Land.fl.len Land.fl.one) rfl) ?_
      refine GL_unit (PU_store (Lens.id Land.fl.len Land.fl.one) rfl rfl rfl sz34 rfl (.tail (.tail (.tail .head)))) ?_
      refine GL_nil ?_
      refine GQ_sub (.cons (k := 0) rfl (.nil _)) ?_
      refine GQ_then ?_
      refine G_ret ?_
      refine GQ_ret rfl (.cell rfl (.tail _ (.tail _ (.tail _ (.head _)))) (.inl ⟨(by rw [Land.fl.len]; exact tya34), rfl⟩) .nil) ?_
      intro w1 hS; refine ⟨?_, hS.toKeep⟩; rfl
theorem sense_being_spec (X : Land) (b : Int) (w : World) : Ret Tryd.prog 24 #[.agg X.enc.toArray, .int .i64 b] w fun v w' => v = .bool (X.being b) ∧ Keep w w' := by
  refine Ret_body [] [] Tryd.func24 rfl rfl rfl (St.start w []) ?_
  refine G_seq ?_
  refine G_region ?_
  refine GL_box rfl rfl rfl (fun b1 => ?_)
  refine GL_step rfl (PS_assign rfl) ?_
  refine GL_nil ?_
  refine GQ_sub (.cons (k := 1) rfl (.cons (k := 2) rfl (.nil _))) ?_
  refine GQ_then ?_
  refine G_seq ?_
  refine G_region ?_
  refine GL_step rfl (PS_move rfl) ?_
  refine GL_step rfl (PS_geq rfl rfl) ?_
  refine GL_step rfl (PS_move rfl) ?_
  refine GL_gt (t := 7) rfl rfl rfl (fun q => PS_move rfl) ?_
  refine GL_gt (t := 7) rfl rfl rfl (fun q => PS_lss (cvE rfl q) rfl) ?_
  refine GL_step rfl (PS_and rfl rfl (fun h => h)) ?_
  refine GL_step rfl (PS_move rfl) ?_
  refine GL_gt (t := 11) rfl rfl rfl (fun q => PS_move rfl) ?_
  refine GL_gt (t := 11) rfl rfl rfl (fun q => PS_fieldAddr fa34_2 rfl) ?_
  refine GL_gt (t := 11) rfl rfl rfl (fun q => by have q1 := q; (try simp at q1); exact PS_indexAddr ia32 (cvE rfl q) (cvE rfl q) (by omega) (by omega)) ?_
  refine GL_gt (t := 11) rfl rfl rfl (fun q => PS_fieldAddr fa31_1 (cvE rfl q)) ?_
  refine GL_gt (t := 11) rfl rfl rfl (fun q => by have q1 := q; (try simp at q1); exact PS_load (cvE rfl q) tys4 (.head _) ((Land.l2.comp (Lens.arr (n := 6) Being.fl (by omega) (by omega))).comp Being.l1) rfl rfl) ?_
  refine GL_step rfl (PS_and rfl rfl (fun h => h)) ?_
  refine GL_step rfl (PS_assign rfl) ?_
  refine GL_nil ?_
  refine GQ_sub (.cons (k := 4) rfl (.nil _)) ?_
  refine GQ_then ?_
  refine G_ret ?_
  refine GQ_ret rfl (.tmp rfl .nil) ?_
  intro w1 hS; refine ⟨?_, hS.toKeep⟩; rfl
theorem land_Room_spec (X : Land) (i : Int) (w : World) : Ret Tryd.prog 22 #[.agg X.enc.toArray, .int .i64 i] w fun v w' => v = .tuple #[.int .i64 (X.room i).1, .bool (X.room i).2] ∧ Keep w w' := by
  refine Ret_body [] [] Tryd.func22 rfl rfl rfl (St.start w []) ?_
  refine G_seq ?_
  refine G_region ?_
  refine GL_box rfl rfl rfl (fun b1 => ?_)
  refine GL_step rfl (PS_assign rfl) ?_
  refine GL_step rfl (PS_assign rfl) ?_
  refine GL_nil ?_
  refine GQ_sub (.cons (k := 1) rfl (.cons (k := 2) rfl (.nil _))) ?_
  refine GQ_then ?_
  refine G_seq ?_
  refine G_region ?_
  refine GL_step rfl (PS_assign rfl) ?_
  refine GL_nil ?_
  refine GQ_then ?_
  refine G_seq ?_
  refine G_seq ?_
  refine G_region ?_
  refine GL_step rfl (PS_move rfl) ?_
  refine GL_nil ?_
  refine GQ_then ?_
  refine G_block ?_
  refine G_subF (.cons (k := 1) rfl (.cons (k := 6) rfl (.cons (k := 8) rfl (.cons (k := 2) rfl (.nil _))))) ?_
  refine G_loop3_ (fun (k : Int) (j : Int) (o : Bool) => 0 ≤ k ∧ k ≤ 10 ∧ X.room i = X.roomFrom (10 - k).toNat j o) (fun (k : Int) (j : Int) (o : Bool) => (10 - k).toNat) (fun (k : Int) (j : Int) (o : Bool) => [(1, .int .i64 j), (6, .bool o), (8, .int .i64 k)]) (fun (k : Int) (j : Int) (o : Bool) => []) (0) (i) (true) ?_ rfl rfl (fun k j o hI1 => ?_)
  · exact ⟨Int.le_refl _, by omega, rfl⟩
  obtain ⟨hI11, hI12, hI13⟩ := hI1
  refine G_seq ?_
  refine G_region ?_
  refine GL_step rfl (PS_lss rfl rfl) ?_
  refine GL_nil ?_
  refine GQ_then ?_
  refine G_seq ?_
  refine G_cond rfl (fun c1 => ?_) (fun c1 => ?_)
  · skip
    have c1p := c1
    try simp only [decide_eq_true_eq, decide_eq_false_iff_not, Bool.not_eq_true', Bool.not_eq_false', Bool.or_eq_true, Bool.and_eq_true, Bool.or_eq_false_iff, Bool.and_eq_false_iff, Int.not_lt, Int.not_le] at c1p
    rw [show (10 - k).toNat = (10 - (k + 1)).toNat + 1 from by omega, Land.roomFrom] at hI13
    refine G_skip ?_
    refine GQ_sub (.cons (k := 1) rfl (.cons (k := 2) rfl (.cons (k := 6) rfl (.cons (k := 8) rfl (.nil _))))) ?_
    refine GQ_then ?_
    refine G_seq ?_
    refine G_block ?_
    refine G_seq ?_
    refine G_seq ?_
    refine G_region ?_
    refine GL_step rfl (PS_move rfl) ?_
    refine GL_step rfl (PS_lss rfl rfl) ?_
    refine GL_step rfl (PS_move rfl) ?_
    refine GL_gf (t := 12) rfl rfl rfl (fun q => PS_move rfl) ?_
    refine GL_gf (t := 12) rfl rfl rfl (fun q => PS_geq (cvE rfl (by rw [q]; rfl)) rfl) ?_
    refine GL_step rfl (PS_or rfl rfl (fun h => by rw [h]; rfl)) ?_
    refine GL_nil ?_
    refine GQ_sub (.cons (k := 1) rfl (.cons (k := 2) rfl (.cons (k := 6) rfl (.cons (k := 8) rfl (.cons (k := 15) rfl (.nil _)))))) ?_
    refine GQ_then ?_
    refine G_cond rfl (fun c2 => ?_) (fun c2 => ?_)
    · skip
      have c2p := c2
      try simp only [decide_eq_true_eq, decide_eq_false_iff_not, Bool.not_eq_true', Bool.not_eq_false', Bool.or_eq_true, Bool.and_eq_true, Bool.or_eq_false_iff, Bool.and_eq_false_iff, Int.not_lt, Int.not_le] at c2p
      refine G_seq ?_
      refine G_region ?_
      refine GL_step rfl (PS_assign rfl) ?_
      refine GL_step rfl (PS_assign rfl) ?_
      refine GL_nil ?_
      refine GQ_sub (.cons (k := 4) rfl (.cons (k := 5) rfl (.nil _))) ?_
      refine GQ_then ?_
      refine G_ret ?_
      refine GQ_then_ret ?_
      refine GQ_block_ret ?_
      refine GQ_then_ret ?_
      refine GQ_then_ret ?_
      refine GQ_block_ret ?_
      refine GQ_then_ret ?_
      refine GQ_ret rfl (.tmp rfl (.tmp rfl .nil)) ?_
      intro w1 hS; refine ⟨?_, hS.toKeep⟩; rw [hI13]; simp only [c1, c2, ↓reduceIte, Bool.false_eq_true]; rfl
    · skip
      have c2p := c2
      try simp only [decide_eq_true_eq, decide_eq_false_iff_not, Bool.not_eq_true', Bool.not_eq_false', Bool.or_eq_true, Bool.and_eq_true, Bool.or_eq_false_iff, Bool.and_eq_false_iff, Int.not_lt, Int.not_le] at c2p
      refine G_skip ?_
      refine GQ_sub (.cons (k := 1) rfl (.cons (k := 2) rfl (.cons (k := 6) rfl (.cons (k := 8) rfl (.nil _))))) ?_
      refine GQ_then ?_
      refine G_seq ?_
      refine G_region ?_
      refine GL_step rfl (PS_move rfl) ?_
      refine GL_step rfl (PS_fieldAddr fa34_1 rfl) ?_
      refine GL_step rfl (PS_indexAddr ia29 rfl rfl (by omega) (by omega)) ?_
      refine GL_step rfl (PS_loadA rfl tya28 (.head _) (Land.l1.comp (Lens.arr (n := 9) Thing.fl (by omega) (by omega))) rfl) ?_
      refine GL_alloc rfl zv28 rfl (fun b2 => ?_)
      refine GL_unit (PU_store (Lens.id Thing.fl.len Thing.fl.one) rfl rfl rfl sz28 rfl .head) ?_
      refine GL_nil ?_
      refine GQ_sub (.cons (k := 2) rfl (.cons (k := 6) rfl (.cons (k := 7) rfl (.cons (k := 8) rfl (.nil _))))) ?_
      refine GQ_then ?_
      refine G_seq ?_
      refine G_seq ?_
      refine G_region ?_
      refine GL_step rfl (PS_fieldAddr fa28_2 rfl) ?_
      refine GL_step rfl (PS_load rfl tys3 (.head _) Thing.l2 rfl rfl) ?_
      refine GL_nil ?_
      refine GQ_sub (.cons (k := 2) rfl (.cons (k := 6) rfl (.cons (k := 7) rfl (.cons (k := 8) rfl (.cons (k := 21) rfl (.nil _)))))) ?_
      refine GQ_then ?_
      refine G_block ?_
      refine G_seq ?_
      refine G_region ?_
      refine GL_step rfl (PS_eql rfl rfl) ?_
      refine GL_step rfl (PS_assign rfl) ?_
      refine GL_nil ?_
      refine GQ_sub (.cons (k := 2) rfl (.cons (k := 6) rfl (.cons (k := 7) rfl (.cons (k := 8) rfl (.cons (k := 21) rfl (.cons (k := 22) rfl (.nil _))))))) ?_
      refine GQ_then ?_
      refine G_cond rfl (fun c3 => ?_) (fun c3 => ?_)
      · skip
        have c3p := c3
        try simp only [decide_eq_true_eq, decide_eq_false_iff_not, Bool.not_eq_true', Bool.not_eq_false', Bool.or_eq_true, Bool.and_eq_true, Bool.or_eq_false_iff, Bool.and_eq_false_iff, Int.not_lt, Int.not_le] at c3p
        refine G_seq ?_
        refine G_region ?_
        refine GL_step rfl (PS_fieldAddr fa28_3 rfl) ?_
        refine GL_step rfl (PS_load rfl tys3 (.head _) Thing.l3 rfl rfl) ?_
        refine GL_step rfl (PS_move rfl) ?_
        refine GL_step rfl (PS_assign rfl) ?_
        refine GL_step rfl (PS_assign rfl) ?_
        refine GL_nil ?_
        refine GQ_sub (.cons (k := 4) rfl (.cons (k := 5) rfl (.nil _))) ?_
        refine GQ_then ?_
        refine G_ret ?_
        refine GQ_block_ret ?_
        refine GQ_then_ret ?_
        refine GQ_block_ret ?_
        refine GQ_then_ret ?_
        refine GQ_then_ret ?_
        refine GQ_block_ret ?_
        refine GQ_then_ret ?_
        refine GQ_ret rfl (.tmp rfl (.tmp rfl .nil)) ?_
        intro w1 hS; refine ⟨?_, hS.toKeep⟩; rw [hI13]; simp only [c1, c2, c3, ↓reduceIte, Bool.false_eq_true]; rfl
      · skip
        have c3p := c3
        try simp only [decide_eq_true_eq, decide_eq_false_iff_not, Bool.not_eq_true', Bool.not_eq_false', Bool.or_eq_true, Bool.and_eq_true, Bool.or_eq_false_iff, Bool.and_eq_false_iff, Int.not_lt, Int.not_le] at c3p
        refine G_seq ?_
        refine G_region ?_
        refine GL_step rfl (PS_eql rfl rfl) ?_
        refine GL_step rfl (PS_assign rfl) ?_
        refine GL_nil ?_
        refine GQ_sub (.cons (k := 2) rfl (.cons (k := 6) rfl (.cons (k := 7) rfl (.cons (k := 8) rfl (.cons (k := 21) rfl (.cons (k := 27) rfl (.nil _))))))) ?_
        refine GQ_then ?_
        refine G_cond rfl (fun c4 => ?_) (fun c4 => ?_)
        · skip
          have c4p := c4
          try simp only [decide_eq_true_eq, decide_eq_false_iff_not, Bool.not_eq_true', Bool.not_eq_false', Bool.or_eq_true, Bool.and_eq_true, Bool.or_eq_false_iff, Bool.and_eq_false_iff, Int.not_lt, Int.not_le] at c4p
          refine G_seq ?_
          refine G_seq ?_
          refine G_region ?_
          refine GL_step rfl (PS_fieldAddr fa28_3 rfl) ?_
          refine GL_step rfl (PS_load rfl tys3 (.head _) Thing.l3 rfl rfl) ?_
          refine GL_step rfl (PS_lss rfl rfl) ?_
          refine GL_step rfl (PS_move rfl) ?_
          refine GL_gf (t := 32) rfl rfl rfl (fun q => PS_fieldAddr fa28_3 rfl) ?_
          refine GL_gf (t := 32) rfl rfl rfl (fun q => PS_load (cvE rfl (by rw [q]; rfl)) tys3 (.head _) Thing.l3 rfl rfl) ?_
          refine GL_gf (t := 32) rfl rfl rfl (fun q => PS_geq (cvE rfl (by rw [q]; rfl)) rfl) ?_
          refine GL_step rfl (PS_or rfl rfl (fun h => by rw [h]; rfl)) ?_
          refine GL_nil ?_
          refine GQ_sub (.cons (k := 2) rfl (.cons (k := 6) rfl (.cons (k := 7) rfl (.cons (k := 36) rfl (.nil _))))) ?_
          refine GQ_then ?_
          refine G_cond rfl (fun c5 => ?_) (fun c5 => ?_)
          · skip
            have c5p := c5
            try simp only [decide_eq_true_eq, decide_eq_false_iff_not, Bool.not_eq_true', Bool.not_eq_false', Bool.or_eq_true, Bool.and_eq_true, Bool.or_eq_false_iff, Bool.and_eq_false_iff, Int.not_lt, Int.not_le] at c5p
            refine G_seq ?_
            refine G_region ?_
            refine GL_step rfl (PS_assign rfl) ?_
            refine GL_step rfl (PS_assign rfl) ?_
            refine GL_nil ?_
            refine GQ_sub (.cons (k := 4) rfl (.cons (k := 5) rfl (.nil _))) ?_
            refine GQ_then ?_
            refine G_ret ?_
            refine GQ_then_ret ?_
            refine GQ_block_ret ?_
            refine GQ_then_ret ?_
            refine GQ_block_ret ?_
            refine GQ_then_ret ?_
            refine GQ_then_ret ?_
            refine GQ_block_ret ?_
            refine GQ_then_ret ?_
            refine GQ_ret rfl (.tmp rfl (.tmp rfl .nil)) ?_
            intro w1 hS; refine ⟨?_, hS.toKeep⟩; rw [hI13]; simp only [c1, c2, c3, c4, c5, ↓reduceIte, Bool.false_eq_true]; rfl
          · skip
            have c5p := c5
            try simp only [decide_eq_true_eq, decide_eq_false_iff_not, Bool.not_eq_true', Bool.not_eq_false', Bool.or_eq_true, Bool.and_eq_true, Bool.or_eq_false_iff, Bool.and_eq_false_iff, Int.not_lt, Int.not_le] at c5p
            refine G_skip ?_
            refine GQ_sub (.cons (k := 2) rfl (.cons (k := 6) rfl (.cons (k := 7) rfl (.nil _)))) ?_
            refine GQ_then ?_
            refine G_seq ?_
            refine G_region ?_
            refine GL_step rfl (PS_fieldAddr fa28_3 rfl) ?_
            refine GL_step rfl (PS_load rfl tys3 (.head _) Thing.l3 rfl rfl) ?_
            refine GL_step rfl (PS_fieldAddr fa34_2 rfl) ?_
            refine GL_step rfl (PS_indexAddr ia32 rfl rfl (by omega) (by omega)) ?_
            refine GL_step rfl (PS_fieldAddr fa31_3 rfl) ?_
            refine GL_step rfl (PS_load rfl tys3 (.tail _ (.head _)) ((Land.l2.comp (Lens.arr (n := 6) Being.fl (by omega) (by omega))).comp Being.l3) rfl rfl) ?_
            refine GL_step rfl (PS_move rfl) ?_
            refine GL_step rfl (PS_assign rfl) ?_
            refine GL_step rfl (PS_assign rfl) ?_
            refine GL_nil ?_
            refine GQ_sub (.cons (k := 4) rfl (.cons (k := 5) rfl (.nil _))) ?_
            refine GQ_then ?_
            refine G_ret ?_
            refine GQ_block_ret ?_
            refine GQ_then_ret ?_
            refine GQ_block_ret ?_
            refine GQ_then_ret ?_
            refine GQ_then_ret ?_
            refine GQ_block_ret ?_
            refine GQ_then_ret ?_
            refine GQ_ret rfl (.tmp rfl (.tmp rfl .nil)) ?_
            intro w1 hS; refine ⟨?_, hS.toKeep⟩; rw [hI13]; simp only [c1, c2, c3, c4, c5, ↓reduceIte, Bool.false_eq_true]; rfl
        · skip
          have c4p := c4
          try simp only [decide_eq_true_eq, decide_eq_false_iff_not, Bool.not_eq_true', Bool.not_eq_false', Bool.or_eq_true, Bool.and_eq_true, Bool.or_eq_false_iff, Bool.and_eq_false_iff, Int.not_lt, Int.not_le] at c4p
          refine G_seq ?_
          refine G_region ?_
          refine GL_step rfl (PS_eql rfl rfl) ?_
          refine GL_step rfl (PS_assign rfl) ?_
          refine GL_nil ?_
          refine GQ_sub (.cons (k := 2) rfl (.cons (k := 6) rfl (.cons (k := 7) rfl (.cons (k := 8) rfl (.cons (k := 44) rfl (.nil _)))))) ?_
          refine GQ_then ?_
          refine G_cond rfl (fun c6 => ?_) (fun c6 => ?_)
          · skip
            have c6p := c6
            try simp only [decide_eq_true_eq, decide_eq_false_iff_not, Bool.not_eq_true', Bool.not_eq_false', Bool.or_eq_true, Bool.and_eq_true, Bool.or_eq_false_iff, Bool.and_eq_false_iff, Int.not_lt, Int.not_le] at c6p
            refine G_skip ?_
            refine GQ_sub (.cons (k := 2) rfl (.cons (k := 6) rfl (.cons (k := 7) rfl (.cons (k := 8) rfl (.nil _))))) ?_
            refine GQ_block ?_
            refine GQ_then ?_
            refine G_seq ?_
            refine G_region ?_
            refine GL_step rfl (PS_fieldAddr fa28_3 rfl) ?_
            refine GL_step rfl (PS_load rfl tys3 (.head _) Thing.l3 rfl rfl) ?_
            refine GL_step rfl (PS_assign rfl) ?_
            refine GL_nil ?_
            refine GQ_sub (.cons (k := 1) rfl (.cons (k := 2) rfl (.cons (k := 6) rfl (.cons (k := 8) rfl (.nil _))))) ?_
            refine GQ_then ?_
            refine G_seq ?_
            refine G_region ?_
            refine GL_step rfl (PS_move rfl) ?_
            refine GL_step rfl (PS_geq rfl rfl) ?_
            refine GL_step rfl (PS_move rfl) ?_
            refine GL_gt (t := 50) rfl rfl rfl (fun q => PS_move rfl) ?_
            refine GL_gt (t := 50) rfl rfl rfl (fun q => PS_lss (cvE rfl q) rfl) ?_
            refine GL_step rfl (PS_and rfl rfl (fun h => h)) ?_
            refine GL_step rfl (PS_move rfl) ?_
            refine GL_gt (t := 54) rfl rfl rfl (fun q => PS_move rfl) ?_
            refine GL_gt (t := 54) rfl rfl rfl (fun q => PS_fieldAddr fa34_1 rfl) ?_
            refine GL_gt (t := 54) rfl rfl rfl (fun q => by have q1 := q; (try simp at q1); exact PS_indexAddr ia29 (cvE rfl q) (cvE rfl q) (by omega) (by omega)) ?_
            refine GL_gt (t := 54) rfl rfl rfl (fun q => PS_fieldAddr fa28_4 (cvE rfl q)) ?_
            refine GL_gt (t := 54) rfl rfl rfl (fun q => by have q1 := q; (try simp at q1); exact PS_load (cvE rfl q) tys4 (.tail _ (.head _)) ((Land.l1.comp (Lens.arr (n := 9) Thing.fl (by omega) (by omega))).comp Thing.l4) rfl rfl) ?_
            refine GL_gt (t := 54) rfl rfl rfl (fun q => PS_not (cvE rfl q)) ?_
            refine GL_step rfl (PS_and rfl rfl (fun h => h)) ?_
            refine GL_nil ?_
            refine GQ_sub (.cons (k := 1) rfl (.cons (k := 2) rfl (.cons (k := 6) rfl (.cons (k := 8) rfl (.cons (k := 61) rfl (.nil _)))))) ?_
            refine GQ_then ?_
            refine G_cond rfl (fun c7 => ?_) (fun c7 => ?_)
            · skip
              have c7p := c7
              try simp only [decide_eq_true_eq, decide_eq_false_iff_not, Bool.not_eq_true', Bool.not_eq_false', Bool.or_eq_true, Bool.and_eq_true, Bool.or_eq_false_iff, Bool.and_eq_false_iff, Int.not_lt, Int.not_le] at c7p
              refine G_region ?_
              refine GL_step rfl (PS_assign rfl) ?_
              refine GL_nil ?_
              refine GQ_sub (.cons (k := 1) rfl (.cons (k := 2) rfl (.cons (k := 6) rfl (.cons (k := 8) rfl (.nil _))))) ?_
              refine GQ_block ?_
              refine GQ_then ?_
              refine G_region ?_
              refine GL_step rfl (PS_add rfl rfl (IntWalk.i64_in _ (by omega))) ?_
              refine GL_step rfl (PS_move rfl) ?_
              refine GL_nil ?_
              refine GQ_sub (.cons (k := 1) rfl (.cons (k := 2) rfl (.cons (k := 6) rfl (.cons (k := 8) rfl (.nil _))))) ?_
              refine GQ_next3_ (k + 1) ((X.things.at j).at_) (false) ?_ ?_ (.cons (k := 1) rfl (.cons (k := 6) rfl (.cons (k := 8) rfl (.cons (k := 2) rfl (.nil _))))) (.cons _ (.refl _))
              · exact ⟨by omega, by omega, by rw [hI13]; simp only [c1, c2, c3, c4, c6, c7, ↓reduceIte, Bool.false_eq_true]⟩
              · omega
            · skip
              have c7p := c7
              try simp only [decide_eq_true_eq, decide_eq_false_iff_not, Bool.not_eq_true', Bool.not_eq_false', Bool.or_eq_true, Bool.and_eq_true, Bool.or_eq_false_iff, Bool.and_eq_false_iff, Int.not_lt, Int.not_le] at c7p
              refine G_skip ?_
              refine GQ_sub (.cons (k := 1) rfl (.cons (k := 2) rfl (.cons (k := 6) rfl (.cons (k := 8) rfl (.nil _))))) ?_
              refine GQ_block ?_
              refine GQ_then ?_
              refine G_region ?_
              refine GL_step rfl (PS_add rfl rfl (IntWalk.i64_in _ (by omega))) ?_
              refine GL_step rfl (PS_move rfl) ?_
              refine GL_nil ?_
              refine GQ_sub (.cons (k := 1) rfl (.cons (k := 2) rfl (.cons (k := 6) rfl (.cons (k := 8) rfl (.nil _))))) ?_
              refine GQ_next3_ (k + 1) ((X.things.at j).at_) (o) ?_ ?_ (.cons (k := 1) rfl (.cons (k := 6) rfl (.cons (k := 8) rfl (.cons (k := 2) rfl (.nil _))))) (.cons _ (.refl _))
              · exact ⟨by omega, by omega, by rw [hI13]; simp only [c1, c2, c3, c4, c6, c7, ↓reduceIte, Bool.false_eq_true]⟩
              · omega
          · skip
            have c6p := c6
            try simp only [decide_eq_true_eq, decide_eq_false_iff_not, Bool.not_eq_true', Bool.not_eq_false', Bool.or_eq_true, Bool.and_eq_true, Bool.or_eq_false_iff, Bool.and_eq_false_iff, Int.not_lt, Int.not_le] at c6p
            refine G_seq ?_
            refine G_region ?_
            refine GL_step rfl (PS_assign rfl) ?_
            refine GL_step rfl (PS_assign rfl) ?_
            refine GL_nil ?_
            refine GQ_sub (.cons (k := 4) rfl (.cons (k := 5) rfl (.nil _))) ?_
            refine GQ_then ?_
            refine G_ret ?_
            refine GQ_block_ret ?_
            refine GQ_then_ret ?_
            refine GQ_block_ret ?_
            refine GQ_then_ret ?_
            refine GQ_then_ret ?_
            refine GQ_block_ret ?_
            refine GQ_then_ret ?_
            refine GQ_ret rfl (.tmp rfl (.tmp rfl .nil)) ?_
            intro w1 hS; refine ⟨?_, hS.toKeep⟩; rw [hI13]; simp only [c1, c2, c3, c4, c6, ↓reduceIte, Bool.false_eq_true]; rfl
  · skip
    have c1p := c1
    try simp only [decide_eq_true_eq, decide_eq_false_iff_not, Bool.not_eq_true', Bool.not_eq_false', Bool.or_eq_true, Bool.and_eq_true, Bool.or_eq_false_iff, Bool.and_eq_false_iff, Int.not_lt, Int.not_le] at c1p
    obtain rfl : k = 10 := by omega
    refine G_exit ?_
    refine GQ_then_exit ?_
    refine GQ_then_exit ?_
    refine GQ_block_exit ?_
    refine GQ_sub (.nil _) ?_
    refine GQ_then ?_
    refine G_seq ?_
    refine G_region ?_
    refine GL_step rfl (PS_assign rfl) ?_
    refine GL_step rfl (PS_assign rfl) ?_
    refine GL_nil ?_
    refine GQ_then ?_
    refine G_ret ?_
    refine GQ_ret rfl (.tmp rfl (.tmp rfl .nil)) ?_
    intro w1 hS; refine ⟨?_, hS.toKeep⟩; rw [hI13]; rfl
end Go.Proofs.YtclcdddimmelaaaDoor
