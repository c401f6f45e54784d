/- What the functions that the law SenseTells reaches compute: walks, part 1. No condition. -/
import Derived.Test.YtclcdddimmelaaaDoorCards
import Derived.Test.YtclcdddimmelaaaDoorTie
import Derived.Deep.DeepHandedRow
import Derived.Test.YtclcdddimmelaaaDoorRows
import Derived.Test.YtclcdddimmelaaaDoorEc3
import Derived.Test.YtclcdddimmelaaaDoorSenseTellsPlain
set_option linter.unusedSimpArgs false
set_option linter.unusedVariables false
set_option maxRecDepth 100000
namespace Go.Proofs.YtclcdddimmelaaaDoor
open Go Go.Ing Go.RowKit Go.ChangeShapes Go.WideShapes Go.ChangeAt
theorem sz54 : Sz Tryd.prog 54 1 := Sz_of (by kernel_rfl)
theorem fa57_0 : FA Tryd.prog 57 0 0 := FA_of Tryd.underlying57 rfl sz54
theorem tys54 : TyS Tryd.prog 54 := TyS_of Tryd.underlying54 rfl
theorem inf57 : ∃ i, Tryd.prog.info? 57 = some i ∧ i.size ≠ 0 := by
  have h : (Tryd.prog.info? 57).map (·.size) = some 2 := by kernel_rfl
  obtain ⟨i, h1, h2⟩ := Option.map_eq_some_iff.1 h
  exact ⟨i, h1, by omega⟩
theorem cf38 : CF Tryd.prog 38 := Tryd.call38
theorem sz55 : Sz Tryd.prog 55 1 := Sz_of (by kernel_rfl)
theorem fa57_1 : FA Tryd.prog 57 1 1 := FA_of Tryd.underlying57 rfl sz55
theorem tys55 : TyS Tryd.prog 55 := TyS_of Tryd.underlying55 rfl
theorem sz5 : Sz Tryd.prog 5 1 := Sz_of (by kernel_rfl)
theorem zv5 : ZV Tryd.prog 5 (.int .u8 0) := ZV_of (by kernel_rfl)
theorem by5 : BY Tryd.prog 5 1 := BY_of (by kernel_rfl)
theorem sz9 : Sz Tryd.prog 9 1 := Sz_of (by kernel_rfl)
theorem ia70 : IA Tryd.prog 70 21 1 := IA_of Tryd.underlying70 sz9
theorem tys9 : TyS Tryd.prog 9 := TyS_of Tryd.underlying9 rfl
theorem mix : Tryd.prog.follows .mixedOrders = true := by kernel_rfl
theorem ce5 : Tryd.prog.cellsOf 5 = 1 := by kernel_rfl
theorem sz22 : Sz Tryd.prog 22 6 := Sz_of (by kernel_rfl)
theorem fa36_10 : FA Tryd.prog 36 10 10 := FA_of Tryd.underlying36 rfl sz22
theorem sz3 : Sz Tryd.prog 3 1 := Sz_of (by kernel_rfl)
theorem ia22 : IA Tryd.prog 22 6 1 := IA_of Tryd.underlying22 sz3
theorem tys3 : TyS Tryd.prog 3 := TyS_of Tryd.underlying3 rfl
theorem fa36_0 : FA Tryd.prog 36 0 0 := FA_of Tryd.underlying36 rfl sz3
theorem cf28 : CF Tryd.prog 28 := Tryd.call28
theorem fa36_2 : FA Tryd.prog 36 2 2 := FA_of Tryd.underlying36 rfl sz3
theorem fa36_6 : FA Tryd.prog 36 6 6 := FA_of Tryd.underlying36 rfl sz9
theorem fa36_7 : FA Tryd.prog 36 7 7 := FA_of Tryd.underlying36 rfl sz9
theorem fa36_3 : FA Tryd.prog 36 3 3 := FA_of Tryd.underlying36 rfl sz3
theorem zv57 : ZV Tryd.prog 57 (.agg (BldV.enc ⟨none, ⟨none, 0, 0⟩⟩).toArray) := ZV_of (by kernel_rfl)
theorem cf29 : CF Tryd.prog 29 := Tryd.call29
theorem cf30 : CF Tryd.prog 30 := Tryd.call30
theorem fa36_8 : FA Tryd.prog 36 8 8 := FA_of Tryd.underlying36 rfl sz9
theorem fa36_4 : FA Tryd.prog 36 4 4 := FA_of Tryd.underlying36 rfl sz3
theorem cf31 : CF Tryd.prog 31 := Tryd.call31
theorem fa36_9 : FA Tryd.prog 36 9 9 := FA_of Tryd.underlying36 rfl sz9
theorem fa36_5 : FA Tryd.prog 36 5 5 := FA_of Tryd.underlying36 rfl sz3
theorem cf32 : CF Tryd.prog 32 := Tryd.call32
theorem cf33 : CF Tryd.prog 33 := Tryd.call33
theorem tys4 : TyS Tryd.prog 4 := TyS_of Tryd.underlying4 rfl
theorem zv9 : ZV Tryd.prog 9 (vstr []) := ZV_of (by kernel_rfl)
theorem cf34 : CF Tryd.prog 34 := Tryd.call34
theorem zv4 : ZV Tryd.prog 4 (.bool false) := ZV_of (by kernel_rfl)
theorem sz4 : Sz Tryd.prog 4 1 := Sz_of (by kernel_rfl)
theorem cf35 : CF Tryd.prog 35 := Tryd.call35
theorem cf36 : CF Tryd.prog 36 := Tryd.call36
theorem zv34 : ZV Tryd.prog 34 (.agg (Land.enc (default : Land)).toArray) := ZV_of (by kernel_rfl)
theorem zv22 : ZV Tryd.prog 22 (.agg (encA (n := 6) encI (Vector.replicate 6 default)).toArray) := ZV_of (by kernel_rfl)
theorem zv23 : ZV Tryd.prog 23 (.agg (encA (n := 6) encB (Vector.replicate 6 default)).toArray) := ZV_of (by kernel_rfl)
theorem sz23 : Sz Tryd.prog 23 6 := Sz_of (by kernel_rfl)
theorem pl25 : Places Tryd.prog 25 [(0, 1), (1, 1), (2, 6), (8, 6)] := ⟨_, Tryd.underlying25, fun w => by simp [sz9 w, sz4 w, sz22 w, sz23 w]⟩
theorem zv25 : ZV Tryd.prog 25 (.agg (Room.enc (default : Room)).toArray) := ZV_of (by kernel_rfl)
theorem sz25 : Sz Tryd.prog 25 14 := Sz_of (by kernel_rfl)
theorem is68 : IS Tryd.prog 68 14 := IS_of Tryd.underlying68 sz25
theorem tya25 : TyA Tryd.prog 25 14 := TyA_of Tryd.underlying25 rfl sz25
theorem sz26 : Sz Tryd.prog 26 84 := Sz_of (by kernel_rfl)
theorem fa34_0 : FA Tryd.prog 34 0 0 := FA_of Tryd.underlying34 rfl sz26
theorem ia26 : IA Tryd.prog 26 6 14 := IA_of Tryd.underlying26 sz25
theorem pl28 : Places Tryd.prog 28 [(0, 1), (1, 1), (2, 1), (3, 1), (4, 1)] := ⟨_, Tryd.underlying28, fun w => by simp [sz9 w, sz3 w, sz4 w]⟩
theorem zv28 : ZV Tryd.prog 28 (.agg (Thing.enc (default : Thing)).toArray) := ZV_of (by kernel_rfl)
theorem sz28 : Sz Tryd.prog 28 5 := Sz_of (by kernel_rfl)
theorem is69 : IS Tryd.prog 69 5 := IS_of Tryd.underlying69 sz28
theorem tya28 : TyA Tryd.prog 28 5 := TyA_of Tryd.underlying28 rfl sz28
theorem sz29 : Sz Tryd.prog 29 45 := Sz_of (by kernel_rfl)
theorem fa34_1 : FA Tryd.prog 34 1 84 := FA_of Tryd.underlying34 rfl sz29
theorem ia29 : IA Tryd.prog 29 9 5 := IA_of Tryd.underlying29 sz28
theorem pl31 : Places Tryd.prog 31 [(0, 1), (1, 1), (2, 1), (3, 1), (4, 1), (5, 1)] := ⟨_, Tryd.underlying31, fun w => by simp [sz9 w, sz4 w, sz3 w]⟩
theorem zv31 : ZV Tryd.prog 31 (.agg (Being.enc (default : Being)).toArray) := ZV_of (by kernel_rfl)
theorem sz32 : Sz Tryd.prog 32 36 := Sz_of (by kernel_rfl)
theorem fa34_2 : FA Tryd.prog 34 2 129 := FA_of Tryd.underlying34 rfl sz32
theorem sz31 : Sz Tryd.prog 31 6 := Sz_of (by kernel_rfl)
theorem ia32 : IA Tryd.prog 32 6 6 := IA_of Tryd.underlying32 sz31
theorem sz34 : Sz Tryd.prog 34 165 := Sz_of (by kernel_rfl)
theorem tya34 : TyA Tryd.prog 34 165 := TyA_of Tryd.underlying34 rfl sz34
theorem fa31_1 : FA Tryd.prog 31 1 1 := FA_of Tryd.underlying31 rfl sz4
theorem fa28_2 : FA Tryd.prog 28 2 2 := FA_of Tryd.underlying28 rfl sz3
theorem fa28_3 : FA Tryd.prog 28 3 3 := FA_of Tryd.underlying28 rfl sz3
theorem fa31_3 : FA Tryd.prog 31 3 3 := FA_of Tryd.underlying31 rfl sz3
theorem fa28_4 : FA Tryd.prog 28 4 4 := FA_of Tryd.underlying28 rfl sz4
theorem fa25_1 : FA Tryd.prog 25 1 1 := FA_of Tryd.underlying25 rfl sz4
theorem tya29 : TyA Tryd.prog 29 45 := TyA_of Tryd.underlying29 rfl sz29
theorem fa28_1 : FA Tryd.prog 28 1 1 := FA_of Tryd.underlying28 rfl sz3
theorem cf22 : CF Tryd.prog 22 := Tryd.call22
theorem cf24 : CF Tryd.prog 24 := Tryd.call24
theorem tya31 : TyA Tryd.prog 31 6 := TyA_of Tryd.underlying31 rfl sz31
theorem cf8 : CF Tryd.prog 8 := Tryd.call8
theorem fa31_2 : FA Tryd.prog 31 2 2 := FA_of Tryd.underlying31 rfl sz4
theorem cf10 : CF Tryd.prog 10 := Tryd.call10
theorem cf12 : CF Tryd.prog 12 := Tryd.call12
theorem fa36_1 : FA Tryd.prog 36 1 1 := FA_of Tryd.underlying36 rfl sz3
theorem cf26 : CF Tryd.prog 26 := Tryd.call26
theorem zv36 : ZV Tryd.prog 36 (.agg (Ing.Event.enc (default : Ing.Event)).toArray) := ZV_of (by kernel_rfl)
theorem sz36 : Sz Tryd.prog 36 16 := Sz_of (by kernel_rfl)
theorem tya36 : TyA Tryd.prog 36 16 := TyA_of Tryd.underlying36 rfl sz36
theorem cf14 : CF Tryd.prog 14 := Tryd.call14
theorem cf27 : CF Tryd.prog 27 := Tryd.call27
theorem pl36 : Places Tryd.prog 36 [(0, 1), (1, 1), (2, 1), (3, 1), (4, 1), (5, 1), (6, 1), (7, 1), (8, 1), (9, 1), (10, 6)] := ⟨_, Tryd.underlying36, fun w => by simp [sz3 w, sz9 w, sz22 w]⟩
theorem cf16 : CF Tryd.prog 16 := Tryd.call16
theorem cf19 : CF Tryd.prog 19 := Tryd.call19
theorem cf20 : CF Tryd.prog 20 := Tryd.call20
theorem cf18 : CF Tryd.prog 18 := Tryd.call18
theorem sense_form_spec (z : Int) (w : World) : Ret Tryd.prog 28 #[.int .i64 z] w fun v w' => v = .tuple #[vstr (Land.form z).1, vstr (Land.form z).2] ∧ Keep w w' := by
  refine Ret_body [] [] Tryd.func28 rfl rfl rfl (St.start w []) ?_
  refine G_seq ?_
  refine G_region ?_
  refine GL_step rfl (PS_assign rfl) ?_
  refine GL_step rfl (PS_assign rfl) ?_
  refine GL_nil ?_
  refine GQ_sub (.cons (k := 0) rfl (.nil _)) ?_
  refine GQ_then ?_
  refine G_seq ?_
  refine G_seq ?_
  refine G_region ?_
  refine GL_step rfl (PS_move rfl) ?_
  refine GL_nil ?_
  refine GQ_sub (.cons (k := 4) rfl (.nil _)) ?_
  refine GQ_then ?_
  refine G_block ?_
  refine G_seq ?_
  refine G_region ?_
  refine GL_step rfl (PS_eql rfl rfl) ?_
  refine GL_step rfl (PS_assign rfl) ?_
  refine GL_nil ?_
  refine GQ_sub (.cons (k := 4) rfl (.cons (k := 5) rfl (.nil _))) ?_
  refine GQ_then ?_
  refine G_cond rfl (fun c1 => ?_) (fun c1 => ?_)
  · skip
    have c1p := c1
    try simp only [decide_eq_true_eq, decide_eq_false_iff_not, Bool.not_eq_true', Bool.not_eq_false', Bool.or_eq_true, Bool.and_eq_true, Bool.or_eq_false_iff, Bool.and_eq_false_iff, Int.not_lt, Int.not_le] at c1p
    refine G_seq ?_
    refine G_region ?_
    refine GL_step rfl (PS_assign rfl) ?_
    refine GL_step rfl (PS_assign rfl) ?_
    refine GL_nil ?_
    refine GQ_sub (.cons (k := 2) rfl (.cons (k := 3) rfl (.nil _))) ?_
    refine GQ_then ?_
    refine G_ret ?_
    refine GQ_block_ret ?_
    refine GQ_then_ret ?_
    refine GQ_ret rfl (.tmp rfl (.tmp rfl .nil)) ?_
    intro w1 hS; refine ⟨?_, hS.toKeep⟩; rw [show Land.form z = _ from (if_t c1)]; rfl
  · skip
    have c1p := c1
    try simp only [decide_eq_true_eq, decide_eq_false_iff_not, Bool.not_eq_true', Bool.not_eq_false', Bool.or_eq_true, Bool.and_eq_true, Bool.or_eq_false_iff, Bool.and_eq_false_iff, Int.not_lt, Int.not_le] at c1p
    refine G_seq ?_
    refine G_region ?_
    refine GL_step rfl (PS_eql rfl rfl) ?_
    refine GL_step rfl (PS_assign rfl) ?_
    refine GL_nil ?_
    refine GQ_sub (.cons (k := 4) rfl (.cons (k := 7) rfl (.nil _))) ?_
    refine GQ_then ?_
    refine G_cond rfl (fun c2 => ?_) (fun c2 => ?_)
    · skip
      have c2p := c2
      try simp only [decide_eq_true_eq, decide_eq_false_iff_not, Bool.not_eq_true', Bool.not_eq_false', Bool.or_eq_true, Bool.and_eq_true, Bool.or_eq_false_iff, Bool.and_eq_false_iff, Int.not_lt, Int.not_le] at c2p
      refine G_seq ?_
      refine G_region ?_
      refine GL_step rfl (PS_assign rfl) ?_
      refine GL_step rfl (PS_assign rfl) ?_
      refine GL_nil ?_
      refine GQ_sub (.cons (k := 2) rfl (.cons (k := 3) rfl (.nil _))) ?_
      refine GQ_then ?_
      refine G_ret ?_
      refine GQ_block_ret ?_
      refine GQ_then_ret ?_
      refine GQ_ret rfl (.tmp rfl (.tmp rfl .nil)) ?_
      intro w1 hS; refine ⟨?_, hS.toKeep⟩; rw [show Land.form z = _ from ((if_f c1).trans (if_t c2))]; rfl
    · skip
      have c2p := c2
      try simp only [decide_eq_true_eq, decide_eq_false_iff_not, Bool.not_eq_true', Bool.not_eq_false', Bool.or_eq_true, Bool.and_eq_true, Bool.or_eq_false_iff, Bool.and_eq_false_iff, Int.not_lt, Int.not_le] at c2p
      refine G_seq ?_
      refine G_region ?_
      refine GL_step rfl (PS_eql rfl rfl) ?_
      refine GL_step rfl (PS_assign rfl) ?_
      refine GL_nil ?_
      refine GQ_sub (.cons (k := 4) rfl (.cons (k := 9) rfl (.nil _))) ?_
      refine GQ_then ?_
      refine G_cond rfl (fun c3 => ?_) (fun c3 => ?_)
      · skip
        have c3p := c3
        try simp only [decide_eq_true_eq, decide_eq_false_iff_not, Bool.not_eq_true', Bool.not_eq_false', Bool.or_eq_true, Bool.and_eq_true, Bool.or_eq_false_iff, Bool.and_eq_false_iff, Int.not_lt, Int.not_le] at c3p
        refine G_seq ?_
        refine G_region ?_
        refine GL_step rfl (PS_assign rfl) ?_
        refine GL_step rfl (PS_assign rfl) ?_
        refine GL_nil ?_
        refine GQ_sub (.cons (k := 2) rfl (.cons (k := 3) rfl (.nil _))) ?_
        refine GQ_then ?_
        refine G_ret ?_
        refine GQ_block_ret ?_
        refine GQ_then_ret ?_
        refine GQ_ret rfl (.tmp rfl (.tmp rfl .nil)) ?_
        intro w1 hS; refine ⟨?_, hS.toKeep⟩; rw [show Land.form z = _ from ((if_f c1).trans ((if_f c2).trans (if_t c3)))]; rfl
      · skip
        have c3p := c3
        try simp only [decide_eq_true_eq, decide_eq_false_iff_not, Bool.not_eq_true', Bool.not_eq_false', Bool.or_eq_true, Bool.and_eq_true, Bool.or_eq_false_iff, Bool.and_eq_false_iff, Int.not_lt, Int.not_le] at c3p
        refine G_seq ?_
        refine G_region ?_
        refine GL_step rfl (PS_eql rfl rfl) ?_
        refine GL_step rfl (PS_assign rfl) ?_
        refine GL_nil ?_
        refine GQ_sub (.cons (k := 4) rfl (.cons (k := 11) rfl (.nil _))) ?_
        refine GQ_then ?_
        refine G_cond rfl (fun c4 => ?_) (fun c4 => ?_)
        · skip
          have c4p := c4
          try simp only [decide_eq_true_eq, decide_eq_false_iff_not, Bool.not_eq_true', Bool.not_eq_false', Bool.or_eq_true, Bool.and_eq_true, Bool.or_eq_false_iff, Bool.and_eq_false_iff, Int.not_lt, Int.not_le] at c4p
          refine G_seq ?_
          refine G_region ?_
          refine GL_step rfl (PS_assign rfl) ?_
          refine GL_step rfl (PS_assign rfl) ?_
          refine GL_nil ?_
          refine GQ_sub (.cons (k := 2) rfl (.cons (k := 3) rfl (.nil _))) ?_
          refine GQ_then ?_
          refine G_ret ?_
          refine GQ_block_ret ?_
          refine GQ_then_ret ?_
          refine GQ_ret rfl (.tmp rfl (.tmp rfl .nil)) ?_
          intro w1 hS; refine ⟨?_, hS.toKeep⟩; rw [show Land.form z = _ from ((if_f c1).trans ((if_f c2).trans ((if_f c3).trans (if_t c4))))]; rfl
        · skip
          have c4p := c4
          try simp only [decide_eq_true_eq, decide_eq_false_iff_not, Bool.not_eq_true', Bool.not_eq_false', Bool.or_eq_true, Bool.and_eq_true, Bool.or_eq_false_iff, Bool.and_eq_false_iff, Int.not_lt, Int.not_le] at c4p
          refine G_seq ?_
          refine G_region ?_
          refine GL_step rfl (PS_eql rfl rfl) ?_
          refine GL_step rfl (PS_assign rfl) ?_
          refine GL_nil ?_
          refine GQ_sub (.cons (k := 4) rfl (.cons (k := 13) rfl (.nil _))) ?_
          refine GQ_then ?_
          refine G_cond rfl (fun c5 => ?_) (fun c5 => ?_)
          · skip
            have c5p := c5
            try simp only [decide_eq_true_eq, decide_eq_false_iff_not, Bool.not_eq_true', Bool.not_eq_false', Bool.or_eq_true, Bool.and_eq_true, Bool.or_eq_false_iff, Bool.and_eq_false_iff, Int.not_lt, Int.not_le] at c5p
            refine G_seq ?_
            refine G_region ?_
            refine GL_step rfl (PS_assign rfl) ?_
            refine GL_step rfl (PS_assign rfl) ?_
            refine GL_nil ?_
            refine GQ_sub (.cons (k := 2) rfl (.cons (k := 3) rfl (.nil _))) ?_
            refine GQ_then ?_
            refine G_ret ?_
            refine GQ_block_ret ?_
            refine GQ_then_ret ?_
            refine GQ_ret rfl (.tmp rfl (.tmp rfl .nil)) ?_
            intro w1 hS; refine ⟨?_, hS.toKeep⟩; rw [show Land.form z = _ from ((if_f c1).trans ((if_f c2).trans ((if_f c3).trans ((if_f c4).trans (if_t c5)))))]; rfl
          · skip
            have c5p := c5
            try simp only [decide_eq_true_eq, decide_eq_false_iff_not, Bool.not_eq_true', Bool.not_eq_false', Bool.or_eq_true, Bool.and_eq_true, Bool.or_eq_false_iff, Bool.and_eq_false_iff, Int.not_lt, Int.not_le] at c5p
            refine G_seq ?_
            refine G_region ?_
            refine GL_step rfl (PS_eql rfl rfl) ?_
            refine GL_step rfl (PS_assign rfl) ?_
            refine GL_nil ?_
            refine GQ_sub (.cons (k := 4) rfl (.cons (k := 15) rfl (.nil _))) ?_
            refine GQ_then ?_
            refine G_cond rfl (fun c6 => ?_) (fun c6 => ?_)
            · skip
              have c6p := c6
              try simp only [decide_eq_true_eq, decide_eq_false_iff_not, Bool.not_eq_true', Bool.not_eq_false', Bool.or_eq_true, Bool.and_eq_true, Bool.or_eq_false_iff, Bool.and_eq_false_iff, Int.not_lt, Int.not_le] at c6p
              refine G_seq ?_
              refine G_region ?_
              refine GL_step rfl (PS_assign rfl) ?_
              refine GL_step rfl (PS_assign rfl) ?_
              refine GL_nil ?_
              refine GQ_sub (.cons (k := 2) rfl (.cons (k := 3) rfl (.nil _))) ?_
              refine GQ_then ?_
              refine G_ret ?_
              refine GQ_block_ret ?_
              refine GQ_then_ret ?_
              refine GQ_ret rfl (.tmp rfl (.tmp rfl .nil)) ?_
              intro w1 hS; refine ⟨?_, hS.toKeep⟩; rw [show Land.form z = _ from ((if_f c1).trans ((if_f c2).trans ((if_f c3).trans ((if_f c4).trans ((if_f c5).trans (if_t c6))))))]; rfl
            · skip
              have c6p := c6
              try simp only [decide_eq_true_eq, decide_eq_false_iff_not, Bool.not_eq_true', Bool.not_eq_false', Bool.or_eq_true, Bool.and_eq_true, Bool.or_eq_false_iff, Bool.and_eq_false_iff, Int.not_lt, Int.not_le] at c6p
              refine G_seq ?_
              refine G_region ?_
              refine GL_step rfl (PS_eql rfl rfl) ?_
              refine GL_step rfl (PS_assign rfl) ?_
              refine GL_nil ?_
              refine GQ_sub (.cons (k := 4) rfl (.cons (k := 17) rfl (.nil _))) ?_
              refine GQ_then ?_
              refine G_cond rfl (fun c7 => ?_) (fun c7 => ?_)
              · skip
                have c7p := c7
                try simp only [decide_eq_true_eq, decide_eq_false_iff_not, Bool.not_eq_true', Bool.not_eq_false', Bool.or_eq_true, Bool.and_eq_true, Bool.or_eq_false_iff, Bool.and_eq_false_iff, Int.not_lt, Int.not_le] at c7p
                refine G_seq ?_
                refine G_region ?_
                refine GL_step rfl (PS_assign rfl) ?_
                refine GL_step rfl (PS_assign rfl) ?_
                refine GL_nil ?_
                refine GQ_sub (.cons (k := 2) rfl (.cons (k := 3) rfl (.nil _))) ?_
                refine GQ_then ?_
                refine G_ret ?_
                refine GQ_block_ret ?_
                refine GQ_then_ret ?_
                refine GQ_ret rfl (.tmp rfl (.tmp rfl .nil)) ?_
                intro w1 hS; refine ⟨?_, hS.toKeep⟩; rw [show Land.form z = _ from ((if_f c1).trans ((if_f c2).trans ((if_f c3).trans ((if_f c4).trans ((if_f c5).trans ((if_f c6).trans (if_t c7)))))))]; rfl
              · skip
                have c7p := c7
                try simp only [decide_eq_true_eq, decide_eq_false_iff_not, Bool.not_eq_true', Bool.not_eq_false', Bool.or_eq_true, Bool.and_eq_true, Bool.or_eq_false_iff, Bool.and_eq_false_iff, Int.not_lt, Int.not_le] at c7p
                refine G_seq ?_
                refine G_region ?_
                refine GL_step rfl (PS_eql rfl rfl) ?_
                refine GL_step rfl (PS_assign rfl) ?_
                refine GL_nil ?_
                refine GQ_sub (.cons (k := 4) rfl (.cons (k := 19) rfl (.nil _))) ?_
                refine GQ_then ?_
                refine G_cond rfl (fun c8 => ?_) (fun c8 => ?_)
                · skip
                  have c8p := c8
                  try simp only [decide_eq_true_eq, decide_eq_false_iff_not, Bool.not_eq_true', Bool.not_eq_false', Bool.or_eq_true, Bool.and_eq_true, Bool.or_eq_false_iff, Bool.and_eq_false_iff, Int.not_lt, Int.not_le] at c8p
                  refine G_seq ?_
                  refine G_region ?_
                  refine GL_step rfl (PS_assign rfl) ?_
                  refine GL_step rfl (PS_assign rfl) ?_
                  refine GL_nil ?_
                  refine GQ_sub (.cons (k := 2) rfl (.cons (k := 3) rfl (.nil _))) ?_
                  refine GQ_then ?_
                  refine G_ret ?_
                  refine GQ_block_ret ?_
                  refine GQ_then_ret ?_
                  refine GQ_ret rfl (.tmp rfl (.tmp rfl .nil)) ?_
                  intro w1 hS; refine ⟨?_, hS.toKeep⟩; rw [show Land.form z = _ from ((if_f c1).trans ((if_f c2).trans ((if_f c3).trans ((if_f c4).trans ((if_f c5).trans ((if_f c6).trans ((if_f c7).trans (if_t c8))))))))]; rfl
                · skip
                  have c8p := c8
                  try simp only [decide_eq_true_eq, decide_eq_false_iff_not, Bool.not_eq_true', Bool.not_eq_false', Bool.or_eq_true, Bool.and_eq_true, Bool.or_eq_false_iff, Bool.and_eq_false_iff, Int.not_lt, Int.not_le] at c8p
                  refine G_seq ?_
                  refine G_region ?_
                  refine GL_step rfl (PS_eql rfl rfl) ?_
                  refine GL_step rfl (PS_assign rfl) ?_
                  refine GL_nil ?_
                  refine GQ_sub (.cons (k := 4) rfl (.cons (k := 21) rfl (.nil _))) ?_
                  refine GQ_then ?_
                  refine G_cond rfl (fun c9 => ?_) (fun c9 => ?_)
                  · skip
                    have c9p := c9
                    try simp only [decide_eq_true_eq, decide_eq_false_iff_not, Bool.not_eq_true', Bool.not_eq_false', Bool.or_eq_true, Bool.and_eq_true, Bool.or_eq_false_iff, Bool.and_eq_false_iff, Int.not_lt, Int.not_le] at c9p
                    refine G_seq ?_
                    refine G_region ?_
                    refine GL_step rfl (PS_assign rfl) ?_
                    refine GL_step rfl (PS_assign rfl) ?_
                    refine GL_nil ?_
                    refine GQ_sub (.cons (k := 2) rfl (.cons (k := 3) rfl (.nil _))) ?_
                    refine GQ_then ?_
                    refine G_ret ?_
                    refine GQ_block_ret ?_
                    refine GQ_then_ret ?_
                    refine GQ_ret rfl (.tmp rfl (.tmp rfl .nil)) ?_
                    intro w1 hS; refine ⟨?_, hS.toKeep⟩; rw [show Land.form z = _ from ((if_f c1).trans ((if_f c2).trans ((if_f c3).trans ((if_f c4).trans ((if_f c5).trans ((if_f c6).trans ((if_f c7).trans ((if_f c8).trans (if_t c9)))))))))]; rfl
                  · skip
                    have c9p := c9
                    try simp only [decide_eq_true_eq, decide_eq_false_iff_not, Bool.not_eq_true', Bool.not_eq_false', Bool.or_eq_true, Bool.and_eq_true, Bool.or_eq_false_iff, Bool.and_eq_false_iff, Int.not_lt, Int.not_le] at c9p
                    refine G_seq ?_
                    refine G_region ?_
                    refine GL_step rfl (PS_eql rfl rfl) ?_
                    refine GL_step rfl (PS_assign rfl) ?_
                    refine GL_nil ?_
                    refine GQ_sub (.cons (k := 4) rfl (.cons (k := 23) rfl (.nil _))) ?_
                    refine GQ_then ?_
                    refine G_cond rfl (fun c10 => ?_) (fun c10 => ?_)
                    · skip
                      have c10p := c10
                      try simp only [decide_eq_true_eq, decide_eq_false_iff_not, Bool.not_eq_true', Bool.not_eq_false', Bool.or_eq_true, Bool.and_eq_true, Bool.or_eq_false_iff, Bool.and_eq_false_iff, Int.not_lt, Int.not_le] at c10p
                      refine G_seq ?_
                      refine G_region ?_
                      refine GL_step rfl (PS_assign rfl) ?_
                      refine GL_step rfl (PS_assign rfl) ?_
                      refine GL_nil ?_
                      refine GQ_sub (.cons (k := 2) rfl (.cons (k := 3) rfl (.nil _))) ?_
                      refine GQ_then ?_
                      refine G_ret ?_
                      refine GQ_block_ret ?_
                      refine GQ_then_ret ?_
                      refine GQ_ret rfl (.tmp rfl (.tmp rfl .nil)) ?_
                      intro w1 hS; refine ⟨?_, hS.toKeep⟩; rw [show Land.form z = _ from ((if_f c1).trans ((if_f c2).trans ((if_f c3).trans ((if_f c4).trans ((if_f c5).trans ((if_f c6).trans ((if_f c7).trans ((if_f c8).trans ((if_f c9).trans (if_t c10))))))))))]; rfl
                    · skip
                      have c10p := c10
                      try simp only [decide_eq_true_eq, decide_eq_false_iff_not, Bool.not_eq_true', Bool.not_eq_false', Bool.or_eq_true, Bool.and_eq_true, Bool.or_eq_false_iff, Bool.and_eq_false_iff, Int.not_lt, Int.not_le] at c10p
                      refine G_seq ?_
                      refine G_region ?_
                      refine GL_step rfl (PS_eql rfl rfl) ?_
                      refine GL_step rfl (PS_assign rfl) ?_
                      refine GL_nil ?_
                      refine GQ_sub (.cons (k := 4) rfl (.cons (k := 25) rfl (.nil _))) ?_
                      refine GQ_then ?_
                      refine G_cond rfl (fun c11 => ?_) (fun c11 => ?_)
                      · skip
                        have c11p := c11
                        try simp only [decide_eq_true_eq, decide_eq_false_iff_not, Bool.not_eq_true', Bool.not_eq_false', Bool.or_eq_true, Bool.and_eq_true, Bool.or_eq_false_iff, Bool.and_eq_false_iff, Int.not_lt, Int.not_le] at c11p
                        refine G_seq ?_
                        refine G_region ?_
                        refine GL_step rfl (PS_assign rfl) ?_
                        refine GL_step rfl (PS_assign rfl) ?_
                        refine GL_nil ?_
                        refine GQ_sub (.cons (k := 2) rfl (.cons (k := 3) rfl (.nil _))) ?_
                        refine GQ_then ?_
                        refine G_ret ?_
                        refine GQ_block_ret ?_
                        refine GQ_then_ret ?_
                        refine GQ_ret rfl (.tmp rfl (.tmp rfl .nil)) ?_
                        intro w1 hS; refine ⟨?_, hS.toKeep⟩; rw [show Land.form z = _ from ((if_f c1).trans ((if_f c2).trans ((if_f c3).trans ((if_f c4).trans ((if_f c5).trans ((if_f c6).trans ((if_f c7).trans ((if_f c8).trans ((if_f c9).trans ((if_f c10).trans (if_t c11)))))))))))]; rfl
                      · skip
                        have c11p := c11
                        try simp only [decide_eq_true_eq, decide_eq_false_iff_not, Bool.not_eq_true', Bool.not_eq_false', Bool.or_eq_true, Bool.and_eq_true, Bool.or_eq_false_iff, Bool.and_eq_false_iff, Int.not_lt, Int.not_le] at c11p
                        refine G_seq ?_
                        refine G_region ?_
                        refine GL_step rfl (PS_eql rfl rfl) ?_
                        refine GL_step rfl (PS_assign rfl) ?_
                        refine GL_nil ?_
                        refine GQ_sub (.cons (k := 4) rfl (.cons (k := 27) rfl (.nil _))) ?_
                        refine GQ_then ?_
                        refine G_cond rfl (fun c12 => ?_) (fun c12 => ?_)
                        · skip
                          have c12p := c12
                          try simp only [decide_eq_true_eq, decide_eq_false_iff_not, Bool.not_eq_true', Bool.not_eq_false', Bool.or_eq_true, Bool.and_eq_true, Bool.or_eq_false_iff, Bool.and_eq_false_iff, Int.not_lt, Int.not_le] at c12p
                          refine G_seq ?_
                          refine G_region ?_
                          refine GL_step rfl (PS_assign rfl) ?_
                          refine GL_step rfl (PS_assign rfl) ?_
                          refine GL_nil ?_
                          refine GQ_sub (.cons (k := 2) rfl (.cons (k := 3) rfl (.nil _))) ?_
                          refine GQ_then ?_
                          refine G_ret ?_
                          refine GQ_block_ret ?_
                          refine GQ_then_ret ?_
                          refine GQ_ret rfl (.tmp rfl (.tmp rfl .nil)) ?_
                          intro w1 hS; refine ⟨?_, hS.toKeep⟩; rw [show Land.form z = _ from ((if_f c1).trans ((if_f c2).trans ((if_f c3).trans ((if_f c4).trans ((if_f c5).trans ((if_f c6).trans ((if_f c7).trans ((if_f c8).trans ((if_f c9).trans ((if_f c10).trans ((if_f c11).trans (if_t c12))))))))))))]; rfl
                        · skip
                          have c12p := c12
                          try simp only [decide_eq_true_eq, decide_eq_false_iff_not, Bool.not_eq_true', Bool.not_eq_false', Bool.or_eq_true, Bool.and_eq_true, Bool.or_eq_false_iff, Bool.and_eq_false_iff, Int.not_lt, Int.not_le] at c12p
                          refine G_seq ?_
                          refine G_region ?_
                          refine GL_step rfl (PS_eql rfl rfl) ?_
                          refine GL_step rfl (PS_assign rfl) ?_
                          refine GL_nil ?_
                          refine GQ_sub (.cons (k := 4) rfl (.cons (k := 29) rfl (.nil _))) ?_
                          refine GQ_then ?_
                          refine G_cond rfl (fun c13 => ?_) (fun c13 => ?_)
                          · skip
                            have c13p := c13
                            try simp only [decide_eq_true_eq, decide_eq_false_iff_not, Bool.not_eq_true', Bool.not_eq_false', Bool.or_eq_true, Bool.and_eq_true, Bool.or_eq_false_iff, Bool.and_eq_false_iff, Int.not_lt, Int.not_le] at c13p
                            refine G_seq ?_
                            refine G_region ?_
                            refine GL_step rfl (PS_assign rfl) ?_
                            refine GL_step rfl (PS_assign rfl) ?_
                            refine GL_nil ?_
                            refine GQ_sub (.cons (k := 2) rfl (.cons (k := 3) rfl (.nil _))) ?_
                            refine GQ_then ?_
                            refine G_ret ?_
                            refine GQ_block_ret ?_
                            refine GQ_then_ret ?_
                            refine GQ_ret rfl (.tmp rfl (.tmp rfl .nil)) ?_
                            intro w1 hS; refine ⟨?_, hS.toKeep⟩; rw [show Land.form z = _ from ((if_f c1).trans ((if_f c2).trans ((if_f c3).trans ((if_f c4).trans ((if_f c5).trans ((if_f c6).trans ((if_f c7).trans ((if_f c8).trans ((if_f c9).trans ((if_f c10).trans ((if_f c11).trans ((if_f c12).trans (if_t c13)))))))))))))]; rfl
                          · skip
                            have c13p := c13
                            try simp only [decide_eq_true_eq, decide_eq_false_iff_not, Bool.not_eq_true', Bool.not_eq_false', Bool.or_eq_true, Bool.and_eq_true, Bool.or_eq_false_iff, Bool.and_eq_false_iff, Int.not_lt, Int.not_le] at c13p
                            refine G_seq ?_
                            refine G_region ?_
                            refine GL_step rfl (PS_eql rfl rfl) ?_
                            refine GL_step rfl (PS_assign rfl) ?_
                            refine GL_nil ?_
                            refine GQ_sub (.cons (k := 4) rfl (.cons (k := 31) rfl (.nil _))) ?_
                            refine GQ_then ?_
                            refine G_cond rfl (fun c14 => ?_) (fun c14 => ?_)
                            · skip
                              have c14p := c14
                              try simp only [decide_eq_true_eq, decide_eq_false_iff_not, Bool.not_eq_true', Bool.not_eq_false', Bool.or_eq_true, Bool.and_eq_true, Bool.or_eq_false_iff, Bool.and_eq_false_iff, Int.not_lt, Int.not_le] at c14p
                              refine G_seq ?_
                              refine G_region ?_
                              refine GL_step rfl (PS_assign rfl) ?_
                              refine GL_step rfl (PS_assign rfl) ?_
                              refine GL_nil ?_
                              refine GQ_sub (.cons (k := 2) rfl (.cons (k := 3) rfl (.nil _))) ?_
                              refine GQ_then ?_
                              refine G_ret ?_
                              refine GQ_block_ret ?_
                              refine GQ_then_ret ?_
                              refine GQ_ret rfl (.tmp rfl (.tmp rfl .nil)) ?_
                              intro w1 hS; refine ⟨?_, hS.toKeep⟩; rw [show Land.form z = _ from ((if_f c1).trans ((if_f c2).trans ((if_f c3).trans ((if_f c4).trans ((if_f c5).trans ((if_f c6).trans ((if_f c7).trans ((if_f c8).trans ((if_f c9).trans ((if_f c10).trans ((if_f c11).trans ((if_f c12).trans ((if_f c13).trans (if_t c14))))))))))))))]; rfl
                            · skip
                              have c14p := c14
                              try simp only [decide_eq_true_eq, decide_eq_false_iff_not, Bool.not_eq_true', Bool.not_eq_false', Bool.or_eq_true, Bool.and_eq_true, Bool.or_eq_false_iff, Bool.and_eq_false_iff, Int.not_lt, Int.not_le] at c14p
                              refine G_seq ?_
                              refine G_region ?_
                              refine GL_step rfl (PS_eql rfl rfl) ?_
                              refine GL_step rfl (PS_assign rfl) ?_
                              refine GL_nil ?_
                              refine GQ_sub (.cons (k := 4) rfl (.cons (k := 33) rfl (.nil _))) ?_
                              refine GQ_then ?_
                              refine G_cond rfl (fun c15 => ?_) (fun c15 => ?_)
                              · skip
                                have c15p := c15
                                try simp only [decide_eq_true_eq, decide_eq_false_iff_not, Bool.not_eq_true', Bool.not_eq_false', Bool.or_eq_true, Bool.and_eq_true, Bool.or_eq_false_iff, Bool.and_eq_false_iff, Int.not_lt, Int.not_le] at c15p
                                refine G_seq ?_
                                refine G_region ?_
                                refine GL_step rfl (PS_assign rfl) ?_
                                refine GL_step rfl (PS_assign rfl) ?_
                                refine GL_nil ?_
                                refine GQ_sub (.cons (k := 2) rfl (.cons (k := 3) rfl (.nil _))) ?_
                                refine GQ_then ?_
                                refine G_ret ?_
                                refine GQ_block_ret ?_
                                refine GQ_then_ret ?_
                                refine GQ_ret rfl (.tmp rfl (.tmp rfl .nil)) ?_
                                intro w1 hS; refine ⟨?_, hS.toKeep⟩; rw [show Land.form z = _ from ((if_f c1).trans ((if_f c2).trans ((if_f c3).trans ((if_f c4).trans ((if_f c5).trans ((if_f c6).trans ((if_f c7).trans ((if_f c8).trans ((if_f c9).trans ((if_f c10).trans ((if_f c11).trans ((if_f c12).trans ((if_f c13).trans ((if_f c14).trans (if_t c15)))))))))))))))]; rfl
                              · skip
                                have c15p := c15
                                try simp only [decide_eq_true_eq, decide_eq_false_iff_not, Bool.not_eq_true', Bool.not_eq_false', Bool.or_eq_true, Bool.and_eq_true, Bool.or_eq_false_iff, Bool.and_eq_false_iff, Int.not_lt, Int.not_le] at c15p
                                refine G_seq ?_
                                refine G_region ?_
                                refine GL_step rfl (PS_eql rfl rfl) ?_
                                refine GL_step rfl (PS_assign rfl) ?_
                                refine GL_nil ?_
                                refine GQ_sub (.cons (k := 4) rfl (.cons (k := 35) rfl (.nil _))) ?_
                                refine GQ_then ?_
                                refine G_cond rfl (fun c16 => ?_) (fun c16 => ?_)
                                · skip
                                  have c16p := c16
                                  try simp only [decide_eq_true_eq, decide_eq_false_iff_not, Bool.not_eq_true', Bool.not_eq_false', Bool.or_eq_true, Bool.and_eq_true, Bool.or_eq_false_iff, Bool.and_eq_false_iff, Int.not_lt, Int.not_le] at c16p
                                  refine G_seq ?_
                                  refine G_region ?_
                                  refine GL_step rfl (PS_assign rfl) ?_
                                  refine GL_step rfl (PS_assign rfl) ?_
                                  refine GL_nil ?_
                                  refine GQ_sub (.cons (k := 2) rfl (.cons (k := 3) rfl (.nil _))) ?_
                                  refine GQ_then ?_
                                  refine G_ret ?_
                                  refine GQ_block_ret ?_
                                  refine GQ_then_ret ?_
                                  refine GQ_ret rfl (.tmp rfl (.tmp rfl .nil)) ?_
                                  intro w1 hS; refine ⟨?_, hS.toKeep⟩; rw [show Land.form z = _ from ((if_f c1).trans ((if_f c2).trans ((if_f c3).trans ((if_f c4).trans ((if_f c5).trans ((if_f c6).trans ((if_f c7).trans ((if_f c8).trans ((if_f c9).trans ((if_f c10).trans ((if_f c11).trans ((if_f c12).trans ((if_f c13).trans ((if_f c14).trans ((if_f c15).trans (if_t c16))))))))))))))))]; rfl
                                · skip
                                  have c16p := c16
                                  try simp only [decide_eq_true_eq, decide_eq_false_iff_not, Bool.not_eq_true', Bool.not_eq_false', Bool.or_eq_true, Bool.and_eq_true, Bool.or_eq_false_iff, Bool.and_eq_false_iff, Int.not_lt, Int.not_le] at c16p
                                  refine G_seq ?_
                                  refine G_region ?_
                                  refine GL_step rfl (PS_eql rfl rfl) ?_
                                  refine GL_step rfl (PS_assign rfl) ?_
                                  refine GL_nil ?_
                                  refine GQ_sub (.cons (k := 4) rfl (.cons (k := 37) rfl (.nil _))) ?_
                                  refine GQ_then ?_
                                  refine G_cond rfl (fun c17 => ?_) (fun c17 => ?_)
                                  · skip
                                    have c17p := c17
                                    try simp only [decide_eq_true_eq, decide_eq_false_iff_not, Bool.not_eq_true', Bool.not_eq_false', Bool.or_eq_true, Bool.and_eq_true, Bool.or_eq_false_iff, Bool.and_eq_false_iff, Int.not_lt, Int.not_le] at c17p
                                    refine G_seq ?_
                                    refine G_region ?_
                                    refine GL_step rfl (PS_assign rfl) ?_
                                    refine GL_step rfl (PS_assign rfl) ?_
                                    refine GL_nil ?_
                                    refine GQ_sub (.cons (k := 2) rfl (.cons (k := 3) rfl (.nil _))) ?_
                                    refine GQ_then ?_
                                    refine G_ret ?_
                                    refine GQ_block_ret ?_
                                    refine GQ_then_ret ?_
                                    refine GQ_ret rfl (.tmp rfl (.tmp rfl .nil)) ?_
                                    intro w1 hS; refine ⟨?_, hS.toKeep⟩; rw [show Land.form z = _ from ((if_f c1).trans ((if_f c2).trans ((if_f c3).trans ((if_f c4).trans ((if_f c5).trans ((if_f c6).trans ((if_f c7).trans ((if_f c8).trans ((if_f c9).trans ((if_f c10).trans ((if_f c11).trans ((if_f c12).trans ((if_f c13).trans ((if_f c14).trans ((if_f c15).trans ((if_f c16).trans (if_t c17)))))))))))))))))]; rfl
                                  · skip
                                    have c17p := c17
                                    try simp only [decide_eq_true_eq, decide_eq_false_iff_not, Bool.not_eq_true', Bool.not_eq_false', Bool.or_eq_true, Bool.and_eq_true, Bool.or_eq_false_iff, Bool.and_eq_false_iff, Int.not_lt, Int.not_le] at c17p
                                    refine G_seq ?_
                                    refine G_region ?_
                                    refine GL_step rfl (PS_eql rfl rfl) ?_
                                    refine GL_step rfl (PS_assign rfl) ?_
                                    refine GL_nil ?_
                                    refine GQ_sub (.cons (k := 39) rfl (.nil _)) ?_
                                    refine GQ_then ?_
                                    refine G_cond rfl (fun c18 => ?_) (fun c18 => ?_)
                                    · skip
                                      have c18p := c18
                                      try simp only [decide_eq_true_eq, decide_eq_false_iff_not, Bool.not_eq_true', Bool.not_eq_false', Bool.or_eq_true, Bool.and_eq_true, Bool.or_eq_false_iff, Bool.and_eq_false_iff, Int.not_lt, Int.not_le] at c18p
                                      refine G_seq ?_
                                      refine G_region ?_
                                      refine GL_step rfl (PS_assign rfl) ?_
                                      refine GL_step rfl (PS_assign rfl) ?_
                                      refine GL_nil ?_
                                      refine GQ_sub (.cons (k := 2) rfl (.cons (k := 3) rfl (.nil _))) ?_
                                      refine GQ_then ?_
                                      refine G_ret ?_
                                      refine GQ_block_ret ?_
                                      refine GQ_then_ret ?_
                                      refine GQ_ret rfl (.tmp rfl (.tmp rfl .nil)) ?_
                                      intro w1 hS; refine ⟨?_, hS.toKeep⟩; rw [show Land.form z = _ from ((if_f c1).trans ((if_f c2).trans ((if_f c3).trans ((if_f c4).trans ((if_f c5).trans ((if_f c6).trans ((if_f c7).trans ((if_f c8).trans ((if_f c9).trans ((if_f c10).trans ((if_f c11).trans ((if_f c12).trans ((if_f c13).trans ((if_f c14).trans ((if_f c15).trans ((if_f c16).trans ((if_f c17).trans (if_t c18))))))))))))))))))]; rfl
                                    · skip
                                      have c18p := c18
                                      try simp only [decide_eq_true_eq, decide_eq_false_iff_not, Bool.not_eq_true', Bool.not_eq_false', Bool.or_eq_true, Bool.and_eq_true, Bool.or_eq_false_iff, Bool.and_eq_false_iff, Int.not_lt, Int.not_le] at c18p
                                      refine G_skip ?_
                                      refine GQ_sub (.nil _) ?_
                                      refine GQ_block ?_
                                      refine GQ_then ?_
                                      refine G_seq ?_
                                      refine G_region ?_
                                      refine GL_step rfl (PS_assign rfl) ?_
                                      refine GL_step rfl (PS_assign rfl) ?_
                                      refine GL_nil ?_
                                      refine GQ_then ?_
                                      refine G_ret ?_
                                      refine GQ_ret rfl (.tmp rfl (.tmp rfl .nil)) ?_
                                      intro w1 hS; refine ⟨?_, hS.toKeep⟩; rw [show Land.form z = _ from ((if_f c1).trans ((if_f c2).trans ((if_f c3).trans ((if_f c4).trans ((if_f c5).trans ((if_f c6).trans ((if_f c7).trans ((if_f c8).trans ((if_f c9).trans ((if_f c10).trans ((if_f c11).trans ((if_f c12).trans ((if_f c13).trans ((if_f c14).trans ((if_f c15).trans ((if_f c16).trans ((if_f c17).trans (if_f c18))))))))))))))))))]; rfl
theorem strings_Builder_copyCheck_spec (b : Nat) (p : Option Addr) (h : Hd) (hp : p = none ∨ p = some ⟨b, 0, none⟩) : Ctr Tryd.prog 38 #[.pointer (some ⟨b, 0, none⟩)] [Res.box b 57 (BldV.enc ⟨p, h⟩)] (fun v B => v = .tuple #[] ∧ B = [Res.box b 57 (BldV.enc ⟨some ⟨b, 0, none⟩, h⟩)]) := by
  intro w hS0
  refine Ret_body _ _ Tryd.func38 rfl rfl rfl (hS0) ?_
  refine G_seq ?_
  refine G_region ?_
  refine GL_step rfl (PS_move rfl) ?_
  refine GL_step rfl (PS_nilCheck rfl) ?_
  refine GL_step rfl (PS_fieldAddr fa57_0 rfl) ?_
  refine GL_step rfl (PS_load rfl tys54 (.head _) BldV.l0 rfl rfl) ?_
  refine GL_step rfl (PS_eqp_nil Tryd.underlying54 rfl) ?_
  refine GL_nil ?_
  refine GQ_sub (.cons (k := 0) rfl (.cons (k := 6) rfl (.nil _))) ?_
  refine GQ_then ?_
  refine G_cond rfl (fun c1 => ?_) (fun c1 => ?_)
  · skip
    have c1p := c1
    try simp only [decide_eq_true_eq, decide_eq_false_iff_not, Bool.not_eq_true', Bool.not_eq_false', Bool.or_eq_true, Bool.and_eq_true, Bool.or_eq_false_iff, Bool.and_eq_false_iff, Int.not_lt, Int.not_le] at c1p
    obtain rfl : p = none := by simpa using c1
    refine G_region ?_
    refine GL_step rfl (PS_move rfl) ?_
    refine GL_step rfl (PS_move rfl) ?_
    refine GL_step rfl ((let ⟨_, h, h2⟩ := inf57; PS_toUnsafe Tryd.underlying54 Tryd.underlying73 h h2 rfl (.head _) (by rw [BldV.fl.len]; decide))) ?_
    refine GL_step rfl (PS_noEscape Tryd.func40 (by kernel_rfl) (by kernel_rfl) (by kernel_rfl) (by kernel_rfl) rfl) ?_
    refine GL_step rfl ((let ⟨_, h, _⟩ := inf57; PS_fromUnsafe Tryd.underlying73 Tryd.underlying54 h rfl (.head _) (by rw [BldV.fl.len]; kernel_rfl))) ?_
    refine GL_step rfl (PS_nilCheck rfl) ?_
    refine GL_step rfl (PS_fieldAddr fa57_0 rfl) ?_
    refine GL_unit (PU_store BldV.l0 rfl rfl rfl sz54 rfl .head) ?_
    refine GL_nil ?_
    refine GQ_end rfl .nil ?_
    intro w1 hS
    have hS := (hS.perm (Pulls.perm (.cons .head .nil))).headL
    exact ⟨_, ⟨rfl, rfl⟩, hS⟩
  · skip
    have c1p := c1
    try simp only [decide_eq_true_eq, decide_eq_false_iff_not, Bool.not_eq_true', Bool.not_eq_false', Bool.or_eq_true, Bool.and_eq_true, Bool.or_eq_false_iff, Bool.and_eq_false_iff, Int.not_lt, Int.not_le] at c1p
    obtain rfl : p = some ⟨b, 0, none⟩ := by rcases hp with h | h; (subst h; simp at c1); exact h
    refine G_seq ?_
    refine G_region ?_
    refine GL_step rfl (PS_move rfl) ?_
    refine GL_step rfl (PS_nilCheck rfl) ?_
    refine GL_step rfl (PS_fieldAddr fa57_0 rfl) ?_
    refine GL_step rfl (PS_load rfl tys54 (.head _) BldV.l0 rfl rfl) ?_
    refine GL_step rfl (PS_move rfl) ?_
    refine GL_step rfl ((let ⟨_, h, _⟩ := inf57; PS_neqp_same Tryd.underlying54 h rfl rfl)) ?_
    refine GL_nil ?_
    refine GQ_sub (.cons (k := 19) rfl (.nil _)) ?_
    refine GQ_then ?_
    refine G_false rfl rfl ?_
    refine G_skip ?_
    refine GQ_end rfl .nil ?_
    intro w1 hS
    have hS := (hS.perm (Pulls.perm (.cons .head .nil))).headL
    exact ⟨_, ⟨rfl, rfl⟩, hS⟩
theorem strings_Builder_WriteByte_spec (b : Nat) (p : Option Addr) (h : Hd) (s : Str) (hp : p = none ∨ p = some ⟨b, 0, none⟩) (hz : h.Z) (hl : h.len = s.length) (c : UInt8) (hb : s.length < 140737488355000) : Ctr Tryd.prog 29 #[.pointer (some ⟨b, 0, none⟩), .int .u8 (c.toNat : Int)] [Res.box b 57 (BldV.enc ⟨p, h⟩), Res.own h 5 1 (s.flatMap encY)] (fun v B => ∃ p' h', v = .nilIface ∧ (p' = none ∨ p' = some ⟨b, 0, none⟩) ∧ h'.Z ∧ h'.len = (s ++ [c]).length ∧ B = [Res.box b 57 (BldV.enc ⟨p', h'⟩), Res.own h' 5 1 ((s ++ [c]).flatMap encY)]) := by
  intro w hS0
  refine Ret_body _ _ Tryd.func29 rfl rfl rfl (hS0) ?_
  refine G_seq ?_
  refine G_region ?_
  refine GL_step rfl (PS_assign rfl) ?_
  refine GL_nil ?_
  refine GQ_sub (.cons (k := 0) rfl (.cons (k := 1) rfl (.nil _))) ?_
  refine GQ_then ?_
  refine G_seq ?_
  refine G_region ?_
  refine GL_step rfl (PS_move rfl) ?_
  refine GL_callL rfl cf38 (.cons rfl .nil) (.cons .head .nil) (strings_Builder_copyCheck_spec _ _ _ (by first | assumption | omega)) (fun v1 B hv => ?_)
  obtain ⟨rfl, rfl⟩ := hv
  refine GL_nil ?_
  refine GQ_sub (.cons (k := 0) rfl (.cons (k := 1) rfl (.nil _))) ?_
  refine GQ_then ?_
  refine G_seq ?_
  refine G_region ?_
  refine GL_step rfl (PS_move rfl) ?_
  refine GL_step rfl (PS_move rfl) ?_
  refine GL_step rfl (PS_nilCheck rfl) ?_
  refine GL_step rfl (PS_fieldAddr fa57_1 rfl) ?_
  refine GL_step rfl (PS_load rfl tys55 (.head _) BldV.l1 rfl rfl) ?_
  refine GL_step rfl (PS_move rfl) ?_
  refine GL_bs1 rfl Tryd.underlying55 sz5 zv5 rfl (by decide) (by decide) rfl rfl rfl (fun b1 => ?_)
  refine GL_appendG rfl Tryd.underlying55 sz5 zv5 rfl by5 (by decide) (by decide) rfl rfl (fun w hS => Src.sliceT Tryd.underlying55 ((Kn.own (.head _)) w hS)) (by intro v hv; simp at hv; subst hv; rfl) (by dsimp only; omega) (fun _ => (.tail (.tail .head))) (fun h2 h2l h2z => ?_)
  have h2z := h2z hz; dsimp only at h2l
  refine GL_step rfl (PS_nilCheck rfl) ?_
  refine GL_step rfl (PS_fieldAddr fa57_1 rfl) ?_
  refine GL_unit (PU_store BldV.l1 rfl rfl rfl sz55 rfl (.tail .head)) ?_
  refine GL_nil ?_
  refine GQ_sub (.nil _) ?_
  refine GQ_then ?_
  refine G_seq ?_
  refine G_region ?_
  refine GL_step rfl (PS_assign rfl) ?_
  refine GL_nil ?_
  refine GQ_then ?_
  refine G_ret ?_
  refine GQ_ret rfl (.tmp rfl .nil) ?_
  intro w1 hS
  have hS := (hS.perm (Pulls.perm (.cons (.tail .head) (.cons (.tail .head) .nil)))).headL
  exact ⟨_, ⟨_, _, rfl, .inr rfl, by assumption, by simp; omega, by rw [List.flatMap_append]; rfl⟩, hS⟩
theorem strings_Builder_WriteString_spec (b : Nat) (p : Option Addr) (h : Hd) (s : Str) (hp : p = none ∨ p = some ⟨b, 0, none⟩) (hz : h.Z) (hl : h.len = s.length) (t : Str) (hb : s.length + t.length < 140737488355000) : Ctr Tryd.prog 30 #[.pointer (some ⟨b, 0, none⟩), vstr t] [Res.box b 57 (BldV.enc ⟨p, h⟩), Res.own h 5 1 (s.flatMap encY)] (fun v B => ∃ p' h', v = .tuple #[.int .i64 t.length, .nilIface] ∧ (p' = none ∨ p' = some ⟨b, 0, none⟩) ∧ h'.Z ∧ h'.len = (s ++ t).length ∧ B = [Res.box b 57 (BldV.enc ⟨p', h'⟩), Res.own h' 5 1 ((s ++ t).flatMap encY)]) := by
  intro w hS0
  refine Ret_body _ _ Tryd.func30 rfl rfl rfl (hS0) ?_
  refine G_seq ?_
  refine G_region ?_
  refine GL_step rfl (PS_assign rfl) ?_
  refine GL_step rfl (PS_assign rfl) ?_
  refine GL_nil ?_
  refine GQ_sub (.cons (k := 0) rfl (.cons (k := 1) rfl (.nil _))) ?_
  refine GQ_then ?_
  refine G_seq ?_
  refine G_region ?_
  refine GL_step rfl (PS_move rfl) ?_
  refine GL_callL rfl cf38 (.cons rfl .nil) (.cons .head .nil) (strings_Builder_copyCheck_spec _ _ _ (by first | assumption | omega)) (fun v1 B hv => ?_)
  obtain ⟨rfl, rfl⟩ := hv
  refine GL_nil ?_
  refine GQ_sub (.cons (k := 0) rfl (.cons (k := 1) rfl (.nil _))) ?_
  refine GQ_then ?_
  refine G_seq ?_
  refine G_region ?_
  refine GL_step rfl (PS_move rfl) ?_
  refine GL_step rfl (PS_move rfl) ?_
  refine GL_step rfl (PS_nilCheck rfl) ?_
  refine GL_step rfl (PS_fieldAddr fa57_1 rfl) ?_
  refine GL_step rfl (PS_load rfl tys55 (.head _) BldV.l1 rfl rfl) ?_
  refine GL_step rfl (PS_move rfl) ?_
  refine GL_appendF flY rfl Tryd.underlying55 sz5 zv5 rfl by5 (by decide) (by decide) rfl rfl (fun _ _ => Src.str Tryd.underlying9) (by dsimp only; omega) (fun _ => (.tail .head)) (fun h2 h2l h2z => ?_)
  have h2z := h2z hz; dsimp only at h2l
  refine GL_step rfl (PS_nilCheck rfl) ?_
  refine GL_step rfl (PS_fieldAddr fa57_1 rfl) ?_
  refine GL_unit (PU_store BldV.l1 rfl rfl rfl sz55 rfl .head) ?_
  refine GL_nil ?_
  refine GQ_sub (.cons (k := 1) rfl (.nil _)) ?_
  refine GQ_then ?_
  refine G_seq ?_
  refine G_region ?_
  refine GL_step rfl (PS_move rfl) ?_
  refine GL_step rfl (PS_len_str rfl Tryd.underlying9 rfl) ?_
  refine GL_step rfl (PS_assign rfl) ?_
  refine GL_step rfl (PS_assign rfl) ?_
  refine GL_nil ?_
  refine GQ_sub (.cons (k := 4) rfl (.cons (k := 5) rfl (.nil _))) ?_
  refine GQ_then ?_
  refine G_ret ?_
  refine GQ_ret rfl (.tmp rfl (.tmp rfl .nil)) ?_
  intro w1 hS
  have hS := (hS.perm (Pulls.perm (.cons .head (.cons .head .nil)))).headL
  exact ⟨_, ⟨_, _, rfl, .inr rfl, by assumption, by simp; omega, by rw [List.flatMap_append]⟩, hS⟩
theorem words_Called_spec (d : Int) (w : World) (gl0 : GV 0 Land.verbsV w) : Ret Tryd.prog 31 #[.int .i64 d] w fun v w' => v = vstr (Land.called d) ∧ Keep w w' := by
  refine Ret_body [] [] Tryd.func31 rfl rfl rfl (St.start w []) ?_
  refine G_seq ?_
  refine G_region ?_
  refine GL_step rfl (PS_assign rfl) ?_
  refine GL_nil ?_
  refine GQ_sub (.cons (k := 0) rfl (.nil _)) ?_
  refine GQ_then ?_
  refine G_seq ?_
  refine G_seq ?_
  refine G_region ?_
  refine GL_step rfl (PS_move rfl) ?_
  refine GL_step rfl (PS_lss rfl rfl) ?_
  refine GL_step rfl (PS_move rfl) ?_
  refine GL_gf (t := 5) rfl rfl rfl (fun q => PS_move rfl) ?_
  refine GL_gf (t := 5) rfl rfl rfl (fun q => PS_geq (cvE rfl (by rw [q]; rfl)) rfl) ?_
  refine GL_step rfl (PS_or rfl rfl (fun h => by rw [h]; rfl)) ?_
  refine GL_nil ?_
  refine GQ_sub (.cons (k := 0) rfl (.cons (k := 8) rfl (.nil _))) ?_
  refine GQ_then ?_
  refine G_cond rfl (fun c1 => ?_) (fun c1 => ?_)
  · skip
    have c1p := c1
    try simp only [decide_eq_true_eq, decide_eq_false_iff_not, Bool.not_eq_true', Bool.not_eq_false', Bool.or_eq_true, Bool.and_eq_true, Bool.or_eq_false_iff, Bool.and_eq_false_iff, Int.not_lt, Int.not_le] at c1p
    refine G_seq ?_
    refine G_region ?_
    refine GL_step rfl (PS_assign rfl) ?_
    refine GL_nil ?_
    refine GQ_sub (.cons (k := 2) rfl (.nil _)) ?_
    refine GQ_then ?_
    refine G_ret ?_
    refine GQ_then_ret ?_
    refine GQ_ret rfl (.tmp rfl .nil) ?_
    intro w1 hS; refine ⟨?_, hS.toKeep⟩; rw [show Land.called d = _ from if_t c1]; rfl
  · skip
    have c1p := c1
    try simp only [decide_eq_true_eq, decide_eq_false_iff_not, Bool.not_eq_true', Bool.not_eq_false', Bool.or_eq_true, Bool.and_eq_true, Bool.or_eq_false_iff, Bool.and_eq_false_iff, Int.not_lt, Int.not_le] at c1p
    have hr : 0 ≤ d ∧ d < 6 := by simp at c1; omega
    refine G_skip ?_
    refine GQ_sub (.cons (k := 0) rfl (.nil _)) ?_
    refine GQ_then ?_
    refine G_seq ?_
    refine G_region ?_
    refine GL_step rfl (PS_move rfl) ?_
    refine GL_step rfl (PS_indexAddr ia70 rfl rfl (by omega) (by omega)) ?_
    refine GL_step rfl (PS_ldGV gl0 rfl tys9 (Land.verbs_at hr.1 hr.2)) ?_
    refine GL_step rfl (PS_assign rfl) ?_
    refine GL_nil ?_
    refine GQ_sub (.cons (k := 2) rfl (.nil _)) ?_
    refine GQ_then ?_
    refine G_ret ?_
    refine GQ_ret rfl (.tmp rfl .nil) ?_
    intro w1 hS; refine ⟨?_, hS.toKeep⟩; rw [show Land.called d = _ from if_f c1]; rfl
def laysItoa_ren : Go.Shelf.Ren := ⟨fun | 171 => 32 | 243 => 39 | 246 => 41 | 283 => 42 | 284 => 43 | 285 => 44 | 286 => 45 | 129 => 47 | 317 => 46 | 318 => 48 | 319 => 49 | 320 => 50 | 337 => 51 | 338 => 52 | n => n, fun | 3 => 3 | 9 => 9 | 2 => 2 | 4 => 4 | 171 => 76 | 0 => 0 | 53 => 77 | 37 => 55 | 5 => 5 | 173 => 80 | 212 => 84 | 51 => 85 | 20 => 20 | 213 => 86 | 46 => 87 | 232 => 90 | 233 => 91 | n => n, fun | 17 => 2 | 18 => 3 | 19 => 4 | n => n⟩
theorem laysItoa : LaysM.n171 Tryd.prog laysItoa_ren where
  mixed := by kernel_rfl
  f129 := Tryd.func47.trans (congrArg some (by kernel_rfl))
  f171 := Tryd.func32.trans (congrArg some (by kernel_rfl))
  f243 := Tryd.func39.trans (congrArg some (by kernel_rfl))
  f246 := Tryd.func41.trans (congrArg some (by kernel_rfl))
  f283 := Tryd.func42.trans (congrArg some (by kernel_rfl))
  f284 := Tryd.func43.trans (congrArg some (by kernel_rfl))
  f285 := Tryd.func44.trans (congrArg some (by kernel_rfl))
  f286 := Tryd.func45.trans (congrArg some (by kernel_rfl))
  f317 := Tryd.func46.trans (congrArg some (by kernel_rfl))
  f318 := Tryd.func48.trans (congrArg some (by kernel_rfl))
  f319 := Tryd.func49.trans (congrArg some (by kernel_rfl))
  f320 := Tryd.func50.trans (congrArg some (by kernel_rfl))
  f337 := Tryd.func51.trans (congrArg some (by kernel_rfl))
  f338 := Tryd.func52.trans (congrArg some (by kernel_rfl))
  t0 := Tryd.underlying0
  a0 := Tryd.isAgg0
  z0 := Tryd.sizeOf0
  v0 := Tryd.zeroValue0
  t2 := Tryd.underlying2
  a2 := Tryd.isAgg2
  z2 := Tryd.sizeOf2
  v2 := Tryd.zeroValue2
  t3 := Tryd.underlying3
  a3 := Tryd.isAgg3
  z3 := Tryd.sizeOf3
  v3 := Tryd.zeroValue3
  t4 := Tryd.underlying4
  a4 := Tryd.isAgg4
  z4 := Tryd.sizeOf4
  v4 := Tryd.zeroValue4
  t5 := Tryd.underlying5
  a5 := Tryd.isAgg5
  z5 := Tryd.sizeOf5
  v5 := Tryd.zeroValue5
  t9 := Tryd.underlying9
  a9 := Tryd.isAgg9
  z9 := Tryd.sizeOf9
  v9 := Tryd.zeroValue9
  t20 := Tryd.underlying20
  a20 := Tryd.isAgg20
  z20 := Tryd.sizeOf20
  v20 := Tryd.zeroValue20
  t37 := Tryd.underlying55
  a37 := Tryd.isAgg55
  z37 := Tryd.sizeOf55
  v37 := Tryd.zeroValue55
  t46 := Tryd.underlying87
  a46 := Tryd.isAgg87
  z46 := Tryd.sizeOf87
  v46 := Tryd.zeroValue87
  t51 := Tryd.underlying85
  a51 := Tryd.isAgg85
  z51 := Tryd.sizeOf85
  v51 := Tryd.zeroValue85
  t53 := Tryd.underlying77
  a53 := Tryd.isAgg77
  z53 := Tryd.sizeOf77
  v53 := Tryd.zeroValue77
  t171 := Tryd.underlying76
  a171 := Tryd.isAgg76
  z171 := Tryd.sizeOf76
  v171 := Tryd.zeroValue76
  t173 := Tryd.underlying80
  a173 := Tryd.isAgg80
  z173 := Tryd.sizeOf80
  v173 := Tryd.zeroValue80
  t212 := Tryd.underlying84
  a212 := Tryd.isAgg84
  z212 := Tryd.sizeOf84
  v212 := Tryd.zeroValue84
  t213 := Tryd.underlying86
  a213 := Tryd.isAgg86
  z213 := Tryd.sizeOf86
  t232 := Tryd.underlying90
  a232 := Tryd.isAgg90
  z232 := Tryd.sizeOf90
  v232 := Tryd.zeroValue90
  t233 := Tryd.underlying91
  a233 := Tryd.isAgg91
  z233 := Tryd.sizeOf91
  v233 := Tryd.zeroValue91
  g17 := by kernel_rfl
  g18 := by kernel_rfl
  g19 := by kernel_rfl
  i0 := by kernel_rfl
  i2 := by kernel_rfl
  i3 := by kernel_rfl
  i4 := by kernel_rfl
  i5 := by kernel_rfl
  i9 := by kernel_rfl
  i20 := by kernel_rfl
  i37 := by kernel_rfl
  i46 := by kernel_rfl
  i51 := by kernel_rfl
  i53 := by kernel_rfl
  i171 := by kernel_rfl
  i173 := by kernel_rfl
  i212 := by kernel_rfl
  i232 := by kernel_rfl
  i233 := by kernel_rfl
  m17 := by kernel_rfl
  m18 := by kernel_rfl
  m19 := by kernel_rfl
theorem strconv_Itoa_spec (n : Int) (h0 : -9223372036854775808 ≤ n) (hy : n ≤ 9223372036854775807) (w : World) (gl0 : GV 2 pow10V w) : Ret Tryd.prog 32 #[.int .i64 n] w fun v w' => v = vstr (Lib.itoa n) ∧ Keep w w' :=
  Ret.of_grow (Any.strconv_Itoa laysItoa n h0 hy w (gv_var (by kernel_rfl) gl0))
theorem strings_Builder_String_spec (b : Nat) (p : Option Addr) (h : Hd) (s : Str) (hz : h.Z) (hl : h.len = s.length) (hb : s.length < 140737488355000) : Ctr Tryd.prog 33 #[.pointer (some ⟨b, 0, none⟩)] [Res.box b 57 (BldV.enc ⟨p, h⟩), Res.own h 5 1 (s.flatMap encY)] (fun v B => v = vstr s ∧ B = [Res.box b 57 (BldV.enc ⟨p, h⟩)]) := by
  intro w hS0
  refine Ret_body _ _ Tryd.func33 rfl rfl rfl (hS0) ?_
  refine G_seq ?_
  refine G_region ?_
  refine GL_step rfl (PS_assign rfl) ?_
  refine GL_nil ?_
  refine GQ_sub (.cons (k := 0) rfl (.nil _)) ?_
  refine GQ_then ?_
  refine G_seq ?_
  refine G_planN (N := 12) [0, 1, 3, 7, 15, 0, 32, 96, 224, 480, 1023, 2047] mix (by kernel_rfl) rfl ?_
  refine Plan_float 0 rfl rfl (by kernel_rfl) (OK_s (EX_s (PS_move rfl))) ?_
  refine Plan_float 1 rfl rfl (by kernel_rfl) (OK_s (EX_s (PS_nilCheck rfl))) ?_
  refine Plan_float 2 rfl rfl (by kernel_rfl) (OK_s (EX_s (PS_fieldAddr fa57_1 rfl))) ?_
  refine Plan_float 3 rfl rfl (by kernel_rfl) (OK_s (EX_s (PS_load rfl tys55 (.head _) BldV.l1 rfl rfl))) ?_
  refine Plan_float 4 rfl rfl (by kernel_rfl) (OK_s (EX_s (PS_sliceData rfl (by assumption)))) ?_
  refine Plan_float 5 rfl rfl (by kernel_rfl) (OK_s (EX_s (PS_move rfl))) ?_
  refine Plan_float 6 rfl rfl (by kernel_rfl) (OK_s (EX_s (PS_nilCheck rfl))) ?_
  refine Plan_float 7 rfl rfl (by kernel_rfl) (OK_s (EX_s (PS_fieldAddr fa57_1 rfl))) ?_
  refine Plan_float 8 rfl rfl (by kernel_rfl) (OK_s (EX_s (PS_load rfl tys55 (.head _) BldV.l1 rfl rfl))) ?_
  refine Plan_float 9 rfl rfl (by kernel_rfl) (OK_s (EX_s (PS_len_slice rfl Tryd.underlying55 rfl))) ?_
  refine Plan_chain 10 rfl (by kernel_rfl) ?_
  refine GL_unsafeString rfl Tryd.underlying71 ce5 rfl rfl (by assumption) (by omega) (.tail .head) ?_
  refine GL_hand rfl ⟨?_, ?_⟩
  · exact (Pend_skip (by kernel_rfl) (Pend_skip (by kernel_rfl) (Pend_skip (by kernel_rfl) (Pend_skip (by kernel_rfl) (Pend_skip (by kernel_rfl) (Pend_skip (by kernel_rfl) (Pend_skip (by kernel_rfl) (Pend_skip (by kernel_rfl) (Pend_skip (by kernel_rfl) (Pend_skip (by kernel_rfl) Pend_nil))))))))))
  refine Plan_float 11 rfl rfl (by kernel_rfl) (OK_s (EX_s (PS_assign rfl))) ?_
  refine Plan_end (by kernel_rfl) ?_
  refine GQ_sub (.cons (k := 2) rfl (.nil _)) ?_
  refine GQ_then ?_
  refine G_ret ?_
  refine GQ_ret rfl (.tmp rfl .nil) ?_
  intro w1 hS
  have hS := (hS.perm (Pulls.perm (.cons .head .nil))).headL
  exact ⟨_, ⟨rfl, rfl⟩, hS⟩
theorem sense_Tell_spec (e : Ing.Event) (b : Int) (hs : Land.Small e) (w : World) (gl0 : GV 2 pow10V w) (gl1 : GV 0 Land.verbsV w) : Ret Tryd.prog 19 #[.agg e.enc.toArray, .int .i64 b] w fun v w' => v = .tuple #[vstr (Land.tell e b).1, .bool (Land.tell e b).2] ∧ Keep w w' := by
  refine Ret_body [] [] Tryd.func19 rfl rfl rfl (St.start w []) ?_
  refine G_seq ?_
  refine G_region ?_
  refine GL_box rfl rfl rfl (fun b1 => ?_)
  refine GL_step rfl (PS_assign rfl) ?_
  refine GL_step rfl (PS_assign rfl) ?_
  refine GL_nil ?_
  refine GQ_sub (.cons (k := 1) rfl (.cons (k := 2) rfl (.nil _))) ?_
  refine GQ_then ?_
  refine G_seq ?_
  refine G_seq ?_
  refine G_region ?_
  refine GL_step rfl (PS_move rfl) ?_
  refine GL_step rfl (PS_lss rfl rfl) ?_
  refine GL_step rfl (PS_move rfl) ?_
  refine GL_gf (t := 17) rfl rfl rfl (fun q => PS_move rfl) ?_
  refine GL_gf (t := 17) rfl rfl rfl (fun q => PS_geq (cvE rfl (by rw [q]; rfl)) rfl) ?_
  refine GL_step rfl (PS_or rfl rfl (fun h => by rw [h]; rfl)) ?_
  refine GL_step rfl (PS_move rfl) ?_
  refine GL_gf (t := 21) rfl rfl rfl (fun q => PS_move rfl) ?_
  refine GL_gf (t := 21) rfl rfl rfl (fun q => PS_fieldAddr fa36_10 rfl) ?_
  refine GL_gf (t := 21) rfl rfl rfl (fun q => by have q1 := q; (try simp at q1); exact PS_indexAddr ia22 (cvE rfl (by rw [q]; rfl)) (cvE rfl (by rw [q]; rfl)) (by first | omega | (simp only [List.length_cons, List.length_nil]; omega)) (by first | omega | (simp only [List.length_cons, List.length_nil]; omega))) ?_
  refine GL_gf (t := 21) rfl rfl rfl (fun q => by have q1 := q; (try simp at q1); exact PS_load (cvE rfl (by rw [q]; rfl)) tys3 (.head _) (Ing.Event.l10.comp (Lens.arr (n := 6) flI (by first | omega | (simp only [List.length_cons, List.length_nil]; omega)) (by first | omega | (simp only [List.length_cons, List.length_nil]; omega)))) rfl rfl) ?_
  refine GL_gf (t := 21) rfl rfl rfl (fun q => PS_andb (cvE rfl (by rw [q]; rfl)) rfl (show _ = Land.band _ _ from rfl)) ?_
  refine GL_gf (t := 21) rfl rfl rfl (fun q => PS_eql (cvE rfl (by rw [q]; rfl)) rfl) ?_
  refine GL_step rfl (PS_or rfl rfl (fun h => by rw [h]; rfl)) ?_
  refine GL_nil ?_
  refine GQ_sub (.cons (k := 1) rfl (.cons (k := 2) rfl (.cons (k := 28) rfl (.nil _)))) ?_
  refine GQ_then ?_
  refine G_cond rfl (fun c1 => ?_) (fun c1 => ?_)
  · skip
    have c1p := c1
    try simp only [decide_eq_true_eq, decide_eq_false_iff_not, Bool.not_eq_true', Bool.not_eq_false', Bool.or_eq_true, Bool.and_eq_true, Bool.or_eq_false_iff, Bool.and_eq_false_iff, Int.not_lt, Int.not_le] at c1p
    refine G_seq ?_
    refine G_region ?_
    refine GL_step rfl (PS_assign rfl) ?_
    refine GL_step rfl (PS_assign rfl) ?_
    refine GL_nil ?_
    refine GQ_sub (.cons (k := 4) rfl (.cons (k := 5) rfl (.nil _))) ?_
    refine GQ_then ?_
    refine G_ret ?_
    refine GQ_then_ret ?_
    refine GQ_ret rfl (.tmp rfl (.tmp rfl .nil)) ?_
    intro w1 hS; refine ⟨?_, hS.toKeep⟩; rw [show Land.tell e b = _ from if_t c1]; rfl
  · skip
    have c1p := c1
    try simp only [decide_eq_true_eq, decide_eq_false_iff_not, Bool.not_eq_true', Bool.not_eq_false', Bool.or_eq_true, Bool.and_eq_true, Bool.or_eq_false_iff, Bool.and_eq_false_iff, Int.not_lt, Int.not_le] at c1p
    have hr : 0 ≤ b ∧ b < 6 := by simp at c1; omega
    have htl := Land.textOf_len e b
    have h1l := Land.whoOf_len hs b
    have h2l := Land.whomOf_len hs b
    have h3l := hs.thing
    have h4l := hs.text
    have h5l := Land.called_len e.dir
    have h6l := Lib.itoa_length_le e.n hs.n0 hs.n1
    refine G_skip ?_
    refine GQ_sub (.cons (k := 1) rfl (.cons (k := 2) rfl (.nil _))) ?_
    refine GQ_then ?_
    refine G_seq ?_
    refine G_region ?_
    refine GL_step rfl (PS_fieldAddr fa36_0 rfl) ?_
    refine GL_step rfl (PS_load rfl tys3 (.head _) Ing.Event.l0 rfl rfl) ?_
    refine GL_pure rfl cf28 (.cons rfl .nil) (fun w hS => sense_form_spec _ w) ?_
    refine GL_step rfl (PS_move rfl) ?_
    refine GL_step rfl (PS_extract rfl rfl) ?_
    refine GL_step rfl (PS_extract rfl rfl) ?_
    refine GL_step rfl (PS_assign rfl) ?_
    refine GL_step rfl (PS_assign rfl) ?_
    refine GL_nil ?_
    refine GQ_sub (.cons (k := 1) rfl (.cons (k := 2) rfl (.cons (k := 6) rfl (.cons (k := 7) rfl (.nil _))))) ?_
    refine GQ_then ?_
    refine G_seq ?_
    refine G_region ?_
    refine GL_step rfl (PS_move rfl) ?_
    refine GL_step rfl (PS_assign rfl) ?_
    refine GL_nil ?_
    refine GQ_sub (.cons (k := 1) rfl (.cons (k := 2) rfl (.cons (k := 6) rfl (.cons (k := 8) rfl (.nil _))))) ?_
    refine GQ_then ?_
    refine G_seq ?_
    refine G_seq ?_
    refine G_region ?_
    refine GL_step rfl (PS_move rfl) ?_
    refine GL_step rfl (PS_fieldAddr fa36_2 rfl) ?_
    refine GL_step rfl (PS_load rfl tys3 (.head _) Ing.Event.l2 rfl rfl) ?_
    refine GL_step rfl (PS_eql rfl rfl) ?_
    refine GL_nil ?_
    refine GQ_sub (.cons (k := 1) rfl (.cons (k := 2) rfl (.cons (k := 6) rfl (.cons (k := 8) rfl (.cons (k := 39) rfl (.nil _)))))) ?_
    refine GQ_then ?_
    refine G_set2 (vstr) (s := (Land.textOf e b)) rfl rfl rfl rfl rfl rfl rfl ?_
    refine GQ_sub (.cons (k := 1) rfl (.cons (k := 2) rfl (.cons (k := 8) rfl (.nil _)))) ?_
    refine GQ_then ?_
    refine G_seq ?_
    refine G_seq ?_
    refine G_region ?_
    refine GL_step rfl (PS_move rfl) ?_
    refine GL_step rfl (PS_eql_str rfl rfl) ?_
    refine GL_nil ?_
    refine GQ_sub (.cons (k := 1) rfl (.cons (k := 2) rfl (.cons (k := 8) rfl (.cons (k := 42) rfl (.nil _))))) ?_
    refine GQ_then ?_
    refine G_cond rfl (fun c2 => ?_) (fun c2 => ?_)
    · skip
      have c2p := c2
      try simp only [decide_eq_true_eq, decide_eq_false_iff_not, Bool.not_eq_true', Bool.not_eq_false', Bool.or_eq_true, Bool.and_eq_true, Bool.or_eq_false_iff, Bool.and_eq_false_iff, Int.not_lt, Int.not_le] at c2p
      refine G_seq ?_
      refine G_region ?_
      refine GL_step rfl (PS_assign rfl) ?_
      refine GL_step rfl (PS_assign rfl) ?_
      refine GL_nil ?_
      refine GQ_sub (.cons (k := 4) rfl (.cons (k := 5) rfl (.nil _))) ?_
      refine GQ_then ?_
      refine G_ret ?_
      refine GQ_then_ret ?_
      refine GQ_ret rfl (.tmp rfl (.tmp rfl .nil)) ?_
      intro w1 hS; refine ⟨?_, hS.toKeep⟩; rw [show Land.tell e b = _ from (if_f c1).trans (if_t c2)]; rfl
    · skip
      have c2p := c2
      try simp only [decide_eq_true_eq, decide_eq_false_iff_not, Bool.not_eq_true', Bool.not_eq_false', Bool.or_eq_true, Bool.and_eq_true, Bool.or_eq_false_iff, Bool.and_eq_false_iff, Int.not_lt, Int.not_le] at c2p
      refine G_skip ?_
      refine GQ_sub (.cons (k := 1) rfl (.cons (k := 2) rfl (.cons (k := 8) rfl (.nil _)))) ?_
      refine GQ_then ?_
      refine G_seq ?_
      refine G_planN (N := 6) [0, 1, 0, 4, 3, 31] mix (by kernel_rfl) rfl ?_
      refine Plan_float 0 rfl rfl (by kernel_rfl) (OK_s (EX_s (PS_fieldAddr fa36_6 rfl))) ?_
      refine Plan_float 1 rfl rfl (by kernel_rfl) (OK_s (EX_s (PS_load rfl tys9 (.head _) Ing.Event.l6 rfl rfl))) ?_
      refine Plan_float 2 rfl rfl (by kernel_rfl) (OK_s (EX_s (PS_fieldAddr fa36_7 rfl))) ?_
      refine Plan_float 3 rfl rfl (by kernel_rfl) (OK_s (EX_s (PS_load rfl tys9 (.head _) Ing.Event.l7 rfl rfl))) ?_
      refine Plan_float 4 rfl rfl (by kernel_rfl) (OK_s (EX_s (PS_assign rfl))) ?_
      refine Plan_float 5 rfl rfl (by kernel_rfl) (OK_s (EX_s (PS_assign rfl))) ?_
      refine Plan_end (by kernel_rfl) ?_
      refine GQ_sub (.cons (k := 1) rfl (.cons (k := 2) rfl (.cons (k := 8) rfl (.cons (k := 9) rfl (.cons (k := 10) rfl (.nil _)))))) ?_
      refine GQ_then ?_
      refine G_seq ?_
      refine G_seq ?_
      refine G_region ?_
      refine GL_step rfl (PS_move rfl) ?_
      refine GL_step rfl (PS_fieldAddr fa36_10 rfl) ?_
      refine GL_step rfl (PS_indexAddr ia22 rfl rfl (by first | omega | (simp only [List.length_cons, List.length_nil]; omega)) (by first | omega | (simp only [List.length_cons, List.length_nil]; omega))) ?_
      refine GL_step rfl (PS_load rfl tys3 (.head _) (Ing.Event.l10.comp (Lens.arr (n := 6) flI (by first | omega | (simp only [List.length_cons, List.length_nil]; omega)) (by first | omega | (simp only [List.length_cons, List.length_nil]; omega)))) rfl rfl) ?_
      refine GL_step rfl (PS_andb rfl rfl (show _ = Land.band _ _ from rfl)) ?_
      refine GL_step rfl (PS_neq rfl rfl) ?_
      refine GL_nil ?_
      refine GQ_sub (.cons (k := 1) rfl (.cons (k := 2) rfl (.cons (k := 8) rfl (.cons (k := 9) rfl (.cons (k := 10) rfl (.cons (k := 52) rfl (.nil _))))))) ?_
      refine GQ_then ?_
      refine G_set1 (vstr) (s := (Land.whoOf e b)) rfl rfl rfl rfl rfl ?_
      refine GQ_sub (.cons (k := 1) rfl (.cons (k := 2) rfl (.cons (k := 8) rfl (.cons (k := 9) rfl (.cons (k := 10) rfl (.nil _)))))) ?_
      refine GQ_then ?_
      refine G_seq ?_
      refine G_seq ?_
      refine G_region ?_
      refine GL_step rfl (PS_move rfl) ?_
      refine GL_step rfl (PS_fieldAddr fa36_10 rfl) ?_
      refine GL_step rfl (PS_indexAddr ia22 rfl rfl (by first | omega | (simp only [List.length_cons, List.length_nil]; omega)) (by first | omega | (simp only [List.length_cons, List.length_nil]; omega))) ?_
      refine GL_step rfl (PS_load rfl tys3 (.head _) (Ing.Event.l10.comp (Lens.arr (n := 6) flI (by first | omega | (simp only [List.length_cons, List.length_nil]; omega)) (by first | omega | (simp only [List.length_cons, List.length_nil]; omega)))) rfl rfl) ?_
      refine GL_step rfl (PS_andb rfl rfl (show _ = Land.band _ _ from rfl)) ?_
      refine GL_step rfl (PS_neq rfl rfl) ?_
      refine GL_nil ?_
      refine GQ_sub (.cons (k := 1) rfl (.cons (k := 2) rfl (.cons (k := 8) rfl (.cons (k := 9) rfl (.cons (k := 10) rfl (.cons (k := 58) rfl (.nil _))))))) ?_
      refine GQ_then ?_
      refine G_set1 (vstr) (s := Land.whomA e b) rfl rfl rfl rfl rfl ?_
      refine GQ_sub (.cons (k := 1) rfl (.cons (k := 2) rfl (.cons (k := 8) rfl (.cons (k := 9) rfl (.cons (k := 10) rfl (.nil _)))))) ?_
      refine GQ_then ?_
      refine G_seq ?_
      refine G_seq ?_
      refine G_region ?_
      refine GL_step rfl (PS_move rfl) ?_
      refine GL_step rfl (PS_fieldAddr fa36_3 rfl) ?_
      refine GL_step rfl (PS_load rfl tys3 (.head _) Ing.Event.l3 rfl rfl) ?_
      refine GL_step rfl (PS_eql rfl rfl) ?_
      refine GL_nil ?_
      refine GQ_sub (.cons (k := 2) rfl (.cons (k := 8) rfl (.cons (k := 9) rfl (.cons (k := 10) rfl (.cons (k := 62) rfl (.nil _)))))) ?_
      refine GQ_then ?_
      refine G_set1 (vstr) (s := (Land.whomOf e b)) rfl rfl rfl rfl rfl ?_
      refine GQ_sub (.cons (k := 2) rfl (.cons (k := 8) rfl (.cons (k := 9) rfl (.cons (k := 10) rfl (.nil _))))) ?_
      refine GQ_then ?_
      refine G_seq ?_
      refine G_region ?_
      refine GL_alloc rfl zv57 rfl (fun b2 => ?_)
      refine GL_nilF encY 5 1 ?_
      refine GL_nil ?_
      refine GQ_then ?_
      refine G_seq ?_
      refine G_seq ?_
      refine G_region ?_
      refine GL_step rfl (PS_move rfl) ?_
      refine GL_step rfl (PS_len_str rfl Tryd.underlying9 rfl) ?_
      refine GL_step rfl (PS_move rfl) ?_
      refine GL_nil ?_
      refine GQ_sub (.cons (k := 2) rfl (.cons (k := 8) rfl (.cons (k := 9) rfl (.cons (k := 10) rfl (.cons (k := 11) rfl (.cons (k := 64) rfl (.cons (k := 65) rfl (.nil _)))))))) ?_
      refine GQ_then ?_
      refine G_block ?_
      refine G_subF (.cons (k := 65) rfl (.cons (k := 2) rfl (.cons (k := 8) rfl (.cons (k := 9) rfl (.cons (k := 10) rfl (.cons (k := 11) rfl (.cons (k := 64) rfl (.nil _)))))))) ?_
      refine G_pull (.tail .head) ?_
      refine G_pull (.tail .head) ?_
      refine G_loop4_ (fun (k : Int) (x : Str) (p : Option Addr) (h : Hd) => 0 ≤ k ∧ k ≤ ((Land.textOf e b).length : Int) ∧ x = Land.told e (Land.whoOf e b) (Land.whomOf e b) (Land.textOf e b) k.toNat ∧ (p = none ∨ p = some ⟨b2, 0, none⟩) ∧ h.Z ∧ h.len = x.length) (fun (k : Int) (x : Str) (p : Option Addr) (h : Hd) => (((Land.textOf e b).length : Int) - k).toNat) (fun (k : Int) (x : Str) (p : Option Addr) (h : Hd) => [(65, .int .i64 k)]) (fun (k : Int) (x : Str) (p : Option Addr) (h : Hd) => [Res.own h 5 1 (x.flatMap encY), Res.box b2 57 (BldV.enc ⟨p, h⟩)]) (0) ([]) (none) (⟨none, 0, 0⟩) ?_ rfl rfl (fun k x p h hI1 => ?_)
      · exact ⟨by omega, by omega, rfl, .inl rfl, Hd.Z_nil, rfl⟩
      obtain ⟨hI11, hI12, hI13, hp, hz, hl⟩ := hI1; have hxl := Land.told_len hs h1l h2l (Land.textOf e b) k.toNat; rw [← hI13] at hxl; have hxm : k.toNat * 2000000 ≤ 60000000 := by omega
      refine G_seq ?_
      refine G_region ?_
      refine GL_step rfl (PS_lss rfl rfl) ?_
      refine GL_nil ?_
      refine GQ_then ?_
      refine G_seq ?_
      refine G_cond rfl (fun c3 => ?_) (fun c3 => ?_)
      · skip
        have c3p := c3
        try simp only [decide_eq_true_eq, decide_eq_false_iff_not, Bool.not_eq_true', Bool.not_eq_false', Bool.or_eq_true, Bool.and_eq_true, Bool.or_eq_false_iff, Bool.and_eq_false_iff, Int.not_lt, Int.not_le] at c3p
        refine G_skip ?_
        refine GQ_sub (.cons (k := 2) rfl (.cons (k := 8) rfl (.cons (k := 9) rfl (.cons (k := 10) rfl (.cons (k := 11) rfl (.cons (k := 64) rfl (.cons (k := 65) rfl (.nil _)))))))) ?_
        refine GQ_then ?_
        refine G_seq ?_
        refine G_block ?_
        refine G_seq ?_
        refine G_region ?_
        refine GL_step rfl (PS_move rfl) ?_
        refine GL_step rfl (PS_assign rfl) ?_
        refine GL_nil ?_
        refine GQ_sub (.cons (k := 2) rfl (.cons (k := 8) rfl (.cons (k := 9) rfl (.cons (k := 10) rfl (.cons (k := 11) rfl (.cons (k := 12) rfl (.cons (k := 64) rfl (.cons (k := 65) rfl (.nil _))))))))) ?_
        refine GQ_then ?_
        refine G_seq ?_
        refine G_region ?_
        refine GL_step rfl (PS_move rfl) ?_
        refine GL_step rfl (PS_move rfl) ?_
        refine GL_step rfl (PS_index_str Tryd.underlying9 rfl rfl (by first | omega | (simp only [List.length_cons, List.length_nil]; omega)) (by first | omega | (simp only [List.length_cons, List.length_nil]; omega))) ?_
        refine GL_step rfl (PS_assign rfl) ?_
        refine GL_nil ?_
        refine GQ_sub (.cons (k := 2) rfl (.cons (k := 8) rfl (.cons (k := 9) rfl (.cons (k := 10) rfl (.cons (k := 11) rfl (.cons (k := 12) rfl (.cons (k := 13) rfl (.cons (k := 64) rfl (.cons (k := 65) rfl (.nil _)))))))))) ?_
        refine GQ_then ?_
        refine G_seq ?_
        refine G_region ?_
        refine GL_step rfl (PS_move rfl) ?_
        refine GL_step rfl (PS_eql rfl rfl) ?_
        refine GL_step rfl (PS_move rfl) ?_
        refine GL_gf (t := 73) rfl rfl rfl (fun q => PS_move rfl) ?_
        refine GL_gf (t := 73) rfl rfl rfl (fun q => PS_move rfl) ?_
        refine GL_gf (t := 73) rfl rfl rfl (fun q => by have q1 := q; (try simp at q1); exact PS_sub (cvE rfl (by rw [q]; rfl)) rfl (IntWalk.i64_in _ (by first | omega | (simp only [List.length_cons, List.length_nil]; omega)))) ?_
        refine GL_gf (t := 73) rfl rfl rfl (fun q => by have q1 := q; (try simp at q1); exact PS_index_str Tryd.underlying9 (cvE rfl (by rw [q]; rfl)) (cvE rfl (by rw [q]; rfl)) (by first | omega | (simp only [List.length_cons, List.length_nil]; omega)) (by first | omega | (simp only [List.length_cons, List.length_nil]; omega))) ?_
        refine GL_gf (t := 73) rfl rfl rfl (fun q => PS_eql (cvE rfl (by rw [q]; rfl)) rfl) ?_
        refine GL_step rfl (PS_or rfl rfl (fun h => by rw [h]; rfl)) ?_
        refine GL_step rfl (PS_move rfl) ?_
        refine GL_gt (t := 80) rfl rfl rfl (fun q => PS_move rfl) ?_
        refine GL_gt (t := 80) rfl rfl rfl (fun q => by have q1 := q; (try simp at q1); exact PS_add (cvE rfl q) rfl (IntWalk.i64_in _ (by first | omega | (simp only [List.length_cons, List.length_nil]; omega)))) ?_
        refine GL_gt (t := 80) rfl rfl rfl (fun q => PS_move rfl) ?_
        refine GL_gt (t := 80) rfl rfl rfl (fun q => PS_len_str rfl Tryd.underlying9 (cvE rfl q)) ?_
        refine GL_gt (t := 80) rfl rfl rfl (fun q => PS_eql (cvE rfl q) (cvE rfl q)) ?_
        refine GL_gt (t := 80) rfl rfl rfl (fun q => PS_move (cvE rfl q)) ?_
        refine GL_gfc (t := 86) rfl rfl rfl (fun qc q => PS_move rfl) ?_
        refine GL_gfc (t := 86) rfl rfl rfl (fun qc q => PS_move rfl) ?_
        refine GL_gfc (t := 86) rfl rfl rfl (fun qc q => by have q1 := q; have qc1 := qc; (try simp at q1 qc1); exact PS_add (cvE rfl (by rw [qc, q]; rfl)) rfl (IntWalk.i64_in _ (by first | omega | (simp only [List.length_cons, List.length_nil]; omega)))) ?_
        refine GL_gfc (t := 86) rfl rfl rfl (fun qc q => by have q1 := q; have qc1 := qc; (try simp at q1 qc1); exact PS_index_str Tryd.underlying9 (cvE rfl (by rw [qc, q]; rfl)) (cvE rfl (by rw [qc, q]; rfl)) (by first | omega | (simp only [List.length_cons, List.length_nil]; omega)) (by first | omega | (simp only [List.length_cons, List.length_nil]; omega))) ?_
        refine GL_gfc (t := 86) rfl rfl rfl (fun qc q => PS_eql (cvE rfl (by rw [qc, q]; rfl)) rfl) ?_
        refine GL_gt (t := 80) rfl rfl rfl (fun q => PS_or (cvE rfl q) rfl (fun h => by rw [q, h]; rfl)) ?_
        refine GL_gt (t := 80) rfl rfl rfl (fun q => PS_move (cvE rfl q)) ?_
        refine GL_gfc (t := 93) rfl rfl rfl (fun qc q => PS_move rfl) ?_
        refine GL_gfc (t := 93) rfl rfl rfl (fun qc q => PS_move rfl) ?_
        refine GL_gfc (t := 93) rfl rfl rfl (fun qc q => by have q1 := q; have qc1 := qc; (try simp at q1 qc1); exact PS_add (cvE rfl (by rw [qc, q]; rfl)) rfl (IntWalk.i64_in _ (by first | omega | (simp only [List.length_cons, List.length_nil]; omega)))) ?_
        refine GL_gfc (t := 93) rfl rfl rfl (fun qc q => by have q1 := q; have qc1 := qc; (try simp at q1 qc1); exact PS_index_str Tryd.underlying9 (cvE rfl (by rw [qc, q]; rfl)) (cvE rfl (by rw [qc, q]; rfl)) (by first | omega | (simp only [List.length_cons, List.length_nil]; omega)) (by first | omega | (simp only [List.length_cons, List.length_nil]; omega))) ?_
        refine GL_gfc (t := 93) rfl rfl rfl (fun qc q => PS_eql (cvE rfl (by rw [qc, q]; rfl)) rfl) ?_
        refine GL_gt (t := 80) rfl rfl rfl (fun q => PS_or (cvE rfl q) rfl (fun h => by rw [q, h]; rfl)) ?_
        refine GL_step rfl (PS_and rfl rfl (fun h => h)) ?_
        refine GL_step rfl (PS_assign rfl) ?_
        refine GL_nil ?_
        refine GQ_sub (.cons (k := 2) rfl (.cons (k := 8) rfl (.cons (k := 9) rfl (.cons (k := 10) rfl (.cons (k := 11) rfl (.cons (k := 13) rfl (.cons (k := 14) rfl (.cons (k := 64) rfl (.cons (k := 65) rfl (.nil _)))))))))) ?_
        refine GQ_then ?_
        refine G_block ?_
        refine G_seq ?_
        refine G_region ?_
        refine GL_step rfl (PS_move rfl) ?_
        refine GL_step rfl (PS_not rfl) ?_
        refine GL_step rfl (PS_assign rfl) ?_
        refine GL_nil ?_
        refine GQ_sub (.cons (k := 2) rfl (.cons (k := 8) rfl (.cons (k := 9) rfl (.cons (k := 10) rfl (.cons (k := 11) rfl (.cons (k := 13) rfl (.cons (k := 64) rfl (.cons (k := 65) rfl (.cons (k := 103) rfl (.nil _)))))))))) ?_
        refine GQ_then ?_
        refine G_cond rfl (fun c4 => ?_) (fun c4 => ?_)
        · skip
          have c4p := c4
          try simp only [decide_eq_true_eq, decide_eq_false_iff_not, Bool.not_eq_true', Bool.not_eq_false', Bool.or_eq_true, Bool.and_eq_true, Bool.or_eq_false_iff, Bool.and_eq_false_iff, Int.not_lt, Int.not_le] at c4p
          refine G_region ?_
          refine GL_step rfl (PS_move rfl) ?_
          refine GL_callL rfl cf29 (.cons rfl (.cons rfl .nil)) (.cons (.tail .head) (.cons .head .nil)) (strings_Builder_WriteByte_spec _ _ _ _ (by assumption) (by assumption) (by assumption) _ (by omega)) (fun v1 B hv => ?_)
          obtain ⟨y2, y3, rfl, y4, y5, y6, rfl⟩ := hv
          refine GL_nil ?_
          refine GQ_sub (.cons (k := 2) rfl (.cons (k := 8) rfl (.cons (k := 9) rfl (.cons (k := 10) rfl (.cons (k := 11) rfl (.cons (k := 64) rfl (.cons (k := 65) rfl (.nil _)))))))) ?_
          refine GQ_block ?_
          refine GQ_block ?_
          refine GQ_then ?_
          refine G_region ?_
          refine GL_step rfl (PS_add rfl rfl (IntWalk.i64_in _ (by first | omega | (simp only [List.length_cons, List.length_nil]; omega)))) ?_
          refine GL_step rfl (PS_move rfl) ?_
          refine GL_nil ?_
          refine GQ_sub (.cons (k := 2) rfl (.cons (k := 8) rfl (.cons (k := 9) rfl (.cons (k := 10) rfl (.cons (k := 11) rfl (.cons (k := 64) rfl (.cons (k := 65) rfl (.nil _)))))))) ?_
          refine GQ_pulls (.cons (.tail .head) (.cons .head (.cons .head .nil))) ?_
          refine GQ_dropr ?_
          refine GQ_next4_ (k + 1) _ _ _ ?_ ?_ (.cons (k := 65) rfl (.cons (k := 2) rfl (.cons (k := 8) rfl (.cons (k := 9) rfl (.cons (k := 10) rfl (.cons (k := 11) rfl (.cons (k := 64) rfl (.nil _)))))))) (.refl _)
          · exact ⟨by omega, by omega, by rw [Land.told_next hI11, ← hI13, show Land.piece e (Land.whoOf e b) (Land.whomOf e b) (Land.textOf e b) k = _ from (if_t c4)], by assumption, by assumption, by assumption⟩
          · omega
        · skip
          have c4p := c4
          try simp only [decide_eq_true_eq, decide_eq_false_iff_not, Bool.not_eq_true', Bool.not_eq_false', Bool.or_eq_true, Bool.and_eq_true, Bool.or_eq_false_iff, Bool.and_eq_false_iff, Int.not_lt, Int.not_le] at c4p
          refine G_seq ?_
          refine G_region ?_
          refine GL_step rfl (PS_move rfl) ?_
          refine GL_step rfl (PS_eql rfl rfl) ?_
          refine GL_step rfl (PS_assign rfl) ?_
          refine GL_nil ?_
          refine GQ_sub (.cons (k := 2) rfl (.cons (k := 8) rfl (.cons (k := 9) rfl (.cons (k := 10) rfl (.cons (k := 11) rfl (.cons (k := 13) rfl (.cons (k := 64) rfl (.cons (k := 65) rfl (.cons (k := 108) rfl (.nil _)))))))))) ?_
          refine GQ_then ?_
          refine G_cond rfl (fun c5 => ?_) (fun c5 => ?_)
          · skip
            have c5p := c5
            try simp only [decide_eq_true_eq, decide_eq_false_iff_not, Bool.not_eq_true', Bool.not_eq_false', Bool.or_eq_true, Bool.and_eq_true, Bool.or_eq_false_iff, Bool.and_eq_false_iff, Int.not_lt, Int.not_le] at c5p
            refine G_region ?_
            refine GL_step rfl (PS_move rfl) ?_
            refine GL_callL rfl cf30 (.cons rfl (.cons rfl .nil)) (.cons (.tail .head) (.cons .head .nil)) (strings_Builder_WriteString_spec _ _ _ _ (by assumption) (by assumption) (by assumption) _ (by omega)) (fun v7 B hv => ?_)
            obtain ⟨y8, y9, rfl, y10, y11, y12, rfl⟩ := hv
            refine GL_nil ?_
            refine GQ_sub (.cons (k := 2) rfl (.cons (k := 8) rfl (.cons (k := 9) rfl (.cons (k := 10) rfl (.cons (k := 11) rfl (.cons (k := 64) rfl (.cons (k := 65) rfl (.nil _)))))))) ?_
            refine GQ_block ?_
            refine GQ_block ?_
            refine GQ_then ?_
            refine G_region ?_
            refine GL_step rfl (PS_add rfl rfl (IntWalk.i64_in _ (by first | omega | (simp only [List.length_cons, List.length_nil]; omega)))) ?_
            refine GL_step rfl (PS_move rfl) ?_
            refine GL_nil ?_
            refine GQ_sub (.cons (k := 2) rfl (.cons (k := 8) rfl (.cons (k := 9) rfl (.cons (k := 10) rfl (.cons (k := 11) rfl (.cons (k := 64) rfl (.cons (k := 65) rfl (.nil _)))))))) ?_
            refine GQ_pulls (.cons (.tail .head) (.cons .head (.cons .head .nil))) ?_
            refine GQ_dropr ?_
            refine GQ_next4_ (k + 1) _ _ _ ?_ ?_ (.cons (k := 65) rfl (.cons (k := 2) rfl (.cons (k := 8) rfl (.cons (k := 9) rfl (.cons (k := 10) rfl (.cons (k := 11) rfl (.cons (k := 64) rfl (.nil _)))))))) (.refl _)
            · exact ⟨by omega, by omega, by rw [Land.told_next hI11, ← hI13, show Land.piece e (Land.whoOf e b) (Land.whomOf e b) (Land.textOf e b) k = _ from ((if_f c4).trans (if_t c5))], by assumption, by assumption, by assumption⟩
            · omega
          · skip
            have c5p := c5
            try simp only [decide_eq_true_eq, decide_eq_false_iff_not, Bool.not_eq_true', Bool.not_eq_false', Bool.or_eq_true, Bool.and_eq_true, Bool.or_eq_false_iff, Bool.and_eq_false_iff, Int.not_lt, Int.not_le] at c5p
            refine G_seq ?_
            refine G_region ?_
            refine GL_step rfl (PS_move rfl) ?_
            refine GL_step rfl (PS_eql rfl rfl) ?_
            refine GL_step rfl (PS_assign rfl) ?_
            refine GL_nil ?_
            refine GQ_sub (.cons (k := 2) rfl (.cons (k := 8) rfl (.cons (k := 9) rfl (.cons (k := 10) rfl (.cons (k := 11) rfl (.cons (k := 13) rfl (.cons (k := 64) rfl (.cons (k := 65) rfl (.cons (k := 113) rfl (.nil _)))))))))) ?_
            refine GQ_then ?_
            refine G_cond rfl (fun c6 => ?_) (fun c6 => ?_)
            · skip
              have c6p := c6
              try simp only [decide_eq_true_eq, decide_eq_false_iff_not, Bool.not_eq_true', Bool.not_eq_false', Bool.or_eq_true, Bool.and_eq_true, Bool.or_eq_false_iff, Bool.and_eq_false_iff, Int.not_lt, Int.not_le] at c6p
              refine G_region ?_
              refine GL_step rfl (PS_move rfl) ?_
              refine GL_callL rfl cf30 (.cons rfl (.cons rfl .nil)) (.cons (.tail .head) (.cons .head .nil)) (strings_Builder_WriteString_spec _ _ _ _ (by assumption) (by assumption) (by assumption) _ (by omega)) (fun v13 B hv => ?_)
              obtain ⟨y14, y15, rfl, y16, y17, y18, rfl⟩ := hv
              refine GL_nil ?_
              refine GQ_sub (.cons (k := 2) rfl (.cons (k := 8) rfl (.cons (k := 9) rfl (.cons (k := 10) rfl (.cons (k := 11) rfl (.cons (k := 64) rfl (.cons (k := 65) rfl (.nil _)))))))) ?_
              refine GQ_block ?_
              refine GQ_block ?_
              refine GQ_then ?_
              refine G_region ?_
              refine GL_step rfl (PS_add rfl rfl (IntWalk.i64_in _ (by first | omega | (simp only [List.length_cons, List.length_nil]; omega)))) ?_
              refine GL_step rfl (PS_move rfl) ?_
              refine GL_nil ?_
              refine GQ_sub (.cons (k := 2) rfl (.cons (k := 8) rfl (.cons (k := 9) rfl (.cons (k := 10) rfl (.cons (k := 11) rfl (.cons (k := 64) rfl (.cons (k := 65) rfl (.nil _)))))))) ?_
              refine GQ_pulls (.cons (.tail .head) (.cons .head (.cons .head .nil))) ?_
              refine GQ_dropr ?_
              refine GQ_next4_ (k + 1) _ _ _ ?_ ?_ (.cons (k := 65) rfl (.cons (k := 2) rfl (.cons (k := 8) rfl (.cons (k := 9) rfl (.cons (k := 10) rfl (.cons (k := 11) rfl (.cons (k := 64) rfl (.nil _)))))))) (.refl _)
              · exact ⟨by omega, by omega, by rw [Land.told_next hI11, ← hI13, show Land.piece e (Land.whoOf e b) (Land.whomOf e b) (Land.textOf e b) k = _ from ((if_f c4).trans ((if_f c5).trans (if_t c6)))], by assumption, by assumption, by assumption⟩
              · omega
            · skip
              have c6p := c6
              try simp only [decide_eq_true_eq, decide_eq_false_iff_not, Bool.not_eq_true', Bool.not_eq_false', Bool.or_eq_true, Bool.and_eq_true, Bool.or_eq_false_iff, Bool.and_eq_false_iff, Int.not_lt, Int.not_le] at c6p
              refine G_seq ?_
              refine G_region ?_
              refine GL_step rfl (PS_move rfl) ?_
              refine GL_step rfl (PS_eql rfl rfl) ?_
              refine GL_step rfl (PS_assign rfl) ?_
              refine GL_nil ?_
              refine GQ_sub (.cons (k := 2) rfl (.cons (k := 8) rfl (.cons (k := 9) rfl (.cons (k := 10) rfl (.cons (k := 11) rfl (.cons (k := 13) rfl (.cons (k := 64) rfl (.cons (k := 65) rfl (.cons (k := 118) rfl (.nil _)))))))))) ?_
              refine GQ_then ?_
              refine G_cond rfl (fun c7 => ?_) (fun c7 => ?_)
              · skip
                have c7p := c7
                try simp only [decide_eq_true_eq, decide_eq_false_iff_not, Bool.not_eq_true', Bool.not_eq_false', Bool.or_eq_true, Bool.and_eq_true, Bool.or_eq_false_iff, Bool.and_eq_false_iff, Int.not_lt, Int.not_le] at c7p
                refine G_region ?_
                refine GL_step rfl (PS_fieldAddr fa36_8 rfl) ?_
                refine GL_step rfl (PS_load rfl tys9 (.tail _ (.tail _ (.head _))) Ing.Event.l8 rfl rfl) ?_
                refine GL_callL rfl cf30 (.cons rfl (.cons rfl .nil)) (.cons (.tail .head) (.cons .head .nil)) (strings_Builder_WriteString_spec _ _ _ _ (by assumption) (by assumption) (by assumption) _ (by omega)) (fun v19 B hv => ?_)
                obtain ⟨y20, y21, rfl, y22, y23, y24, rfl⟩ := hv
                refine GL_nil ?_
                refine GQ_sub (.cons (k := 2) rfl (.cons (k := 8) rfl (.cons (k := 9) rfl (.cons (k := 10) rfl (.cons (k := 11) rfl (.cons (k := 64) rfl (.cons (k := 65) rfl (.nil _)))))))) ?_
                refine GQ_block ?_
                refine GQ_block ?_
                refine GQ_then ?_
                refine G_region ?_
                refine GL_step rfl (PS_add rfl rfl (IntWalk.i64_in _ (by first | omega | (simp only [List.length_cons, List.length_nil]; omega)))) ?_
                refine GL_step rfl (PS_move rfl) ?_
                refine GL_nil ?_
                refine GQ_sub (.cons (k := 2) rfl (.cons (k := 8) rfl (.cons (k := 9) rfl (.cons (k := 10) rfl (.cons (k := 11) rfl (.cons (k := 64) rfl (.cons (k := 65) rfl (.nil _)))))))) ?_
                refine GQ_pulls (.cons (.tail .head) (.cons .head (.cons .head .nil))) ?_
                refine GQ_dropr ?_
                refine GQ_next4_ (k + 1) _ _ _ ?_ ?_ (.cons (k := 65) rfl (.cons (k := 2) rfl (.cons (k := 8) rfl (.cons (k := 9) rfl (.cons (k := 10) rfl (.cons (k := 11) rfl (.cons (k := 64) rfl (.nil _)))))))) (.refl _)
                · exact ⟨by omega, by omega, by rw [Land.told_next hI11, ← hI13, show Land.piece e (Land.whoOf e b) (Land.whomOf e b) (Land.textOf e b) k = _ from ((if_f c4).trans ((if_f c5).trans ((if_f c6).trans (if_t c7))))], by assumption, by assumption, by assumption⟩
                · omega
              · skip
                have c7p := c7
                try simp only [decide_eq_true_eq, decide_eq_false_iff_not, Bool.not_eq_true', Bool.not_eq_false', Bool.or_eq_true, Bool.and_eq_true, Bool.or_eq_false_iff, Bool.and_eq_false_iff, Int.not_lt, Int.not_le] at c7p
                refine G_seq ?_
                refine G_region ?_
                refine GL_step rfl (PS_move rfl) ?_
                refine GL_step rfl (PS_eql rfl rfl) ?_
                refine GL_step rfl (PS_assign rfl) ?_
                refine GL_nil ?_
                refine GQ_sub (.cons (k := 2) rfl (.cons (k := 8) rfl (.cons (k := 9) rfl (.cons (k := 10) rfl (.cons (k := 11) rfl (.cons (k := 13) rfl (.cons (k := 64) rfl (.cons (k := 65) rfl (.cons (k := 124) rfl (.nil _)))))))))) ?_
                refine GQ_then ?_
                refine G_cond rfl (fun c8 => ?_) (fun c8 => ?_)
                · skip
                  have c8p := c8
                  try simp only [decide_eq_true_eq, decide_eq_false_iff_not, Bool.not_eq_true', Bool.not_eq_false', Bool.or_eq_true, Bool.and_eq_true, Bool.or_eq_false_iff, Bool.and_eq_false_iff, Int.not_lt, Int.not_le] at c8p
                  refine G_region ?_
                  refine GL_step rfl (PS_fieldAddr fa36_4 rfl) ?_
                  refine GL_step rfl (PS_load rfl tys3 (.tail _ (.tail _ (.head _))) Ing.Event.l4 rfl rfl) ?_
                  refine GL_pure rfl cf31 (.cons rfl .nil) (fun w hS => words_Called_spec _ w (gl1.st hS)) ?_
                  refine GL_callL rfl cf30 (.cons rfl (.cons rfl .nil)) (.cons (.tail .head) (.cons .head .nil)) (strings_Builder_WriteString_spec _ _ _ _ (by assumption) (by assumption) (by assumption) _ (by omega)) (fun v25 B hv => ?_)
                  obtain ⟨y26, y27, rfl, y28, y29, y30, rfl⟩ := hv
                  refine GL_nil ?_
                  refine GQ_sub (.cons (k := 2) rfl (.cons (k := 8) rfl (.cons (k := 9) rfl (.cons (k := 10) rfl (.cons (k := 11) rfl (.cons (k := 64) rfl (.cons (k := 65) rfl (.nil _)))))))) ?_
                  refine GQ_block ?_
                  refine GQ_block ?_
                  refine GQ_then ?_
                  refine G_region ?_
                  refine GL_step rfl (PS_add rfl rfl (IntWalk.i64_in _ (by first | omega | (simp only [List.length_cons, List.length_nil]; omega)))) ?_
                  refine GL_step rfl (PS_move rfl) ?_
                  refine GL_nil ?_
                  refine GQ_sub (.cons (k := 2) rfl (.cons (k := 8) rfl (.cons (k := 9) rfl (.cons (k := 10) rfl (.cons (k := 11) rfl (.cons (k := 64) rfl (.cons (k := 65) rfl (.nil _)))))))) ?_
                  refine GQ_pulls (.cons (.tail .head) (.cons .head (.cons .head .nil))) ?_
                  refine GQ_dropr ?_
                  refine GQ_next4_ (k + 1) _ _ _ ?_ ?_ (.cons (k := 65) rfl (.cons (k := 2) rfl (.cons (k := 8) rfl (.cons (k := 9) rfl (.cons (k := 10) rfl (.cons (k := 11) rfl (.cons (k := 64) rfl (.nil _)))))))) (.refl _)
                  · exact ⟨by omega, by omega, by rw [Land.told_next hI11, ← hI13, show Land.piece e (Land.whoOf e b) (Land.whomOf e b) (Land.textOf e b) k = _ from ((if_f c4).trans ((if_f c5).trans ((if_f c6).trans ((if_f c7).trans (if_t c8)))))], by assumption, by assumption, by assumption⟩
                  · omega
                · skip
                  have c8p := c8
                  try simp only [decide_eq_true_eq, decide_eq_false_iff_not, Bool.not_eq_true', Bool.not_eq_false', Bool.or_eq_true, Bool.and_eq_true, Bool.or_eq_false_iff, Bool.and_eq_false_iff, Int.not_lt, Int.not_le] at c8p
                  refine G_seq ?_
                  refine G_region ?_
                  refine GL_step rfl (PS_move rfl) ?_
                  refine GL_step rfl (PS_eql rfl rfl) ?_
                  refine GL_step rfl (PS_assign rfl) ?_
                  refine GL_nil ?_
                  refine GQ_sub (.cons (k := 2) rfl (.cons (k := 8) rfl (.cons (k := 9) rfl (.cons (k := 10) rfl (.cons (k := 11) rfl (.cons (k := 13) rfl (.cons (k := 64) rfl (.cons (k := 65) rfl (.cons (k := 131) rfl (.nil _)))))))))) ?_
                  refine GQ_then ?_
                  refine G_cond rfl (fun c9 => ?_) (fun c9 => ?_)
                  · skip
                    have c9p := c9
                    try simp only [decide_eq_true_eq, decide_eq_false_iff_not, Bool.not_eq_true', Bool.not_eq_false', Bool.or_eq_true, Bool.and_eq_true, Bool.or_eq_false_iff, Bool.and_eq_false_iff, Int.not_lt, Int.not_le] at c9p
                    refine G_region ?_
                    refine GL_step rfl (PS_fieldAddr fa36_9 rfl) ?_
                    refine GL_step rfl (PS_load rfl tys9 (.tail _ (.tail _ (.head _))) Ing.Event.l9 rfl rfl) ?_
                    refine GL_callL rfl cf30 (.cons rfl (.cons rfl .nil)) (.cons (.tail .head) (.cons .head .nil)) (strings_Builder_WriteString_spec _ _ _ _ (by assumption) (by assumption) (by assumption) _ (by omega)) (fun v31 B hv => ?_)
                    obtain ⟨y32, y33, rfl, y34, y35, y36, rfl⟩ := hv
                    refine GL_nil ?_
                    refine GQ_sub (.cons (k := 2) rfl (.cons (k := 8) rfl (.cons (k := 9) rfl (.cons (k := 10) rfl (.cons (k := 11) rfl (.cons (k := 64) rfl (.cons (k := 65) rfl (.nil _)))))))) ?_
                    refine GQ_block ?_
                    refine GQ_block ?_
                    refine GQ_then ?_
                    refine G_region ?_
                    refine GL_step rfl (PS_add rfl rfl (IntWalk.i64_in _ (by first | omega | (simp only [List.length_cons, List.length_nil]; omega)))) ?_
                    refine GL_step rfl (PS_move rfl) ?_
                    refine GL_nil ?_
                    refine GQ_sub (.cons (k := 2) rfl (.cons (k := 8) rfl (.cons (k := 9) rfl (.cons (k := 10) rfl (.cons (k := 11) rfl (.cons (k := 64) rfl (.cons (k := 65) rfl (.nil _)))))))) ?_
                    refine GQ_pulls (.cons (.tail .head) (.cons .head (.cons .head .nil))) ?_
                    refine GQ_dropr ?_
                    refine GQ_next4_ (k + 1) _ _ _ ?_ ?_ (.cons (k := 65) rfl (.cons (k := 2) rfl (.cons (k := 8) rfl (.cons (k := 9) rfl (.cons (k := 10) rfl (.cons (k := 11) rfl (.cons (k := 64) rfl (.nil _)))))))) (.refl _)
                    · exact ⟨by omega, by omega, by rw [Land.told_next hI11, ← hI13, show Land.piece e (Land.whoOf e b) (Land.whomOf e b) (Land.textOf e b) k = _ from ((if_f c4).trans ((if_f c5).trans ((if_f c6).trans ((if_f c7).trans ((if_f c8).trans (if_t c9))))))], by assumption, by assumption, by assumption⟩
                    · omega
                  · skip
                    have c9p := c9
                    try simp only [decide_eq_true_eq, decide_eq_false_iff_not, Bool.not_eq_true', Bool.not_eq_false', Bool.or_eq_true, Bool.and_eq_true, Bool.or_eq_false_iff, Bool.and_eq_false_iff, Int.not_lt, Int.not_le] at c9p
                    refine G_seq ?_
                    refine G_region ?_
                    refine GL_step rfl (PS_move rfl) ?_
                    refine GL_step rfl (PS_eql rfl rfl) ?_
                    refine GL_step rfl (PS_assign rfl) ?_
                    refine GL_nil ?_
                    refine GQ_sub (.cons (k := 2) rfl (.cons (k := 8) rfl (.cons (k := 9) rfl (.cons (k := 10) rfl (.cons (k := 11) rfl (.cons (k := 13) rfl (.cons (k := 64) rfl (.cons (k := 65) rfl (.cons (k := 137) rfl (.nil _)))))))))) ?_
                    refine GQ_then ?_
                    refine G_cond rfl (fun c10 => ?_) (fun c10 => ?_)
                    · skip
                      have c10p := c10
                      try simp only [decide_eq_true_eq, decide_eq_false_iff_not, Bool.not_eq_true', Bool.not_eq_false', Bool.or_eq_true, Bool.and_eq_true, Bool.or_eq_false_iff, Bool.and_eq_false_iff, Int.not_lt, Int.not_le] at c10p
                      refine G_region ?_
                      refine GL_step rfl (PS_fieldAddr fa36_5 rfl) ?_
                      refine GL_step rfl (PS_load rfl tys3 (.tail _ (.tail _ (.head _))) Ing.Event.l5 rfl rfl) ?_
                      refine GL_pure rfl cf32 (.cons rfl .nil) (fun w hS => strconv_Itoa_spec _ hs.n0 hs.n1 w (gl0.st hS)) ?_
                      refine GL_callL rfl cf30 (.cons rfl (.cons rfl .nil)) (.cons (.tail .head) (.cons .head .nil)) (strings_Builder_WriteString_spec _ _ _ _ (by assumption) (by assumption) (by assumption) _ (by omega)) (fun v37 B hv => ?_)
                      obtain ⟨y38, y39, rfl, y40, y41, y42, rfl⟩ := hv
                      refine GL_nil ?_
                      refine GQ_sub (.cons (k := 2) rfl (.cons (k := 8) rfl (.cons (k := 9) rfl (.cons (k := 10) rfl (.cons (k := 11) rfl (.cons (k := 64) rfl (.cons (k := 65) rfl (.nil _)))))))) ?_
                      refine GQ_block ?_
                      refine GQ_block ?_
                      refine GQ_then ?_
                      refine G_region ?_
                      refine GL_step rfl (PS_add rfl rfl (IntWalk.i64_in _ (by first | omega | (simp only [List.length_cons, List.length_nil]; omega)))) ?_
                      refine GL_step rfl (PS_move rfl) ?_
                      refine GL_nil ?_
                      refine GQ_sub (.cons (k := 2) rfl (.cons (k := 8) rfl (.cons (k := 9) rfl (.cons (k := 10) rfl (.cons (k := 11) rfl (.cons (k := 64) rfl (.cons (k := 65) rfl (.nil _)))))))) ?_
                      refine GQ_pulls (.cons (.tail .head) (.cons .head (.cons .head .nil))) ?_
                      refine GQ_dropr ?_
                      refine GQ_next4_ (k + 1) _ _ _ ?_ ?_ (.cons (k := 65) rfl (.cons (k := 2) rfl (.cons (k := 8) rfl (.cons (k := 9) rfl (.cons (k := 10) rfl (.cons (k := 11) rfl (.cons (k := 64) rfl (.nil _)))))))) (.refl _)
                      · exact ⟨by omega, by omega, by rw [Land.told_next hI11, ← hI13, show Land.piece e (Land.whoOf e b) (Land.whomOf e b) (Land.textOf e b) k = _ from ((if_f c4).trans ((if_f c5).trans ((if_f c6).trans ((if_f c7).trans ((if_f c8).trans ((if_f c9).trans (if_t c10)))))))], by assumption, by assumption, by assumption⟩
                      · omega
                    · skip
                      have c10p := c10
                      try simp only [decide_eq_true_eq, decide_eq_false_iff_not, Bool.not_eq_true', Bool.not_eq_false', Bool.or_eq_true, Bool.and_eq_true, Bool.or_eq_false_iff, Bool.and_eq_false_iff, Int.not_lt, Int.not_le] at c10p
                      refine G_region ?_
                      refine GL_step rfl (PS_move rfl) ?_
                      refine GL_callL rfl cf29 (.cons rfl (.cons rfl .nil)) (.cons (.tail .head) (.cons .head .nil)) (strings_Builder_WriteByte_spec _ _ _ _ (by assumption) (by assumption) (by assumption) _ (by omega)) (fun v43 B hv => ?_)
                      obtain ⟨y44, y45, rfl, y46, y47, y48, rfl⟩ := hv
                      refine GL_nil ?_
                      refine GQ_sub (.cons (k := 2) rfl (.cons (k := 8) rfl (.cons (k := 9) rfl (.cons (k := 10) rfl (.cons (k := 11) rfl (.cons (k := 64) rfl (.cons (k := 65) rfl (.nil _)))))))) ?_
                      refine GQ_block ?_
                      refine GQ_block ?_
                      refine GQ_then ?_
                      refine G_region ?_
                      refine GL_step rfl (PS_add rfl rfl (IntWalk.i64_in _ (by first | omega | (simp only [List.length_cons, List.length_nil]; omega)))) ?_
                      refine GL_step rfl (PS_move rfl) ?_
                      refine GL_nil ?_
                      refine GQ_sub (.cons (k := 2) rfl (.cons (k := 8) rfl (.cons (k := 9) rfl (.cons (k := 10) rfl (.cons (k := 11) rfl (.cons (k := 64) rfl (.cons (k := 65) rfl (.nil _)))))))) ?_
                      refine GQ_pulls (.cons (.tail .head) (.cons .head (.cons .head .nil))) ?_
                      refine GQ_dropr ?_
                      refine GQ_next4_ (k + 1) _ _ _ ?_ ?_ (.cons (k := 65) rfl (.cons (k := 2) rfl (.cons (k := 8) rfl (.cons (k := 9) rfl (.cons (k := 10) rfl (.cons (k := 11) rfl (.cons (k := 64) rfl (.nil _)))))))) (.refl _)
                      · exact ⟨by omega, by omega, by rw [Land.told_next hI11, ← hI13, show Land.piece e (Land.whoOf e b) (Land.whomOf e b) (Land.textOf e b) k = _ from ((if_f c4).trans ((if_f c5).trans ((if_f c6).trans ((if_f c7).trans ((if_f c8).trans ((if_f c9).trans (if_f c10)))))))], by assumption, by assumption, by assumption⟩
                      · omega
      · skip
        have c3p := c3
        try simp only [decide_eq_true_eq, decide_eq_false_iff_not, Bool.not_eq_true', Bool.not_eq_false', Bool.or_eq_true, Bool.and_eq_true, Bool.or_eq_false_iff, Bool.and_eq_false_iff, Int.not_lt, Int.not_le] at c3p
        obtain rfl : k = ((Land.textOf e b).length : Int) := by omega
        refine G_exit ?_
        refine GQ_then_exit ?_
        refine GQ_then_exit ?_
        refine GQ_block_exit ?_
        refine GQ_sub (.cons (k := 11) rfl (.nil _)) ?_
        refine GQ_then ?_
        refine G_seq ?_
        refine G_region ?_
        refine GL_callL rfl cf33 (.cons rfl .nil) (.cons (.tail .head) (.cons .head .nil)) (strings_Builder_String_spec _ _ _ _ (by assumption) (by assumption) (by omega)) (fun v49 B hv => ?_)
        obtain ⟨rfl, rfl⟩ := hv
        refine GL_step rfl (PS_assign rfl) ?_
        refine GL_step rfl (PS_assign rfl) ?_
        refine GL_nil ?_
        refine GQ_sub (.cons (k := 4) rfl (.cons (k := 5) rfl (.nil _))) ?_
        refine GQ_then ?_
        refine G_ret ?_
        refine GQ_ret rfl (.tmp rfl (.tmp rfl .nil)) ?_
        intro w1 hS; refine ⟨?_, hS.toKeep⟩; rw [show Land.tell e b = _ from (if_f c1).trans (if_f c2), hI13]; rfl
theorem ref_CalledOf_spec (d : Int) (w : World) (gl0 : GV 1 Land.verbsV w) : Ret Tryd.prog 34 #[.int .i64 d] w fun v w' => v = vstr (Land.called d) ∧ Keep w w' := by
  refine Ret_body [] [] Tryd.func34 rfl rfl rfl (St.start w []) ?_
  refine G_seq ?_
  refine G_region ?_
  refine GL_step rfl (PS_assign rfl) ?_
  refine GL_nil ?_
  refine GQ_sub (.cons (k := 0) rfl (.nil _)) ?_
  refine GQ_then ?_
  refine G_seq ?_
  refine G_seq ?_
  refine G_region ?_
  refine GL_step rfl (PS_move rfl) ?_
  refine GL_step rfl (PS_geq rfl rfl) ?_
  refine GL_step rfl (PS_move rfl) ?_
  refine GL_gt (t := 5) rfl rfl rfl (fun q => PS_move rfl) ?_
  refine GL_gt (t := 5) rfl rfl rfl (fun q => PS_lss (cvE rfl q) rfl) ?_
  refine GL_step rfl (PS_and rfl rfl (fun h => h)) ?_
  refine GL_nil ?_
  refine GQ_sub (.cons (k := 0) rfl (.cons (k := 8) rfl (.nil _))) ?_
  refine GQ_then ?_
  refine G_cond rfl (fun c1 => ?_) (fun c1 => ?_)
  · skip
    have c1p := c1
    try simp only [decide_eq_true_eq, decide_eq_false_iff_not, Bool.not_eq_true', Bool.not_eq_false', Bool.or_eq_true, Bool.and_eq_true, Bool.or_eq_false_iff, Bool.and_eq_false_iff, Int.not_lt, Int.not_le] at c1p
    have hr : 0 ≤ d ∧ d < 6 := by simp at c1; omega
    refine G_seq ?_
    refine G_region ?_
    refine GL_step rfl (PS_move rfl) ?_
    refine GL_step rfl (PS_indexAddr ia70 rfl rfl (by omega) (by omega)) ?_
    refine GL_step rfl (PS_ldGV gl0 rfl tys9 (Land.verbs_at hr.1 hr.2)) ?_
    refine GL_step rfl (PS_assign rfl) ?_
    refine GL_nil ?_
    refine GQ_sub (.cons (k := 2) rfl (.nil _)) ?_
    refine GQ_then ?_
    refine G_ret ?_
    refine GQ_then_ret ?_
    refine GQ_ret rfl (.tmp rfl .nil) ?_
    intro w1 hS; refine ⟨?_, hS.toKeep⟩; rw [Land.calledT c1]; rfl
  · skip
    have c1p := c1
    try simp only [decide_eq_true_eq, decide_eq_false_iff_not, Bool.not_eq_true', Bool.not_eq_false', Bool.or_eq_true, Bool.and_eq_true, Bool.or_eq_false_iff, Bool.and_eq_false_iff, Int.not_lt, Int.not_le] at c1p
    refine G_skip ?_
    refine GQ_sub (.nil _) ?_
    refine GQ_then ?_
    refine G_seq ?_
    refine G_region ?_
    refine GL_step rfl (PS_assign rfl) ?_
    refine GL_nil ?_
    refine GQ_then ?_
    refine G_ret ?_
    refine GQ_ret rfl (.tmp rfl .nil) ?_
    intro w1 hS; refine ⟨?_, hS.toKeep⟩; rw [Land.calledR c1]; rfl
theorem ref_TellOf_1_spec (b c : Nat) (own : Bool) (a : Str) (mine theirs : Str) (hm : mine.length ≤ 100) (ht : theirs.length ≤ 100) (hx : a.length ≤ 2000000) : Ctr Tryd.prog 35 #[vstr mine, vstr theirs, .pointer (some ⟨b, 0, none⟩), .pointer (some ⟨c, 0, none⟩)] [Res.box b 4 [.bool own], Res.box c 9 [vstr a]] (fun v B => ∃ s : Str, v = vstr s ∧ s = Land.verbS own a mine theirs ∧ s.length ≤ 2000300 ∧ B = [Res.box b 4 [.bool own], Res.box c 9 [vstr a]]) := by
  intro w hS0
  refine Ret_body _ _ Tryd.func35 rfl rfl rfl (hS0) ?_
  refine G_seq ?_
  refine G_region ?_
  refine GL_step rfl (PS_assign rfl) ?_
  refine GL_nil ?_
  refine GQ_sub (.cons (k := 0) rfl (.cons (k := 1) rfl (.cons (k := 2) rfl (.cons (k := 3) rfl (.nil _))))) ?_
  refine GQ_then ?_
  refine G_seq ?_
  refine G_seq ?_
  refine G_region ?_
  refine GL_step rfl (PS_load1 rfl tys4 (.head _)) ?_
  refine GL_nil ?_
  refine GQ_sub (.cons (k := 0) rfl (.cons (k := 1) rfl (.cons (k := 3) rfl (.cons (k := 7) rfl (.nil _))))) ?_
  refine GQ_then ?_
  refine G_cond rfl (fun c1 => ?_) (fun c1 => ?_)
  · skip
    have c1p := c1
    try simp only [decide_eq_true_eq, decide_eq_false_iff_not, Bool.not_eq_true', Bool.not_eq_false', Bool.or_eq_true, Bool.and_eq_true, Bool.or_eq_false_iff, Bool.and_eq_false_iff, Int.not_lt, Int.not_le] at c1p
    refine G_seq ?_
    refine G_region ?_
    refine GL_step rfl (PS_move rfl) ?_
    refine GL_step rfl (PS_add_str rfl rfl (by first | omega | (simp only [List.length_append, List.length_cons, List.length_nil]; omega))) ?_
    refine GL_step rfl (PS_add_str rfl rfl (by first | omega | (simp only [List.length_append, List.length_cons, List.length_nil]; omega))) ?_
    refine GL_step rfl (PS_assign rfl) ?_
    refine GL_nil ?_
    refine GQ_sub (.cons (k := 6) rfl (.nil _)) ?_
    refine GQ_then ?_
    refine G_ret ?_
    refine GQ_then_ret ?_
    refine GQ_ret rfl (.tmp rfl .nil) ?_
    intro w1 hS
    have hS := (hS.perm (Pulls.perm (.cons .head (.cons .head .nil)))).headL
    exact ⟨_, ⟨_, rfl, (show Land.verbS own a mine theirs = _ from if_t c1).symm, (by simp only [List.length_append, List.length_cons, List.length_nil]; omega), rfl⟩, hS⟩
  · skip
    have c1p := c1
    try simp only [decide_eq_true_eq, decide_eq_false_iff_not, Bool.not_eq_true', Bool.not_eq_false', Bool.or_eq_true, Bool.and_eq_true, Bool.or_eq_false_iff, Bool.and_eq_false_iff, Int.not_lt, Int.not_le] at c1p
    refine G_skip ?_
    refine GQ_sub (.cons (k := 1) rfl (.cons (k := 3) rfl (.nil _))) ?_
    refine GQ_then ?_
    refine G_seq ?_
    refine G_region ?_
    refine GL_step rfl (PS_load1 rfl tys9 (.tail _ (.head _))) ?_
    refine GL_step rfl (PS_add_str rfl rfl (by first | omega | (simp only [List.length_append, List.length_cons, List.length_nil]; omega))) ?_
    refine GL_step rfl (PS_move rfl) ?_
    refine GL_step rfl (PS_add_str rfl rfl (by first | omega | (simp only [List.length_append, List.length_cons, List.length_nil]; omega))) ?_
    refine GL_step rfl (PS_add_str rfl rfl (by first | omega | (simp only [List.length_append, List.length_cons, List.length_nil]; omega))) ?_
    refine GL_step rfl (PS_assign rfl) ?_
    refine GL_nil ?_
    refine GQ_sub (.cons (k := 6) rfl (.nil _)) ?_
    refine GQ_then ?_
    refine G_ret ?_
    refine GQ_ret rfl (.tmp rfl .nil) ?_
    intro w1 hS
    have hS := (hS.perm (Pulls.perm (.cons .head (.cons .head .nil)))).headL
    exact ⟨_, ⟨_, rfl, (show Land.verbS own a mine theirs = _ from if_f c1).symm, (by simp only [List.length_append, List.length_cons, List.length_nil]; omega), rfl⟩, hS⟩
theorem ref_TellOf_2_spec (b c : Nat) (own : Bool) (e : Ing.Event) (hs : Land.Small e) : Ctr Tryd.prog 36 #[.pointer (some ⟨b, 0, none⟩), .pointer (some ⟨c, 0, none⟩)] [Res.box b 4 [.bool own], Res.box c 36 e.enc] (fun v B => ∃ s : Str, v = vstr s ∧ s = Land.theS own e.thing ∧ s.length ≤ 2000300 ∧ B = [Res.box b 4 [.bool own], Res.box c 36 e.enc]) := by
  intro w hS0
  have htl := hs.thing
  refine Ret_body _ _ Tryd.func36 rfl rfl rfl (hS0) ?_
  refine G_seq ?_
  refine G_region ?_
  refine GL_step rfl (PS_assign rfl) ?_
  refine GL_nil ?_
  refine GQ_sub (.cons (k := 0) rfl (.cons (k := 1) rfl (.nil _))) ?_
  refine GQ_then ?_
  refine G_seq ?_
  refine G_seq ?_
  refine G_region ?_
  refine GL_step rfl (PS_load1 rfl tys4 (.head _)) ?_
  refine GL_nil ?_
  refine GQ_sub (.cons (k := 1) rfl (.cons (k := 3) rfl (.nil _))) ?_
  refine GQ_then ?_
  refine G_cond rfl (fun c1 => ?_) (fun c1 => ?_)
  · skip
    have c1p := c1
    try simp only [decide_eq_true_eq, decide_eq_false_iff_not, Bool.not_eq_true', Bool.not_eq_false', Bool.or_eq_true, Bool.and_eq_true, Bool.or_eq_false_iff, Bool.and_eq_false_iff, Int.not_lt, Int.not_le] at c1p
    refine G_seq ?_
    refine G_region ?_
    refine GL_step rfl (PS_fieldAddr fa36_8 rfl) ?_
    refine GL_step rfl (PS_load rfl tys9 (.tail _ (.head _)) Ing.Event.l8 rfl rfl) ?_
    refine GL_step rfl (PS_add_str rfl rfl (by first | omega | (simp only [List.length_append, List.length_cons, List.length_nil]; omega))) ?_
    refine GL_step rfl (PS_assign rfl) ?_
    refine GL_nil ?_
    refine GQ_sub (.cons (k := 2) rfl (.nil _)) ?_
    refine GQ_then ?_
    refine G_ret ?_
    refine GQ_then_ret ?_
    refine GQ_ret rfl (.tmp rfl .nil) ?_
    intro w1 hS
    have hS := (hS.perm (Pulls.perm (.cons .head (.cons .head .nil)))).headL
    exact ⟨_, ⟨_, rfl, (show Land.theS own e.thing = _ from if_t c1).symm, (by simp only [List.length_append, List.length_cons, List.length_nil]; omega), rfl⟩, hS⟩
  · skip
    have c1p := c1
    try simp only [decide_eq_true_eq, decide_eq_false_iff_not, Bool.not_eq_true', Bool.not_eq_false', Bool.or_eq_true, Bool.and_eq_true, Bool.or_eq_false_iff, Bool.and_eq_false_iff, Int.not_lt, Int.not_le] at c1p
    refine G_skip ?_
    refine GQ_sub (.cons (k := 1) rfl (.nil _)) ?_
    refine GQ_then ?_
    refine G_seq ?_
    refine G_region ?_
    refine GL_step rfl (PS_fieldAddr fa36_8 rfl) ?_
    refine GL_step rfl (PS_load rfl tys9 (.tail _ (.head _)) Ing.Event.l8 rfl rfl) ?_
    refine GL_step rfl (PS_add_str rfl rfl (by first | omega | (simp only [List.length_append, List.length_cons, List.length_nil]; omega))) ?_
    refine GL_step rfl (PS_assign rfl) ?_
    refine GL_nil ?_
    refine GQ_sub (.cons (k := 2) rfl (.nil _)) ?_
    refine GQ_then ?_
    refine G_ret ?_
    refine GQ_ret rfl (.tmp rfl .nil) ?_
    intro w1 hS
    have hS := (hS.perm (Pulls.perm (.cons .head (.cons .head .nil)))).headL
    exact ⟨_, ⟨_, rfl, (show Land.theS own e.thing = _ from if_f c1).symm, (by simp only [List.length_append, List.length_cons, List.length_nil]; omega), rfl⟩, hS⟩
end Go.Proofs.YtclcdddimmelaaaDoor
