/- For every input the law LandNests returns true. No condition. -/
import Derived.Test.YtnpbkbianmogoaaRows
import Derived.Test.YtnpbkbianmogoaaEng2
import Derived.Test.YtnpbkbianmogoaaLandNestsPlain
set_option linter.unusedSimpArgs false
set_option linter.unusedVariables false
set_option maxRecDepth 100000
namespace Go.Proofs.Ytnpbkbianmogoaa
open Go Go.Ing Go.RowKit Go.ChangeShapes Go.WideShapes Go.ChangeAt
theorem own : ownKnob Try.prog.godebug = none := by kernel_rfl
theorem laidOut : laidOutB Try.prog = true := by kernel_rfl
theorem sz49 : Sz Try.prog 49 45 := Sz_of (by kernel_rfl)
theorem fa54_1 : FA Try.prog 54 1 84 := FA_of Try.underlying54 rfl sz49
theorem sz48 : Sz Try.prog 48 5 := Sz_of (by kernel_rfl)
theorem ia49 : IA Try.prog 49 9 5 := IA_of Try.underlying49 sz48
theorem tya48 : TyA Try.prog 48 5 := TyA_of Try.underlying48 rfl sz48
theorem zv48 : ZV Try.prog 48 (.agg (Thing.enc (default : Thing)).toArray) := ZV_of (by kernel_rfl)
theorem sz3 : Sz Try.prog 3 1 := Sz_of (by kernel_rfl)
theorem fa48_1 : FA Try.prog 48 1 1 := FA_of Try.underlying48 rfl sz3
theorem tys3 : TyS Try.prog 3 := TyS_of Try.underlying3 rfl
theorem sz4 : Sz Try.prog 4 1 := Sz_of (by kernel_rfl)
theorem fa48_4 : FA Try.prog 48 4 4 := FA_of Try.underlying48 rfl sz4
theorem tys4 : TyS Try.prog 4 := TyS_of Try.underlying4 rfl
theorem fa48_3 : FA Try.prog 48 3 3 := FA_of Try.underlying48 rfl sz3
theorem fa48_2 : FA Try.prog 48 2 2 := FA_of Try.underlying48 rfl sz3
theorem sz52 : Sz Try.prog 52 36 := Sz_of (by kernel_rfl)
theorem fa54_2 : FA Try.prog 54 2 129 := FA_of Try.underlying54 rfl sz52
theorem sz51 : Sz Try.prog 51 6 := Sz_of (by kernel_rfl)
theorem ia52 : IA Try.prog 52 6 6 := IA_of Try.underlying52 sz51
theorem fa51_1 : FA Try.prog 51 1 1 := FA_of Try.underlying51 rfl sz4
theorem sz46 : Sz Try.prog 46 84 := Sz_of (by kernel_rfl)
theorem fa54_0 : FA Try.prog 54 0 0 := FA_of Try.underlying54 rfl sz46
theorem tya46 : TyA Try.prog 46 84 := TyA_of Try.underlying46 rfl sz46
theorem sz45 : Sz Try.prog 45 14 := Sz_of (by kernel_rfl)
theorem tya45 : TyA Try.prog 45 14 := TyA_of Try.underlying45 rfl sz45
theorem zv45 : ZV Try.prog 45 (.agg (Room.enc (default : Room)).toArray) := ZV_of (by kernel_rfl)
theorem sz42 : Sz Try.prog 42 6 := Sz_of (by kernel_rfl)
theorem fa45_2 : FA Try.prog 45 2 2 := FA_of Try.underlying45 rfl sz42
theorem tya42 : TyA Try.prog 42 6 := TyA_of Try.underlying42 rfl sz42
theorem sz43 : Sz Try.prog 43 6 := Sz_of (by kernel_rfl)
theorem fa45_3 : FA Try.prog 45 3 8 := FA_of Try.underlying45 rfl sz43
theorem ia43 : IA Try.prog 43 6 1 := IA_of Try.underlying43 sz4
theorem tya52 : TyA Try.prog 52 36 := TyA_of Try.underlying52 rfl sz52
theorem tya51 : TyA Try.prog 51 6 := TyA_of Try.underlying51 rfl sz51
theorem zv51 : ZV Try.prog 51 (.agg (Being.enc (default : Being)).toArray) := ZV_of (by kernel_rfl)
theorem fa51_3 : FA Try.prog 51 3 3 := FA_of Try.underlying51 rfl sz3
theorem fa51_4 : FA Try.prog 51 4 4 := FA_of Try.underlying51 rfl sz3
theorem fa51_5 : FA Try.prog 51 5 5 := FA_of Try.underlying51 rfl sz3
theorem sz54 : Sz Try.prog 54 165 := Sz_of (by kernel_rfl)
theorem tya54 : TyA Try.prog 54 165 := TyA_of Try.underlying54 rfl sz54
theorem cf55 : CF Try.prog 55 := Try.call55
theorem zv54 : ZV Try.prog 54 (.agg (Land.enc (default : Land)).toArray) := ZV_of (by kernel_rfl)
theorem zv42 : ZV Try.prog 42 (.agg (encA (n := 6) encI (Vector.replicate 6 default)).toArray) := ZV_of (by kernel_rfl)
theorem zv43 : ZV Try.prog 43 (.agg (encA (n := 6) encB (Vector.replicate 6 default)).toArray) := ZV_of (by kernel_rfl)
theorem sz9 : Sz Try.prog 9 1 := Sz_of (by kernel_rfl)
theorem pl45 : Places Try.prog 45 [(0, 1), (1, 1), (2, 6), (8, 6)] := ⟨_, Try.underlying45, fun w => by simp [sz9 w, sz4 w, sz42 w, sz43 w]⟩
theorem is84 : IS Try.prog 84 14 := IS_of Try.underlying84 sz45
theorem ia46 : IA Try.prog 46 6 14 := IA_of Try.underlying46 sz45
theorem pl48 : Places Try.prog 48 [(0, 1), (1, 1), (2, 1), (3, 1), (4, 1)] := ⟨_, Try.underlying48, fun w => by simp [sz9 w, sz3 w, sz4 w]⟩
theorem is85 : IS Try.prog 85 5 := IS_of Try.underlying85 sz48
theorem pl51 : Places Try.prog 51 [(0, 1), (1, 1), (2, 1), (3, 1), (4, 1), (5, 1)] := ⟨_, Try.underlying51, fun w => by simp [sz9 w, sz4 w, sz3 w]⟩
theorem cf37 : CF Try.prog 37 := Try.call37
theorem cf27 : CF Try.prog 27 := Try.call27
theorem cf39 : CF Try.prog 39 := Try.call39
theorem cf28 : CF Try.prog 28 := Try.call28
theorem cf29 : CF Try.prog 29 := Try.call29
theorem cf30 : CF Try.prog 30 := Try.call30
theorem dc9 {H : Type} {enc : TypeId × Value → H} {w : World} : Dc H enc Try.prog w (encS) wfS 9 := Dc_string Try.underlying9
theorem dc4 {H : Type} {enc : TypeId × Value → H} {w : World} : Dc H enc Try.prog w (encB) wfB 4 := Dc_bool Try.underlying4
theorem dc3 {H : Type} {enc : TypeId × Value → H} {w : World} : Dc H enc Try.prog w (encI) wfI 3 := Dc_int Try.underlying3
theorem dc42 {H : Type} {enc : TypeId × Value → H} {w : World} : Dc H enc Try.prog w (encA (n := 6) encI) (wfA wfI) 42 := Dc_arr (sz := 1) Try.underlying42 (by kernel_rfl) (by kernel_rfl) dc3
theorem dc43 {H : Type} {enc : TypeId × Value → H} {w : World} : Dc H enc Try.prog w (encA (n := 6) encB) (wfA wfB) 43 := Dc_arr (sz := 1) Try.underlying43 (by kernel_rfl) (by kernel_rfl) dc4
theorem dc45 {H : Type} {enc : TypeId × Value → H} {w : World} : Dc H enc Try.prog w (Room.enc) Room.wf 45 := Room.dc Try.underlying45 (by kernel_rfl) rfl (by kernel_rfl) dc9 rfl (by kernel_rfl) dc4 rfl (by kernel_rfl) dc42 rfl (by kernel_rfl) dc43
theorem dc46 {H : Type} {enc : TypeId × Value → H} {w : World} : Dc H enc Try.prog w (encA (n := 6) Room.enc) (wfA Room.wf) 46 := Dc_arr (sz := 14) Try.underlying46 (by kernel_rfl) (by kernel_rfl) dc45
theorem dc48 {H : Type} {enc : TypeId × Value → H} {w : World} : Dc H enc Try.prog w (Thing.enc) Thing.wf 48 := Thing.dc Try.underlying48 (by kernel_rfl) rfl (by kernel_rfl) dc9 rfl (by kernel_rfl) dc3 rfl (by kernel_rfl) dc3 rfl (by kernel_rfl) dc3 rfl (by kernel_rfl) dc4
theorem dc49 {H : Type} {enc : TypeId × Value → H} {w : World} : Dc H enc Try.prog w (encA (n := 9) Thing.enc) (wfA Thing.wf) 49 := Dc_arr (sz := 5) Try.underlying49 (by kernel_rfl) (by kernel_rfl) dc48
theorem dc51 {H : Type} {enc : TypeId × Value → H} {w : World} : Dc H enc Try.prog w (Being.enc) Being.wf 51 := Being.dc Try.underlying51 (by kernel_rfl) rfl (by kernel_rfl) dc9 rfl (by kernel_rfl) dc4 rfl (by kernel_rfl) dc4 rfl (by kernel_rfl) dc3 rfl (by kernel_rfl) dc3 rfl (by kernel_rfl) dc3
theorem dc52 {H : Type} {enc : TypeId × Value → H} {w : World} : Dc H enc Try.prog w (encA (n := 6) Being.enc) (wfA Being.wf) 52 := Dc_arr (sz := 6) Try.underlying52 (by kernel_rfl) (by kernel_rfl) dc51
theorem dc54 {H : Type} {enc : TypeId × Value → H} {w : World} : Dc H enc Try.prog w (Land.enc) Land.wf 54 := Land.dc Try.underlying54 (by kernel_rfl) rfl (by kernel_rfl) dc46 rfl (by kernel_rfl) dc49 rfl (by kernel_rfl) dc52
theorem land_goodThing_spec (X : Land) (i : Int) (h0 : 0 ≤ i) (h9 : i < 9) (w : World) : Ret Try.prog 55 #[.agg X.enc.toArray, .int .i64 i] w fun v w' => v = .bool (X.goodThing i) ∧ Keep w w' := by
  refine Ret_body [] [] Try.func55 rfl rfl rfl (St.start w []) ?_
  refine G_seq ?_
  refine G_region ?_
  refine GL_box rfl rfl rfl (fun b1 => ?_)
  refine GL_step rfl (PS_assign rfl) ?_
  refine GL_nil ?_
  refine GQ_sub (.cons (k := 1) rfl (.cons (k := 2) rfl (.nil _))) ?_
  refine GQ_then ?_
  refine G_seq ?_
  refine G_region ?_
  refine GL_step rfl (PS_move rfl) ?_
  refine GL_step rfl (PS_fieldAddr fa54_1 rfl) ?_
  refine GL_step rfl (PS_indexAddr ia49 rfl rfl (by omega) (by omega)) ?_
  refine GL_step rfl (PS_loadA rfl tya48 (.head _) (Land.l1.comp (Lens.arr (n := 9) Thing.fl (by omega) (by omega))) rfl) ?_
  refine GL_alloc rfl zv48 rfl (fun b2 => ?_)
  refine GL_unit (PU_store (Lens.id Thing.fl.len Thing.fl.one) rfl rfl rfl sz48 rfl .head) ?_
  refine GL_nil ?_
  refine GQ_sub (.cons (k := 2) rfl (.cons (k := 5) rfl (.nil _))) ?_
  refine GQ_then ?_
  refine G_seq ?_
  refine G_seq ?_
  refine G_region ?_
  refine GL_step rfl (PS_fieldAddr fa48_1 rfl) ?_
  refine GL_step rfl (PS_load rfl tys3 (.head _) Thing.l1 rfl rfl) ?_
  refine GL_step rfl (PS_lss rfl rfl) ?_
  refine GL_step rfl (PS_move rfl) ?_
  refine GL_gf (t := 15) rfl rfl rfl (fun q => PS_fieldAddr fa48_1 rfl) ?_
  refine GL_gf (t := 15) rfl rfl rfl (fun q => PS_load (cvE rfl (by rw [q]; rfl)) tys3 (.head _) Thing.l1 rfl rfl) ?_
  refine GL_gf (t := 15) rfl rfl rfl (fun q => PS_gtr (cvE rfl (by rw [q]; rfl)) rfl) ?_
  refine GL_step rfl (PS_or rfl rfl (fun h => by rw [h]; rfl)) ?_
  refine GL_step rfl (PS_move rfl) ?_
  refine GL_gf (t := 20) rfl rfl rfl (fun q => PS_fieldAddr fa48_1 rfl) ?_
  refine GL_gf (t := 20) rfl rfl rfl (fun q => PS_load (cvE rfl (by rw [q]; rfl)) tys3 (.head _) Thing.l1 rfl rfl) ?_
  refine GL_gf (t := 20) rfl rfl rfl (fun q => PS_eql (cvE rfl (by rw [q]; rfl)) rfl) ?_
  refine GL_gf (t := 20) rfl rfl rfl (fun q => PS_move (cvE rfl (by rw [q]; rfl))) ?_
  refine GL_gtc (t := 24) rfl rfl rfl (fun qc q => PS_fieldAddr fa48_4 rfl) ?_
  refine GL_gtc (t := 24) rfl rfl rfl (fun qc q => PS_load (cvE rfl (by rw [qc, q]; rfl)) tys4 (.head _) Thing.l4 rfl rfl) ?_
  refine GL_gf (t := 20) rfl rfl rfl (fun q => PS_and (cvE rfl (by rw [q]; rfl)) rfl (fun h => by rw [q, h]; rfl)) ?_
  refine GL_step rfl (PS_or rfl rfl (fun h => by rw [h]; rfl)) ?_
  refine GL_step rfl (PS_move rfl) ?_
  refine GL_gf (t := 29) rfl rfl rfl (fun q => PS_fieldAddr fa48_3 rfl) ?_
  refine GL_gf (t := 29) rfl rfl rfl (fun q => PS_load (cvE rfl (by rw [q]; rfl)) tys3 (.head _) Thing.l3 rfl rfl) ?_
  refine GL_gf (t := 29) rfl rfl rfl (fun q => PS_lss (cvE rfl (by rw [q]; rfl)) rfl) ?_
  refine GL_step rfl (PS_or rfl rfl (fun h => by rw [h]; rfl)) ?_
  refine GL_nil ?_
  refine GQ_sub (.cons (k := 2) rfl (.cons (k := 5) rfl (.cons (k := 33) rfl (.nil _)))) ?_
  refine GQ_then ?_
  refine G_cond rfl (fun c1 => ?_) (fun c1 => ?_)
  · skip
    have c1p := c1
    try simp only [decide_eq_true_eq, decide_eq_false_iff_not, Bool.not_eq_true', Bool.not_eq_false', Bool.or_eq_true, Bool.and_eq_true, Bool.or_eq_false_iff, Bool.and_eq_false_iff, Int.not_lt, Int.not_le] at c1p
    refine G_seq ?_
    refine G_region ?_
    refine GL_step rfl (PS_assign rfl) ?_
    refine GL_nil ?_
    refine GQ_sub (.cons (k := 4) rfl (.nil _)) ?_
    refine GQ_then ?_
    refine G_ret ?_
    refine GQ_then_ret ?_
    refine GQ_ret rfl (.tmp rfl .nil) ?_
    intro w1 hS; refine ⟨congrArg Value.bool ?_, hS.toKeep⟩; simp only [Land.goodThing, c1, ↓reduceIte, Bool.false_eq_true]
  · skip
    have c1p := c1
    try simp only [decide_eq_true_eq, decide_eq_false_iff_not, Bool.not_eq_true', Bool.not_eq_false', Bool.or_eq_true, Bool.and_eq_true, Bool.or_eq_false_iff, Bool.and_eq_false_iff, Int.not_lt, Int.not_le] at c1p
    refine G_skip ?_
    refine GQ_sub (.cons (k := 2) rfl (.cons (k := 5) rfl (.nil _))) ?_
    refine GQ_then ?_
    refine G_seq ?_
    refine G_region ?_
    refine GL_step rfl (PS_fieldAddr fa48_1 rfl) ?_
    refine GL_step rfl (PS_load rfl tys3 (.head _) Thing.l1 rfl rfl) ?_
    refine GL_step rfl (PS_eql rfl rfl) ?_
    refine GL_step rfl (PS_move rfl) ?_
    refine GL_gt (t := 37) rfl rfl rfl (fun q => PS_fieldAddr fa48_4 rfl) ?_
    refine GL_gt (t := 37) rfl rfl rfl (fun q => PS_load (cvE rfl q) tys4 (.head _) Thing.l4 rfl rfl) ?_
    refine GL_step rfl (PS_and rfl rfl (fun h => h)) ?_
    refine GL_step rfl (PS_assign rfl) ?_
    refine GL_nil ?_
    refine GQ_sub (.cons (k := 2) rfl (.cons (k := 5) rfl (.cons (k := 6) rfl (.nil _)))) ?_
    refine GQ_then ?_
    refine G_seq ?_
    refine G_seq ?_
    refine G_region ?_
    refine GL_step rfl (PS_fieldAddr fa48_2 rfl) ?_
    refine GL_step rfl (PS_load rfl tys3 (.head _) Thing.l2 rfl rfl) ?_
    refine GL_nil ?_
    refine GQ_sub (.cons (k := 2) rfl (.cons (k := 5) rfl (.cons (k := 6) rfl (.cons (k := 42) rfl (.nil _))))) ?_
    refine GQ_then ?_
    refine G_block ?_
    refine G_seq ?_
    refine G_region ?_
    refine GL_step rfl (PS_eql rfl rfl) ?_
    refine GL_step rfl (PS_assign rfl) ?_
    refine GL_nil ?_
    refine GQ_sub (.cons (k := 2) rfl (.cons (k := 5) rfl (.cons (k := 6) rfl (.cons (k := 42) rfl (.cons (k := 43) rfl (.nil _)))))) ?_
    refine GQ_then ?_
    refine G_cond rfl (fun c2 => ?_) (fun c2 => ?_)
    · skip
      have c2p := c2
      try simp only [decide_eq_true_eq, decide_eq_false_iff_not, Bool.not_eq_true', Bool.not_eq_false', Bool.or_eq_true, Bool.and_eq_true, Bool.or_eq_false_iff, Bool.and_eq_false_iff, Int.not_lt, Int.not_le] at c2p
      refine G_seq ?_
      refine G_region ?_
      refine GL_step rfl (PS_fieldAddr fa48_3 rfl) ?_
      refine GL_step rfl (PS_load rfl tys3 (.head _) Thing.l3 rfl rfl) ?_
      refine GL_step rfl (PS_lss rfl rfl) ?_
      refine GL_step rfl (PS_move rfl) ?_
      refine GL_gt (t := 48) rfl rfl rfl (fun q => PS_move rfl) ?_
      refine GL_gt (t := 48) rfl rfl rfl (fun q => PS_not (cvE rfl q)) ?_
      refine GL_step rfl (PS_and rfl rfl (fun h => h)) ?_
      refine GL_step rfl (PS_assign rfl) ?_
      refine GL_nil ?_
      refine GQ_sub (.cons (k := 4) rfl (.nil _)) ?_
      refine GQ_then ?_
      refine G_ret ?_
      refine GQ_block_ret ?_
      refine GQ_then_ret ?_
      refine GQ_ret rfl (.tmp rfl .nil) ?_
      intro w1 hS; refine ⟨congrArg Value.bool ?_, hS.toKeep⟩; simp only [Land.goodThing, c1, c2, ↓reduceIte, Bool.false_eq_true]
    · skip
      have c2p := c2
      try simp only [decide_eq_true_eq, decide_eq_false_iff_not, Bool.not_eq_true', Bool.not_eq_false', Bool.or_eq_true, Bool.and_eq_true, Bool.or_eq_false_iff, Bool.and_eq_false_iff, Int.not_lt, Int.not_le] at c2p
      refine G_seq ?_
      refine G_region ?_
      refine GL_step rfl (PS_eql rfl rfl) ?_
      refine GL_step rfl (PS_assign rfl) ?_
      refine GL_nil ?_
      refine GQ_sub (.cons (k := 2) rfl (.cons (k := 5) rfl (.cons (k := 6) rfl (.cons (k := 42) rfl (.cons (k := 52) rfl (.nil _)))))) ?_
      refine GQ_then ?_
      refine G_cond rfl (fun c3 => ?_) (fun c3 => ?_)
      · skip
        have c3p := c3
        try simp only [decide_eq_true_eq, decide_eq_false_iff_not, Bool.not_eq_true', Bool.not_eq_false', Bool.or_eq_true, Bool.and_eq_true, Bool.or_eq_false_iff, Bool.and_eq_false_iff, Int.not_lt, Int.not_le] at c3p
        refine G_seq ?_
        refine G_region ?_
        refine GL_step rfl (PS_fieldAddr fa48_3 rfl) ?_
        refine GL_step rfl (PS_load rfl tys3 (.head _) Thing.l3 rfl rfl) ?_
        refine GL_step rfl (PS_lss rfl rfl) ?_
        refine GL_step rfl (PS_move rfl) ?_
        refine GL_gt (t := 57) rfl rfl rfl (fun q => PS_fieldAddr fa48_3 rfl) ?_
        refine GL_gt (t := 57) rfl rfl rfl (fun q => PS_load (cvE rfl q) tys3 (.head _) Thing.l3 rfl rfl) ?_
        refine GL_gt (t := 57) rfl rfl rfl (fun q => PS_fieldAddr fa54_2 rfl) ?_
        refine GL_gt (t := 57) rfl rfl rfl (fun q => by have q1 := q; (try simp at q1); exact PS_indexAddr ia52 (cvE rfl q) (cvE rfl q) (by omega) (by omega)) ?_
        refine GL_gt (t := 57) rfl rfl rfl (fun q => PS_fieldAddr fa51_1 (cvE rfl q)) ?_
        refine GL_gt (t := 57) rfl rfl rfl (fun q => by have q1 := q; (try simp at q1); exact PS_load (cvE rfl q) tys4 (.tail _ (.head _)) ((Land.l2.comp (Lens.arr (n := 6) Being.fl (by omega) (by omega))).comp Being.l1) rfl rfl) ?_
        refine GL_step rfl (PS_and rfl rfl (fun h => h)) ?_
        refine GL_step rfl (PS_assign rfl) ?_
        refine GL_nil ?_
        refine GQ_sub (.cons (k := 4) rfl (.nil _)) ?_
        refine GQ_then ?_
        refine G_ret ?_
        refine GQ_block_ret ?_
        refine GQ_then_ret ?_
        refine GQ_ret rfl (.tmp rfl .nil) ?_
        intro w1 hS; refine ⟨congrArg Value.bool ?_, hS.toKeep⟩; simp only [Land.goodThing, c1, c2, c3, ↓reduceIte, Bool.false_eq_true]
      · skip
        have c3p := c3
        try simp only [decide_eq_true_eq, decide_eq_false_iff_not, Bool.not_eq_true', Bool.not_eq_false', Bool.or_eq_true, Bool.and_eq_true, Bool.or_eq_false_iff, Bool.and_eq_false_iff, Int.not_lt, Int.not_le] at c3p
        refine G_seq ?_
        refine G_region ?_
        refine GL_step rfl (PS_eql rfl rfl) ?_
        refine GL_step rfl (PS_assign rfl) ?_
        refine GL_nil ?_
        refine GQ_sub (.cons (k := 2) rfl (.cons (k := 5) rfl (.cons (k := 6) rfl (.cons (k := 65) rfl (.nil _))))) ?_
        refine GQ_then ?_
        refine G_cond rfl (fun c4 => ?_) (fun c4 => ?_)
        · skip
          have c4p := c4
          try simp only [decide_eq_true_eq, decide_eq_false_iff_not, Bool.not_eq_true', Bool.not_eq_false', Bool.or_eq_true, Bool.and_eq_true, Bool.or_eq_false_iff, Bool.and_eq_false_iff, Int.not_lt, Int.not_le] at c4p
          refine G_seq ?_
          refine G_seq ?_
          refine G_region ?_
          refine GL_step rfl (PS_fieldAddr fa48_3 rfl) ?_
          refine GL_step rfl (PS_load rfl tys3 (.head _) Thing.l3 rfl rfl) ?_
          refine GL_step rfl (PS_geq rfl rfl) ?_
          refine GL_step rfl (PS_move rfl) ?_
          refine GL_gf (t := 70) rfl rfl rfl (fun q => PS_fieldAddr fa48_3 rfl) ?_
          refine GL_gf (t := 70) rfl rfl rfl (fun q => PS_load (cvE rfl (by rw [q]; rfl)) tys3 (.head _) Thing.l3 rfl rfl) ?_
          refine GL_gf (t := 70) rfl rfl rfl (fun q => PS_fieldAddr fa54_1 rfl) ?_
          refine GL_gf (t := 70) rfl rfl rfl (fun q => by have q1 := q; (try simp at q1); exact PS_indexAddr ia49 (cvE rfl (by rw [q]; rfl)) (cvE rfl (by rw [q]; rfl)) (by omega) (by omega)) ?_
          refine GL_gf (t := 70) rfl rfl rfl (fun q => PS_fieldAddr fa48_1 (cvE rfl (by rw [q]; rfl))) ?_
          refine GL_gf (t := 70) rfl rfl rfl (fun q => by have q1 := q; (try simp at q1); exact PS_load (cvE rfl (by rw [q]; rfl)) tys3 (.tail _ (.head _)) ((Land.l1.comp (Lens.arr (n := 9) Thing.fl (by omega) (by omega))).comp Thing.l1) rfl rfl) ?_
          refine GL_gf (t := 70) rfl rfl rfl (fun q => PS_neq (cvE rfl (by rw [q]; rfl)) rfl) ?_
          refine GL_step rfl (PS_or rfl rfl (fun h => by rw [h]; rfl)) ?_
          refine GL_step rfl (PS_move rfl) ?_
          refine GL_gf (t := 79) rfl rfl rfl (fun q => PS_move rfl) ?_
          refine GL_step rfl (PS_or rfl rfl (fun h => by rw [h]; rfl)) ?_
          refine GL_nil ?_
          refine GQ_sub (.cons (k := 2) rfl (.cons (k := 5) rfl (.cons (k := 81) rfl (.nil _)))) ?_
          refine GQ_then ?_
          refine G_cond rfl (fun c5 => ?_) (fun c5 => ?_)
          · skip
            have c5p := c5
            try simp only [decide_eq_true_eq, decide_eq_false_iff_not, Bool.not_eq_true', Bool.not_eq_false', Bool.or_eq_true, Bool.and_eq_true, Bool.or_eq_false_iff, Bool.and_eq_false_iff, Int.not_lt, Int.not_le] at c5p
            refine G_seq ?_
            refine G_region ?_
            refine GL_step rfl (PS_assign rfl) ?_
            refine GL_nil ?_
            refine GQ_sub (.cons (k := 4) rfl (.nil _)) ?_
            refine GQ_then ?_
            refine G_ret ?_
            refine GQ_then_ret ?_
            refine GQ_block_ret ?_
            refine GQ_then_ret ?_
            refine GQ_ret rfl (.tmp rfl .nil) ?_
            intro w1 hS; refine ⟨congrArg Value.bool ?_, hS.toKeep⟩; simp only [Land.goodThing, c1, c2, c3, c4, c5, ↓reduceIte, Bool.false_eq_true]
          · skip
            have c5p := c5
            try simp only [decide_eq_true_eq, decide_eq_false_iff_not, Bool.not_eq_true', Bool.not_eq_false', Bool.or_eq_true, Bool.and_eq_true, Bool.or_eq_false_iff, Bool.and_eq_false_iff, Int.not_lt, Int.not_le] at c5p
            refine G_skip ?_
            refine GQ_sub (.cons (k := 2) rfl (.cons (k := 5) rfl (.nil _))) ?_
            refine GQ_then ?_
            refine G_seq ?_
            refine G_region ?_
            refine GL_step rfl (PS_move rfl) ?_
            refine GL_nil ?_
            refine GQ_then ?_
            refine G_block ?_
            refine G_subF (.cons (k := 82) rfl (.cons (k := 2) rfl (.cons (k := 5) rfl (.nil _)))) ?_
            refine G_loop2 (σ := Int × Thing) (fun s => 0 ≤ s.1 ∧ s.1 ≤ 10 ∧ X.goodThing i = X.climb (10 - s.1).toNat s.2) (fun s => (10 - s.1).toNat) (fun s => [(82, .int .i64 s.1)]) (fun s => [Res.box b2 48 (Thing.enc s.2)]) (0, X.things.at i) ?_ rfl rfl (fun s hI1 => ?_)
            · refine ⟨Int.le_refl _, by omega, ?_⟩; simp only [Land.goodThing, c1, c2, c3, c4, c5, ↓reduceIte, Bool.false_eq_true]; rfl
            obtain ⟨k, t⟩ := s; obtain ⟨hI11, hI12, hI13⟩ := hI1; dsimp only at *
            refine G_seq ?_
            refine G_region ?_
            refine GL_step rfl (PS_lss rfl rfl) ?_
            refine GL_nil ?_
            refine GQ_then ?_
            refine G_seq ?_
            refine G_cond rfl (fun c6 => ?_) (fun c6 => ?_)
            · skip
              have c6p := c6
              try simp only [decide_eq_true_eq, decide_eq_false_iff_not, Bool.not_eq_true', Bool.not_eq_false', Bool.or_eq_true, Bool.and_eq_true, Bool.or_eq_false_iff, Bool.and_eq_false_iff, Int.not_lt, Int.not_le] at c6p
              rw [show (10 - k).toNat = (10 - (k + 1)).toNat + 1 from by omega, Land.climb, show decide ((10 - (k + 1)).toNat = 0) = decide (k = 9) from decide_eq_decide.2 ⟨by omega, by omega⟩] at hI13
              refine G_skip ?_
              refine GQ_sub (.cons (k := 2) rfl (.cons (k := 5) rfl (.cons (k := 82) rfl (.nil _)))) ?_
              refine GQ_then ?_
              refine G_seq ?_
              refine G_block ?_
              refine G_seq ?_
              refine G_region ?_
              refine GL_step rfl (PS_move rfl) ?_
              refine GL_step rfl (PS_assign rfl) ?_
              refine GL_nil ?_
              refine GQ_sub (.cons (k := 2) rfl (.cons (k := 5) rfl (.cons (k := 7) rfl (.cons (k := 82) rfl (.nil _))))) ?_
              refine GQ_then ?_
              refine G_seq ?_
              refine G_seq ?_
              refine G_region ?_
              refine GL_step rfl (PS_fieldAddr fa48_2 rfl) ?_
              refine GL_step rfl (PS_load rfl tys3 (.head _) Thing.l2 rfl rfl) ?_
              refine GL_step rfl (PS_neq rfl rfl) ?_
              refine GL_nil ?_
              refine GQ_sub (.cons (k := 2) rfl (.cons (k := 5) rfl (.cons (k := 7) rfl (.cons (k := 82) rfl (.cons (k := 87) rfl (.nil _)))))) ?_
              refine GQ_then ?_
              refine G_cond rfl (fun c7 => ?_) (fun c7 => ?_)
              · skip
                have c7p := c7
                try simp only [decide_eq_true_eq, decide_eq_false_iff_not, Bool.not_eq_true', Bool.not_eq_false', Bool.or_eq_true, Bool.and_eq_true, Bool.or_eq_false_iff, Bool.and_eq_false_iff, Int.not_lt, Int.not_le] at c7p
                refine G_seq ?_
                refine G_region ?_
                refine GL_step rfl (PS_assign rfl) ?_
                refine GL_nil ?_
                refine GQ_sub (.cons (k := 4) rfl (.nil _)) ?_
                refine GQ_then ?_
                refine G_ret ?_
                refine GQ_then_ret ?_
                refine GQ_block_ret ?_
                refine GQ_then_ret ?_
                refine GQ_then_ret ?_
                refine GQ_block_ret ?_
                refine GQ_block_ret ?_
                refine GQ_then_ret ?_
                refine GQ_ret rfl (.tmp rfl .nil) ?_
                intro w1 hS; refine ⟨congrArg Value.bool ?_, hS.toKeep⟩; rw [hI13]; simp only [c1, c2, c3, c4, c5, c6, c7, ↓reduceIte, Bool.false_eq_true]
              · skip
                have c7p := c7
                try simp only [decide_eq_true_eq, decide_eq_false_iff_not, Bool.not_eq_true', Bool.not_eq_false', Bool.or_eq_true, Bool.and_eq_true, Bool.or_eq_false_iff, Bool.and_eq_false_iff, Int.not_lt, Int.not_le] at c7p
                refine G_skip ?_
                refine GQ_sub (.cons (k := 2) rfl (.cons (k := 5) rfl (.cons (k := 7) rfl (.cons (k := 82) rfl (.nil _))))) ?_
                refine GQ_then ?_
                refine G_seq ?_
                refine G_seq ?_
                refine G_region ?_
                refine GL_step rfl (PS_move rfl) ?_
                refine GL_step rfl (PS_eql rfl rfl) ?_
                refine GL_step rfl (PS_move rfl) ?_
                refine GL_gf (t := 90) rfl rfl rfl (fun q => PS_fieldAddr fa48_3 rfl) ?_
                refine GL_gf (t := 90) rfl rfl rfl (fun q => PS_load (cvE rfl (by rw [q]; rfl)) tys3 (.head _) Thing.l3 rfl rfl) ?_
                refine GL_gf (t := 90) rfl rfl rfl (fun q => PS_lss (cvE rfl (by rw [q]; rfl)) rfl) ?_
                refine GL_step rfl (PS_or rfl rfl (fun h => by rw [h]; rfl)) ?_
                refine GL_step rfl (PS_move rfl) ?_
                refine GL_gf (t := 95) rfl rfl rfl (fun q => PS_fieldAddr fa48_3 rfl) ?_
                refine GL_gf (t := 95) rfl rfl rfl (fun q => PS_load (cvE rfl (by rw [q]; rfl)) tys3 (.head _) Thing.l3 rfl rfl) ?_
                refine GL_gf (t := 95) rfl rfl rfl (fun q => PS_geq (cvE rfl (by rw [q]; rfl)) rfl) ?_
                refine GL_step rfl (PS_or rfl rfl (fun h => by rw [h]; rfl)) ?_
                refine GL_nil ?_
                refine GQ_sub (.cons (k := 2) rfl (.cons (k := 5) rfl (.cons (k := 82) rfl (.cons (k := 99) rfl (.nil _))))) ?_
                refine GQ_then ?_
                refine G_cond rfl (fun c8 => ?_) (fun c8 => ?_)
                · skip
                  have c8p := c8
                  try simp only [decide_eq_true_eq, decide_eq_false_iff_not, Bool.not_eq_true', Bool.not_eq_false', Bool.or_eq_true, Bool.and_eq_true, Bool.or_eq_false_iff, Bool.and_eq_false_iff, Int.not_lt, Int.not_le] at c8p
                  refine G_seq ?_
                  refine G_region ?_
                  refine GL_step rfl (PS_assign rfl) ?_
                  refine GL_nil ?_
                  refine GQ_sub (.cons (k := 4) rfl (.nil _)) ?_
                  refine GQ_then ?_
                  refine G_ret ?_
                  refine GQ_then_ret ?_
                  refine GQ_block_ret ?_
                  refine GQ_then_ret ?_
                  refine GQ_then_ret ?_
                  refine GQ_block_ret ?_
                  refine GQ_block_ret ?_
                  refine GQ_then_ret ?_
                  refine GQ_ret rfl (.tmp rfl .nil) ?_
                  intro w1 hS; refine ⟨congrArg Value.bool ?_, hS.toKeep⟩; rw [hI13]; simp only [c1, c2, c3, c4, c5, c6, c7, c8, ↓reduceIte, Bool.false_eq_true]
                · skip
                  have c8p := c8
                  try simp only [decide_eq_true_eq, decide_eq_false_iff_not, Bool.not_eq_true', Bool.not_eq_false', Bool.or_eq_true, Bool.and_eq_true, Bool.or_eq_false_iff, Bool.and_eq_false_iff, Int.not_lt, Int.not_le] at c8p
                  refine G_skip ?_
                  refine GQ_sub (.cons (k := 2) rfl (.cons (k := 5) rfl (.cons (k := 82) rfl (.nil _)))) ?_
                  refine GQ_then ?_
                  refine G_region ?_
                  refine GL_step rfl (PS_fieldAddr fa48_3 rfl) ?_
                  refine GL_step rfl (PS_load rfl tys3 (.head _) Thing.l3 rfl rfl) ?_
                  refine GL_step rfl (PS_fieldAddr fa54_1 rfl) ?_
                  refine GL_step rfl (PS_indexAddr ia49 rfl rfl (by omega) (by omega)) ?_
                  refine GL_step rfl (PS_loadA rfl tya48 (.tail _ (.head _)) (Land.l1.comp (Lens.arr (n := 9) Thing.fl (by omega) (by omega))) rfl) ?_
                  refine GL_unit (PU_store (Lens.id Thing.fl.len Thing.fl.one) rfl rfl rfl sz48 rfl .head) ?_
                  refine GL_nil ?_
                  refine GQ_sub (.cons (k := 2) rfl (.cons (k := 5) rfl (.cons (k := 82) rfl (.nil _)))) ?_
                  refine GQ_block ?_
                  refine GQ_then ?_
                  refine G_region ?_
                  refine GL_step rfl (PS_add rfl rfl (IntWalk.i64_in _ (by omega))) ?_
                  refine GL_step rfl (PS_move rfl) ?_
                  refine GL_nil ?_
                  refine GQ_sub (.cons (k := 2) rfl (.cons (k := 5) rfl (.cons (k := 82) rfl (.nil _)))) ?_
                  refine GQ_next2 (k + 1, X.things.at t.at_) ?_ ?_ ?_ ?_
                  · exact ⟨by omega, by omega, by rw [hI13]; simp only [c1, c2, c3, c4, c5, c6, c7, c8, ↓reduceIte, Bool.false_eq_true]⟩
                  · show (10 - (k + 1)).toNat < (10 - k).toNat; omega
                  · exact .cons (k := 82) rfl (.cons (k := 2) rfl (.cons (k := 5) rfl (.nil _)))
                  · exact (.refl _)
            · skip
              have c6p := c6
              try simp only [decide_eq_true_eq, decide_eq_false_iff_not, Bool.not_eq_true', Bool.not_eq_false', Bool.or_eq_true, Bool.and_eq_true, Bool.or_eq_false_iff, Bool.and_eq_false_iff, Int.not_lt, Int.not_le] at c6p
              obtain rfl : k = 10 := by omega
              refine G_exit ?_
              refine GQ_then_exit ?_
              refine GQ_then_exit ?_
              refine GQ_block_exit ?_
              refine GQ_sub (.nil _) ?_
              refine GQ_block ?_
              refine GQ_then ?_
              refine G_seq ?_
              refine G_region ?_
              refine GL_step rfl (PS_assign rfl) ?_
              refine GL_nil ?_
              refine GQ_then ?_
              refine G_ret ?_
              refine GQ_ret rfl (.tmp rfl .nil) ?_
              intro w1 hS; refine ⟨congrArg Value.bool ?_, hS.toKeep⟩; rw [hI13]; rfl
        · skip
          have c4p := c4
          try simp only [decide_eq_true_eq, decide_eq_false_iff_not, Bool.not_eq_true', Bool.not_eq_false', Bool.or_eq_true, Bool.and_eq_true, Bool.or_eq_false_iff, Bool.and_eq_false_iff, Int.not_lt, Int.not_le] at c4p
          refine G_skip ?_
          refine GQ_sub (.nil _) ?_
          refine GQ_block ?_
          refine GQ_then ?_
          refine G_seq ?_
          refine G_region ?_
          refine GL_step rfl (PS_assign rfl) ?_
          refine GL_nil ?_
          refine GQ_then ?_
          refine G_ret ?_
          refine GQ_ret rfl (.tmp rfl .nil) ?_
          intro w1 hS; refine ⟨congrArg Value.bool ?_, hS.toKeep⟩; simp only [Land.goodThing, c1, c2, c3, c4, ↓reduceIte, Bool.false_eq_true]
theorem land_Good_spec (X : Land) (w : World) : Ret Try.prog 27 #[.agg X.enc.toArray] w fun v w' => v = .bool X.good ∧ Keep w w' := by
  refine Ret_body [] [] Try.func27 rfl rfl rfl (St.start w []) ?_
  refine G_seq ?_
  refine G_region ?_
  refine GL_box rfl rfl rfl (fun b1 => ?_)
  refine GL_step rfl (PS_assign rfl) ?_
  refine GL_nil ?_
  refine GQ_sub (.cons (k := 1) rfl (.nil _)) ?_
  refine GQ_then ?_
  refine G_seq ?_
  refine G_seq ?_
  refine G_region ?_
  refine GL_step rfl (PS_fieldAddr fa54_0 rfl) ?_
  refine GL_step rfl (PS_loadA rfl tya46 (.head _) Land.l0 rfl) ?_
  refine GL_step rfl (PS_move rfl) ?_
  refine GL_nil ?_
  refine GQ_sub (.cons (k := 1) rfl (.cons (k := 11) rfl (.cons (k := 12) rfl (.nil _)))) ?_
  refine GQ_then ?_
  refine G_block ?_
  refine G_subF (.cons (k := 12) rfl (.cons (k := 1) rfl (.cons (k := 11) rfl (.nil _)))) ?_
  refine G_loop2 (σ := Int) (fun k => 0 ≤ k ∧ k ≤ 6 ∧ X.good = (allFrom 6 X.goodRoom (6 - k).toNat && (allFrom 6 (fun k => !Land.badBeing (X.beings.at k)) 6 && allFrom 9 X.goodThing 9))) (fun k => (6 - k).toNat) (fun k => [(12, .int .i64 k)]) (fun _ => []) 0 ?_ rfl rfl (fun k hI1 => ?_)
  · exact ⟨Int.le_refl _, by omega, rfl⟩
  obtain ⟨hI11, hI12, hI13⟩ := hI1
  refine G_seq ?_
  refine G_region ?_
  refine GL_step rfl (PS_lss rfl rfl) ?_
  refine GL_nil ?_
  refine GQ_then ?_
  refine G_seq ?_
  refine G_cond rfl (fun c1 => ?_) (fun c1 => ?_)
  · skip
    have c1p := c1
    try simp only [decide_eq_true_eq, decide_eq_false_iff_not, Bool.not_eq_true', Bool.not_eq_false', Bool.or_eq_true, Bool.and_eq_true, Bool.or_eq_false_iff, Bool.and_eq_false_iff, Int.not_lt, Int.not_le] at c1p
    rw [allFrom_step _ (by omega)] at hI13
    refine G_skip ?_
    refine GQ_sub (.cons (k := 1) rfl (.cons (k := 11) rfl (.cons (k := 12) rfl (.nil _)))) ?_
    refine GQ_then ?_
    refine G_seq ?_
    refine G_block ?_
    refine G_seq ?_
    refine G_region ?_
    refine GL_step rfl (PS_indexAA Room.fl Try.underlying46 tya45 rfl rfl (by omega) (by omega)) ?_
    refine GL_alloc rfl zv45 rfl (fun b2 => ?_)
    refine GL_unit (PU_store (Lens.id Room.fl.len Room.fl.one) rfl rfl rfl sz45 rfl .head) ?_
    refine GL_nil ?_
    refine GQ_sub (.cons (k := 1) rfl (.cons (k := 4) rfl (.cons (k := 11) rfl (.cons (k := 12) rfl (.nil _))))) ?_
    refine GQ_then ?_
    refine G_seq ?_
    refine G_region ?_
    refine GL_step rfl (PS_fieldAddr fa45_2 rfl) ?_
    refine GL_step rfl (PS_loadA rfl tya42 (.head _) Room.l2 rfl) ?_
    refine GL_step rfl (PS_move rfl) ?_
    refine GL_nil ?_
    refine GQ_sub (.cons (k := 1) rfl (.cons (k := 4) rfl (.cons (k := 11) rfl (.cons (k := 12) rfl (.cons (k := 16) rfl (.cons (k := 17) rfl (.nil _))))))) ?_
    refine GQ_then ?_
    refine G_block ?_
    refine G_subF (.cons (k := 17) rfl (.cons (k := 1) rfl (.cons (k := 4) rfl (.cons (k := 11) rfl (.cons (k := 12) rfl (.cons (k := 16) rfl (.nil _))))))) ?_
    refine G_loop2 (σ := Int) (fun d => 0 ≤ d ∧ d ≤ 6 ∧ X.goodRoom k = allFrom 6 (fun d => !Land.badExit (X.rooms.at k) d) (6 - d).toNat) (fun d => (6 - d).toNat) (fun d => [(17, .int .i64 d)]) (fun _ => []) 0 ?_ rfl rfl (fun d hI2 => ?_)
    · exact ⟨Int.le_refl _, by omega, rfl⟩
    obtain ⟨hI21, hI22, hI23⟩ := hI2
    refine G_seq ?_
    refine G_region ?_
    refine GL_step rfl (PS_lss rfl rfl) ?_
    refine GL_nil ?_
    refine GQ_then ?_
    refine G_seq ?_
    refine G_cond rfl (fun c2 => ?_) (fun c2 => ?_)
    · skip
      have c2p := c2
      try simp only [decide_eq_true_eq, decide_eq_false_iff_not, Bool.not_eq_true', Bool.not_eq_false', Bool.or_eq_true, Bool.and_eq_true, Bool.or_eq_false_iff, Bool.and_eq_false_iff, Int.not_lt, Int.not_le] at c2p
      rw [allFrom_step _ (by omega)] at hI23
      refine G_skip ?_
      refine GQ_sub (.cons (k := 1) rfl (.cons (k := 4) rfl (.cons (k := 11) rfl (.cons (k := 12) rfl (.cons (k := 16) rfl (.cons (k := 17) rfl (.nil _))))))) ?_
      refine GQ_then ?_
      refine G_seq ?_
      refine G_block ?_
      refine G_seq ?_
      refine G_region ?_
      refine GL_step rfl (PS_move rfl) ?_
      refine GL_step rfl (PS_indexA flI Try.underlying42 sz3 tys3 rfl rfl (by omega) (by omega) rfl) ?_
      refine GL_step rfl (PS_assign rfl) ?_
      refine GL_step rfl (PS_assign rfl) ?_
      refine GL_nil ?_
      refine GQ_sub (.cons (k := 1) rfl (.cons (k := 4) rfl (.cons (k := 5) rfl (.cons (k := 6) rfl (.cons (k := 11) rfl (.cons (k := 12) rfl (.cons (k := 16) rfl (.cons (k := 17) rfl (.nil _))))))))) ?_
      refine GQ_then ?_
      refine G_seq ?_
      refine G_region ?_
      refine GL_step rfl (PS_move rfl) ?_
      refine GL_step rfl (PS_lss rfl rfl) ?_
      refine GL_step rfl (PS_move rfl) ?_
      refine GL_gf (t := 23) rfl rfl rfl (fun q => PS_move rfl) ?_
      refine GL_gf (t := 23) rfl rfl rfl (fun q => PS_gtr (cvE rfl (by rw [q]; rfl)) rfl) ?_
      refine GL_step rfl (PS_or rfl rfl (fun h => by rw [h]; rfl)) ?_
      refine GL_step rfl (PS_move rfl) ?_
      refine GL_gf (t := 27) rfl rfl rfl (fun q => PS_move rfl) ?_
      refine GL_gf (t := 27) rfl rfl rfl (fun q => PS_eql (cvE rfl (by rw [q]; rfl)) rfl) ?_
      refine GL_gf (t := 27) rfl rfl rfl (fun q => PS_move (cvE rfl (by rw [q]; rfl))) ?_
      refine GL_gtc (t := 30) rfl rfl rfl (fun qc q => PS_move rfl) ?_
      refine GL_gtc (t := 30) rfl rfl rfl (fun qc q => PS_fieldAddr fa45_3 rfl) ?_
      refine GL_gtc (t := 30) rfl rfl rfl (fun qc q => by have q1 := q; have qc1 := qc; (try simp at q1 qc1); exact PS_indexAddr ia43 (cvE rfl (by rw [qc, q]; rfl)) (cvE rfl (by rw [qc, q]; rfl)) (by omega) (by omega)) ?_
      refine GL_gtc (t := 30) rfl rfl rfl (fun qc q => by have q1 := q; have qc1 := qc; (try simp at q1 qc1); exact PS_load (cvE rfl (by rw [qc, q]; rfl)) tys4 (.head _) (Room.l3.comp (Lens.arr (n := 6) flB (by omega) (by omega))) rfl rfl) ?_
      refine GL_gf (t := 27) rfl rfl rfl (fun q => PS_and (cvE rfl (by rw [q]; rfl)) rfl (fun h => by rw [q, h]; rfl)) ?_
      refine GL_step rfl (PS_or rfl rfl (fun h => by rw [h]; rfl)) ?_
      refine GL_nil ?_
      refine GQ_sub (.cons (k := 1) rfl (.cons (k := 4) rfl (.cons (k := 11) rfl (.cons (k := 12) rfl (.cons (k := 16) rfl (.cons (k := 17) rfl (.cons (k := 36) rfl (.nil _)))))))) ?_
      refine GQ_then ?_
      refine G_cond rfl (fun c3 => ?_) (fun c3 => ?_)
      · skip
        have c3p := c3
        try simp only [decide_eq_true_eq, decide_eq_false_iff_not, Bool.not_eq_true', Bool.not_eq_false', Bool.or_eq_true, Bool.and_eq_true, Bool.or_eq_false_iff, Bool.and_eq_false_iff, Int.not_lt, Int.not_le] at c3p
        refine G_seq ?_
        refine G_region ?_
        refine GL_step rfl (PS_assign rfl) ?_
        refine GL_nil ?_
        refine GQ_sub (.cons (k := 2) rfl (.nil _)) ?_
        refine GQ_then ?_
        refine G_ret ?_
        refine GQ_block_ret ?_
        refine GQ_then_ret ?_
        refine GQ_then_ret ?_
        refine GQ_block_ret ?_
        refine GQ_block_ret ?_
        refine GQ_then_ret ?_
        refine GQ_then_ret ?_
        refine GQ_block_ret ?_
        refine GQ_then_ret ?_
        refine GQ_ret rfl (.tmp rfl .nil) ?_
        intro w1 hS; refine ⟨congrArg Value.bool ?_, hS.toKeep⟩; rw [hI13, hI23, Land.badExit, c3]; rfl
      · skip
        have c3p := c3
        try simp only [decide_eq_true_eq, decide_eq_false_iff_not, Bool.not_eq_true', Bool.not_eq_false', Bool.or_eq_true, Bool.and_eq_true, Bool.or_eq_false_iff, Bool.and_eq_false_iff, Int.not_lt, Int.not_le] at c3p
        refine G_skip ?_
        refine GQ_sub (.cons (k := 1) rfl (.cons (k := 4) rfl (.cons (k := 11) rfl (.cons (k := 12) rfl (.cons (k := 16) rfl (.cons (k := 17) rfl (.nil _))))))) ?_
        refine GQ_block ?_
        refine GQ_then ?_
        refine G_region ?_
        refine GL_step rfl (PS_add rfl rfl (IntWalk.i64_in _ (by omega))) ?_
        refine GL_step rfl (PS_move rfl) ?_
        refine GL_nil ?_
        refine GQ_sub (.cons (k := 1) rfl (.cons (k := 4) rfl (.cons (k := 11) rfl (.cons (k := 12) rfl (.cons (k := 16) rfl (.cons (k := 17) rfl (.nil _))))))) ?_
        refine GQ_next2 (d + 1) ?_ ?_ ?_ ?_
        · exact ⟨by omega, by omega, by rw [hI23, Land.badExit, c3]; rfl⟩
        · show (6 - (d + 1)).toNat < (6 - d).toNat; omega
        · exact .cons (k := 17) rfl (.cons (k := 1) rfl (.cons (k := 4) rfl (.cons (k := 11) rfl (.cons (k := 12) rfl (.cons (k := 16) rfl (.nil _))))))
        · exact (.refl _)
    · skip
      have c2p := c2
      try simp only [decide_eq_true_eq, decide_eq_false_iff_not, Bool.not_eq_true', Bool.not_eq_false', Bool.or_eq_true, Bool.and_eq_true, Bool.or_eq_false_iff, Bool.and_eq_false_iff, Int.not_lt, Int.not_le] at c2p
      obtain rfl : d = 6 := by omega
      refine G_exit ?_
      refine GQ_then_exit ?_
      refine GQ_then_exit ?_
      refine GQ_block_exit ?_
      refine GQ_sub (.cons (k := 1) rfl (.cons (k := 11) rfl (.cons (k := 12) rfl (.nil _)))) ?_
      refine GQ_block ?_
      refine GQ_then ?_
      refine G_region ?_
      refine GL_step rfl (PS_add rfl rfl (IntWalk.i64_in _ (by omega))) ?_
      refine GL_step rfl (PS_move rfl) ?_
      refine GL_nil ?_
      refine GQ_sub (.cons (k := 1) rfl (.cons (k := 11) rfl (.cons (k := 12) rfl (.nil _)))) ?_
      refine GQ_next2 (k + 1) ?_ ?_ ?_ ?_
      · exact ⟨by omega, by omega, by rw [hI13, hI23]; rfl⟩
      · show (6 - (k + 1)).toNat < (6 - k).toNat; omega
      · exact .cons (k := 12) rfl (.cons (k := 1) rfl (.cons (k := 11) rfl (.nil _)))
      · exact (.cons _ (.refl _))
  · skip
    have c1p := c1
    try simp only [decide_eq_true_eq, decide_eq_false_iff_not, Bool.not_eq_true', Bool.not_eq_false', Bool.or_eq_true, Bool.and_eq_true, Bool.or_eq_false_iff, Bool.and_eq_false_iff, Int.not_lt, Int.not_le] at c1p
    obtain rfl : k = 6 := by omega
    refine G_exit ?_
    refine GQ_then_exit ?_
    refine GQ_then_exit ?_
    refine GQ_block_exit ?_
    refine GQ_sub (.cons (k := 1) rfl (.nil _)) ?_
    refine GQ_then ?_
    refine G_seq ?_
    refine G_seq ?_
    refine G_region ?_
    refine GL_step rfl (PS_fieldAddr fa54_2 rfl) ?_
    refine GL_step rfl (PS_loadA rfl tya52 (.head _) Land.l2 rfl) ?_
    refine GL_step rfl (PS_move rfl) ?_
    refine GL_nil ?_
    refine GQ_sub (.cons (k := 1) rfl (.cons (k := 40) rfl (.cons (k := 41) rfl (.nil _)))) ?_
    refine GQ_then ?_
    refine G_block ?_
    refine G_subF (.cons (k := 41) rfl (.cons (k := 1) rfl (.cons (k := 40) rfl (.nil _)))) ?_
    refine G_loop2 (σ := Int) (fun b => 0 ≤ b ∧ b ≤ 6 ∧ X.good = (allFrom 6 (fun k => !Land.badBeing (X.beings.at k)) (6 - b).toNat && allFrom 9 X.goodThing 9)) (fun b => (6 - b).toNat) (fun b => [(41, .int .i64 b)]) (fun _ => []) 0 ?_ rfl rfl (fun b hI3 => ?_)
    · exact ⟨Int.le_refl _, by omega, hI13⟩
    obtain ⟨hI31, hI32, hI33⟩ := hI3
    refine G_seq ?_
    refine G_region ?_
    refine GL_step rfl (PS_lss rfl rfl) ?_
    refine GL_nil ?_
    refine GQ_then ?_
    refine G_seq ?_
    refine G_cond rfl (fun c4 => ?_) (fun c4 => ?_)
    · skip
      have c4p := c4
      try simp only [decide_eq_true_eq, decide_eq_false_iff_not, Bool.not_eq_true', Bool.not_eq_false', Bool.or_eq_true, Bool.and_eq_true, Bool.or_eq_false_iff, Bool.and_eq_false_iff, Int.not_lt, Int.not_le] at c4p
      rw [allFrom_step _ (by omega)] at hI33
      refine G_skip ?_
      refine GQ_sub (.cons (k := 1) rfl (.cons (k := 40) rfl (.cons (k := 41) rfl (.nil _)))) ?_
      refine GQ_then ?_
      refine G_seq ?_
      refine G_block ?_
      refine G_seq ?_
      refine G_region ?_
      refine GL_step rfl (PS_indexAA Being.fl Try.underlying52 tya51 rfl rfl (by omega) (by omega)) ?_
      refine GL_alloc rfl zv51 rfl (fun b3 => ?_)
      refine GL_unit (PU_store (Lens.id Being.fl.len Being.fl.one) rfl rfl rfl sz51 rfl .head) ?_
      refine GL_nil ?_
      refine GQ_sub (.cons (k := 1) rfl (.cons (k := 8) rfl (.cons (k := 40) rfl (.cons (k := 41) rfl (.nil _))))) ?_
      refine GQ_then ?_
      refine G_seq ?_
      refine G_region ?_
      refine GL_step rfl (PS_fieldAddr fa51_3 rfl) ?_
      refine GL_step rfl (PS_load rfl tys3 (.head _) Being.l3 rfl rfl) ?_
      refine GL_step rfl (PS_lss rfl rfl) ?_
      refine GL_step rfl (PS_move rfl) ?_
      refine GL_gf (t := 47) rfl rfl rfl (fun q => PS_fieldAddr fa51_3 rfl) ?_
      refine GL_gf (t := 47) rfl rfl rfl (fun q => PS_load (cvE rfl (by rw [q]; rfl)) tys3 (.head _) Being.l3 rfl rfl) ?_
      refine GL_gf (t := 47) rfl rfl rfl (fun q => PS_geq (cvE rfl (by rw [q]; rfl)) rfl) ?_
      refine GL_step rfl (PS_or rfl rfl (fun h => by rw [h]; rfl)) ?_
      refine GL_step rfl (PS_move rfl) ?_
      refine GL_gf (t := 52) rfl rfl rfl (fun q => PS_fieldAddr fa51_4 rfl) ?_
      refine GL_gf (t := 52) rfl rfl rfl (fun q => PS_load (cvE rfl (by rw [q]; rfl)) tys3 (.head _) Being.l4 rfl rfl) ?_
      refine GL_gf (t := 52) rfl rfl rfl (fun q => PS_lss (cvE rfl (by rw [q]; rfl)) rfl) ?_
      refine GL_step rfl (PS_or rfl rfl (fun h => by rw [h]; rfl)) ?_
      refine GL_step rfl (PS_move rfl) ?_
      refine GL_gf (t := 57) rfl rfl rfl (fun q => PS_fieldAddr fa51_4 rfl) ?_
      refine GL_gf (t := 57) rfl rfl rfl (fun q => PS_load (cvE rfl (by rw [q]; rfl)) tys3 (.head _) Being.l4 rfl rfl) ?_
      refine GL_gf (t := 57) rfl rfl rfl (fun q => PS_gtr (cvE rfl (by rw [q]; rfl)) rfl) ?_
      refine GL_step rfl (PS_or rfl rfl (fun h => by rw [h]; rfl)) ?_
      refine GL_step rfl (PS_move rfl) ?_
      refine GL_gf (t := 62) rfl rfl rfl (fun q => PS_fieldAddr fa51_5 rfl) ?_
      refine GL_gf (t := 62) rfl rfl rfl (fun q => PS_load (cvE rfl (by rw [q]; rfl)) tys3 (.head _) Being.l5 rfl rfl) ?_
      refine GL_gf (t := 62) rfl rfl rfl (fun q => PS_lss (cvE rfl (by rw [q]; rfl)) rfl) ?_
      refine GL_step rfl (PS_or rfl rfl (fun h => by rw [h]; rfl)) ?_
      refine GL_step rfl (PS_move rfl) ?_
      refine GL_gf (t := 67) rfl rfl rfl (fun q => PS_fieldAddr fa51_5 rfl) ?_
      refine GL_gf (t := 67) rfl rfl rfl (fun q => PS_load (cvE rfl (by rw [q]; rfl)) tys3 (.head _) Being.l5 rfl rfl) ?_
      refine GL_gf (t := 67) rfl rfl rfl (fun q => PS_gtr (cvE rfl (by rw [q]; rfl)) rfl) ?_
      refine GL_step rfl (PS_or rfl rfl (fun h => by rw [h]; rfl)) ?_
      refine GL_step rfl (PS_move rfl) ?_
      refine GL_gf (t := 72) rfl rfl rfl (fun q => PS_fieldAddr fa51_1 rfl) ?_
      refine GL_gf (t := 72) rfl rfl rfl (fun q => PS_load (cvE rfl (by rw [q]; rfl)) tys4 (.head _) Being.l1 rfl rfl) ?_
      refine GL_gf (t := 72) rfl rfl rfl (fun q => PS_not (cvE rfl (by rw [q]; rfl))) ?_
      refine GL_gf (t := 72) rfl rfl rfl (fun q => PS_move (cvE rfl (by rw [q]; rfl))) ?_
      refine GL_gtc (t := 76) rfl rfl rfl (fun qc q => PS_fieldAddr fa51_5 rfl) ?_
      refine GL_gtc (t := 76) rfl rfl rfl (fun qc q => PS_load (cvE rfl (by rw [qc, q]; rfl)) tys3 (.head _) Being.l5 rfl rfl) ?_
      refine GL_gtc (t := 76) rfl rfl rfl (fun qc q => PS_neq (cvE rfl (by rw [qc, q]; rfl)) rfl) ?_
      refine GL_gf (t := 72) rfl rfl rfl (fun q => PS_and (cvE rfl (by rw [q]; rfl)) rfl (fun h => by rw [q, h]; rfl)) ?_
      refine GL_step rfl (PS_or rfl rfl (fun h => by rw [h]; rfl)) ?_
      refine GL_step rfl (PS_move rfl) ?_
      refine GL_gf (t := 82) rfl rfl rfl (fun q => PS_fieldAddr fa51_1 rfl) ?_
      refine GL_gf (t := 82) rfl rfl rfl (fun q => PS_load (cvE rfl (by rw [q]; rfl)) tys4 (.head _) Being.l1 rfl rfl) ?_
      refine GL_gf (t := 82) rfl rfl rfl (fun q => PS_fieldAddr fa51_4 rfl) ?_
      refine GL_gf (t := 82) rfl rfl rfl (fun q => PS_load (cvE rfl (by rw [q]; rfl)) tys3 (.head _) Being.l4 rfl rfl) ?_
      refine GL_gf (t := 82) rfl rfl rfl (fun q => PS_gtr (cvE rfl (by rw [q]; rfl)) rfl) ?_
      refine GL_gf (t := 82) rfl rfl rfl (fun q => PS_neq_bool Try.underlying4 (cvE rfl (by rw [q]; rfl)) (cvE rfl (by rw [q]; rfl))) ?_
      refine GL_step rfl (PS_or rfl rfl (fun h => by rw [h]; rfl)) ?_
      refine GL_nil ?_
      refine GQ_sub (.cons (k := 1) rfl (.cons (k := 40) rfl (.cons (k := 41) rfl (.cons (k := 89) rfl (.nil _))))) ?_
      refine GQ_then ?_
      refine G_cond rfl (fun c5 => ?_) (fun c5 => ?_)
      · skip
        have c5p := c5
        try simp only [decide_eq_true_eq, decide_eq_false_iff_not, Bool.not_eq_true', Bool.not_eq_false', Bool.or_eq_true, Bool.and_eq_true, Bool.or_eq_false_iff, Bool.and_eq_false_iff, Int.not_lt, Int.not_le] at c5p
        refine G_seq ?_
        refine G_region ?_
        refine GL_step rfl (PS_assign rfl) ?_
        refine GL_nil ?_
        refine GQ_sub (.cons (k := 2) rfl (.nil _)) ?_
        refine GQ_then ?_
        refine G_ret ?_
        refine GQ_block_ret ?_
        refine GQ_then_ret ?_
        refine GQ_then_ret ?_
        refine GQ_block_ret ?_
        refine GQ_then_ret ?_
        refine GQ_ret rfl (.tmp rfl .nil) ?_
        intro w1 hS; refine ⟨congrArg Value.bool ?_, hS.toKeep⟩; rw [hI33, Land.badBeing, c5]; rfl
      · skip
        have c5p := c5
        try simp only [decide_eq_true_eq, decide_eq_false_iff_not, Bool.not_eq_true', Bool.not_eq_false', Bool.or_eq_true, Bool.and_eq_true, Bool.or_eq_false_iff, Bool.and_eq_false_iff, Int.not_lt, Int.not_le] at c5p
        refine G_skip ?_
        refine GQ_sub (.cons (k := 1) rfl (.cons (k := 40) rfl (.cons (k := 41) rfl (.nil _)))) ?_
        refine GQ_block ?_
        refine GQ_then ?_
        refine G_region ?_
        refine GL_step rfl (PS_add rfl rfl (IntWalk.i64_in _ (by omega))) ?_
        refine GL_step rfl (PS_move rfl) ?_
        refine GL_nil ?_
        refine GQ_sub (.cons (k := 1) rfl (.cons (k := 40) rfl (.cons (k := 41) rfl (.nil _)))) ?_
        refine GQ_next2 (b + 1) ?_ ?_ ?_ ?_
        · exact ⟨by omega, by omega, by rw [hI33, Land.badBeing, c5]; rfl⟩
        · show (6 - (b + 1)).toNat < (6 - b).toNat; omega
        · exact .cons (k := 41) rfl (.cons (k := 1) rfl (.cons (k := 40) rfl (.nil _)))
        · exact (.cons _ (.refl _))
    · skip
      have c4p := c4
      try simp only [decide_eq_true_eq, decide_eq_false_iff_not, Bool.not_eq_true', Bool.not_eq_false', Bool.or_eq_true, Bool.and_eq_true, Bool.or_eq_false_iff, Bool.and_eq_false_iff, Int.not_lt, Int.not_le] at c4p
      obtain rfl : b = 6 := by omega
      refine G_exit ?_
      refine GQ_then_exit ?_
      refine GQ_then_exit ?_
      refine GQ_block_exit ?_
      refine GQ_sub (.cons (k := 1) rfl (.nil _)) ?_
      refine GQ_then ?_
      refine G_seq ?_
      refine G_seq ?_
      refine G_region ?_
      refine GL_step rfl (PS_move rfl) ?_
      refine GL_nil ?_
      refine GQ_then ?_
      refine G_block ?_
      refine G_subF (.cons (k := 91) rfl (.cons (k := 1) rfl (.nil _))) ?_
      refine G_loop2 (σ := Int) (fun t => 0 ≤ t ∧ t ≤ 9 ∧ X.good = allFrom 9 X.goodThing (9 - t).toNat) (fun t => (9 - t).toNat) (fun t => [(91, .int .i64 t)]) (fun _ => []) 0 ?_ rfl rfl (fun t hI4 => ?_)
      · exact ⟨Int.le_refl _, by omega, hI33⟩
      obtain ⟨hI41, hI42, hI43⟩ := hI4
      refine G_seq ?_
      refine G_region ?_
      refine GL_step rfl (PS_lss rfl rfl) ?_
      refine GL_nil ?_
      refine GQ_then ?_
      refine G_seq ?_
      refine G_cond rfl (fun c6 => ?_) (fun c6 => ?_)
      · skip
        have c6p := c6
        try simp only [decide_eq_true_eq, decide_eq_false_iff_not, Bool.not_eq_true', Bool.not_eq_false', Bool.or_eq_true, Bool.and_eq_true, Bool.or_eq_false_iff, Bool.and_eq_false_iff, Int.not_lt, Int.not_le] at c6p
        rw [allFrom_step _ (by omega)] at hI43
        refine G_skip ?_
        refine GQ_sub (.cons (k := 1) rfl (.cons (k := 91) rfl (.nil _))) ?_
        refine GQ_then ?_
        refine G_seq ?_
        refine G_block ?_
        refine G_seq ?_
        refine G_region ?_
        refine GL_step rfl (PS_move rfl) ?_
        refine GL_step rfl (PS_assign rfl) ?_
        refine GL_nil ?_
        refine GQ_sub (.cons (k := 1) rfl (.cons (k := 9) rfl (.cons (k := 91) rfl (.nil _)))) ?_
        refine GQ_then ?_
        refine G_seq ?_
        refine G_region ?_
        refine GL_step rfl (PS_loadA rfl tya54 (.head _) (Lens.id Land.fl.len Land.fl.one) rfl) ?_
        refine GL_step rfl (PS_move rfl) ?_
        refine GL_pure rfl cf55 (.cons rfl (.cons rfl .nil)) (fun w _ => land_goodThing_spec X _ (by omega) (by omega) w) ?_
        refine GL_step rfl (PS_not rfl) ?_
        refine GL_nil ?_
        refine GQ_sub (.cons (k := 1) rfl (.cons (k := 91) rfl (.cons (k := 97) rfl (.nil _)))) ?_
        refine GQ_then ?_
        refine G_cond rfl (fun c7 => ?_) (fun c7 => ?_)
        · skip
          have c7p := c7
          try simp only [decide_eq_true_eq, decide_eq_false_iff_not, Bool.not_eq_true', Bool.not_eq_false', Bool.or_eq_true, Bool.and_eq_true, Bool.or_eq_false_iff, Bool.and_eq_false_iff, Int.not_lt, Int.not_le] at c7p
          refine G_seq ?_
          refine G_region ?_
          refine GL_step rfl (PS_assign rfl) ?_
          refine GL_nil ?_
          refine GQ_sub (.cons (k := 2) rfl (.nil _)) ?_
          refine GQ_then ?_
          refine G_ret ?_
          refine GQ_block_ret ?_
          refine GQ_then_ret ?_
          refine GQ_then_ret ?_
          refine GQ_block_ret ?_
          refine GQ_then_ret ?_
          refine GQ_ret rfl (.tmp rfl .nil) ?_
          intro w1 hS; refine ⟨congrArg Value.bool ?_, hS.toKeep⟩; rw [hI43, show X.goodThing t = false by simpa using c7]; rfl
        · skip
          have c7p := c7
          try simp only [decide_eq_true_eq, decide_eq_false_iff_not, Bool.not_eq_true', Bool.not_eq_false', Bool.or_eq_true, Bool.and_eq_true, Bool.or_eq_false_iff, Bool.and_eq_false_iff, Int.not_lt, Int.not_le] at c7p
          refine G_skip ?_
          refine GQ_sub (.cons (k := 1) rfl (.cons (k := 91) rfl (.nil _))) ?_
          refine GQ_block ?_
          refine GQ_then ?_
          refine G_region ?_
          refine GL_step rfl (PS_add rfl rfl (IntWalk.i64_in _ (by omega))) ?_
          refine GL_step rfl (PS_move rfl) ?_
          refine GL_nil ?_
          refine GQ_sub (.cons (k := 1) rfl (.cons (k := 91) rfl (.nil _))) ?_
          refine GQ_next2 (t + 1) ?_ ?_ ?_ ?_
          · exact ⟨by omega, by omega, by rw [hI43, show X.goodThing t = true by simpa using c7]; rfl⟩
          · show (9 - (t + 1)).toNat < (9 - t).toNat; omega
          · exact .cons (k := 91) rfl (.cons (k := 1) rfl (.nil _))
          · exact (.refl _)
      · skip
        have c6p := c6
        try simp only [decide_eq_true_eq, decide_eq_false_iff_not, Bool.not_eq_true', Bool.not_eq_false', Bool.or_eq_true, Bool.and_eq_true, Bool.or_eq_false_iff, Bool.and_eq_false_iff, Int.not_lt, Int.not_le] at c6p
        obtain rfl : t = 9 := by omega
        refine G_exit ?_
        refine GQ_then_exit ?_
        refine GQ_then_exit ?_
        refine GQ_block_exit ?_
        refine GQ_sub (.nil _) ?_
        refine GQ_then ?_
        refine G_seq ?_
        refine G_region ?_
        refine GL_step rfl (PS_assign rfl) ?_
        refine GL_nil ?_
        refine GQ_then ?_
        refine G_ret ?_
        refine GQ_ret rfl (.tmp rfl .nil) ?_
        intro w1 hS; refine ⟨congrArg Value.bool ?_, hS.toKeep⟩; rw [hI43]; rfl
theorem land_New_spec  (w : World) : Ret Try.prog 37 #[] w fun v w' => v = .agg Land.new.enc.toArray ∧ Keep w w' := by
  refine Ret_body [] [] Try.func37 rfl rfl rfl (St.start w []) ?_
  refine G_seq ?_
  refine G_region ?_
  refine GL_alloc rfl zv54 rfl (fun b1 => ?_)
  refine GL_nil ?_
  refine GQ_then ?_
  refine G_seq ?_
  refine G_region ?_
  refine GL_alloc rfl zv54 rfl (fun b2 => ?_)
  refine GL_nil ?_
  refine GQ_then ?_
  refine G_seq ?_
  refine G_seq ?_
  refine G_region ?_
  refine GL_step rfl (PS_buildA Try.underlying42 sz3 zv42 rfl (.cons (Lens.arr (n := 6) (i := 0) flI (by decide) (by decide)) rfl rfl rfl (.cons (Lens.arr (n := 6) (i := 1) flI (by decide) (by decide)) rfl rfl rfl (.cons (Lens.arr (n := 6) (i := 2) flI (by decide) (by decide)) rfl rfl rfl (.cons (Lens.arr (n := 6) (i := 3) flI (by decide) (by decide)) rfl rfl rfl (.cons (Lens.arr (n := 6) (i := 4) flI (by decide) (by decide)) rfl rfl rfl (.cons (Lens.arr (n := 6) (i := 5) flI (by decide) (by decide)) rfl rfl rfl .nil))))))) ?_
  refine GL_step rfl (PS_buildA Try.underlying43 sz4 zv43 rfl (.cons (Lens.arr (n := 6) (i := 5) flB (by decide) (by decide)) rfl rfl rfl .nil)) ?_
  refine GL_step rfl (PS_build pl45 zv45 rfl (.cons Room.l0 rfl rfl rfl (.cons Room.l2 rfl rfl rfl (.cons Room.l3 rfl rfl rfl .nil)))) ?_
  refine GL_step rfl (PS_buildA Try.underlying42 sz3 zv42 rfl (.cons (Lens.arr (n := 6) (i := 0) flI (by decide) (by decide)) rfl rfl rfl (.cons (Lens.arr (n := 6) (i := 1) flI (by decide) (by decide)) rfl rfl rfl (.cons (Lens.arr (n := 6) (i := 2) flI (by decide) (by decide)) rfl rfl rfl (.cons (Lens.arr (n := 6) (i := 3) flI (by decide) (by decide)) rfl rfl rfl (.cons (Lens.arr (n := 6) (i := 4) flI (by decide) (by decide)) rfl rfl rfl (.cons (Lens.arr (n := 6) (i := 5) flI (by decide) (by decide)) rfl rfl rfl .nil))))))) ?_
  refine GL_step rfl (PS_build pl45 zv45 rfl (.cons Room.l0 rfl rfl rfl (.cons Room.l2 rfl rfl rfl .nil))) ?_
  refine GL_step rfl (PS_buildA Try.underlying42 sz3 zv42 rfl (.cons (Lens.arr (n := 6) (i := 0) flI (by decide) (by decide)) rfl rfl rfl (.cons (Lens.arr (n := 6) (i := 1) flI (by decide) (by decide)) rfl rfl rfl (.cons (Lens.arr (n := 6) (i := 2) flI (by decide) (by decide)) rfl rfl rfl (.cons (Lens.arr (n := 6) (i := 3) flI (by decide) (by decide)) rfl rfl rfl (.cons (Lens.arr (n := 6) (i := 4) flI (by decide) (by decide)) rfl rfl rfl (.cons (Lens.arr (n := 6) (i := 5) flI (by decide) (by decide)) rfl rfl rfl .nil))))))) ?_
  refine GL_step rfl (PS_build pl45 zv45 rfl (.cons Room.l0 rfl rfl rfl (.cons Room.l2 rfl rfl rfl (.cons Room.l1 rfl rfl rfl .nil)))) ?_
  refine GL_step rfl (PS_buildA Try.underlying42 sz3 zv42 rfl (.cons (Lens.arr (n := 6) (i := 0) flI (by decide) (by decide)) rfl rfl rfl (.cons (Lens.arr (n := 6) (i := 1) flI (by decide) (by decide)) rfl rfl rfl (.cons (Lens.arr (n := 6) (i := 2) flI (by decide) (by decide)) rfl rfl rfl (.cons (Lens.arr (n := 6) (i := 3) flI (by decide) (by decide)) rfl rfl rfl (.cons (Lens.arr (n := 6) (i := 4) flI (by decide) (by decide)) rfl rfl rfl (.cons (Lens.arr (n := 6) (i := 5) flI (by decide) (by decide)) rfl rfl rfl .nil))))))) ?_
  refine GL_step rfl (PS_build pl45 zv45 rfl (.cons Room.l0 rfl rfl rfl (.cons Room.l2 rfl rfl rfl (.cons Room.l1 rfl rfl rfl .nil)))) ?_
  refine GL_step rfl (PS_buildA Try.underlying42 sz3 zv42 rfl (.cons (Lens.arr (n := 6) (i := 0) flI (by decide) (by decide)) rfl rfl rfl (.cons (Lens.arr (n := 6) (i := 1) flI (by decide) (by decide)) rfl rfl rfl (.cons (Lens.arr (n := 6) (i := 2) flI (by decide) (by decide)) rfl rfl rfl (.cons (Lens.arr (n := 6) (i := 3) flI (by decide) (by decide)) rfl rfl rfl (.cons (Lens.arr (n := 6) (i := 4) flI (by decide) (by decide)) rfl rfl rfl (.cons (Lens.arr (n := 6) (i := 5) flI (by decide) (by decide)) rfl rfl rfl .nil))))))) ?_
  refine GL_step rfl (PS_buildA Try.underlying43 sz4 zv43 rfl (.cons (Lens.arr (n := 6) (i := 2) flB (by decide) (by decide)) rfl rfl rfl .nil)) ?_
  refine GL_step rfl (PS_build pl45 zv45 rfl (.cons Room.l0 rfl rfl rfl (.cons Room.l2 rfl rfl rfl (.cons Room.l3 rfl rfl rfl (.cons Room.l1 rfl rfl rfl .nil))))) ?_
  refine GL_step rfl (PS_buildA Try.underlying42 sz3 zv42 rfl (.cons (Lens.arr (n := 6) (i := 0) flI (by decide) (by decide)) rfl rfl rfl (.cons (Lens.arr (n := 6) (i := 1) flI (by decide) (by decide)) rfl rfl rfl (.cons (Lens.arr (n := 6) (i := 2) flI (by decide) (by decide)) rfl rfl rfl (.cons (Lens.arr (n := 6) (i := 3) flI (by decide) (by decide)) rfl rfl rfl (.cons (Lens.arr (n := 6) (i := 4) flI (by decide) (by decide)) rfl rfl rfl (.cons (Lens.arr (n := 6) (i := 5) flI (by decide) (by decide)) rfl rfl rfl .nil))))))) ?_
  refine GL_step rfl (PS_build pl45 zv45 rfl (.cons Room.l0 rfl rfl rfl (.cons Room.l2 rfl rfl rfl .nil))) ?_
  refine GL_bs (cs := encA (n := 6) Room.enc (Vector.replicate 6 default)) (cs' := encA (n := 6) Room.enc Land.roomsV) rfl Try.underlying84 sz45 zv45 (by decide) (by decide) (by kernel_rfl) (.cons (Lens.arr (n := 6) (i := 0) Room.fl (by decide) (by decide)) rfl rfl rfl (.cons (Lens.arr (n := 6) (i := 1) Room.fl (by decide) (by decide)) rfl rfl rfl (.cons (Lens.arr (n := 6) (i := 2) Room.fl (by decide) (by decide)) rfl rfl rfl (.cons (Lens.arr (n := 6) (i := 3) Room.fl (by decide) (by decide)) rfl rfl rfl (.cons (Lens.arr (n := 6) (i := 4) Room.fl (by decide) (by decide)) rfl rfl rfl (.cons (Lens.arr (n := 6) (i := 5) Room.fl (by decide) (by decide)) rfl rfl rfl .nil)))))) ((flA Room.fl).len _) (fun b3 => ?_)
  refine GL_step rfl (PS_len_slice rfl Try.underlying84 rfl) ?_
  refine GL_step rfl (PS_move rfl) ?_
  refine GL_nil ?_
  refine GQ_sub (.cons (k := 0) rfl (.cons (k := 1) rfl (.cons (k := 20) rfl (.cons (k := 21) rfl (.cons (k := 22) rfl (.nil _)))))) ?_
  refine GQ_then ?_
  refine G_block ?_
  refine G_subF (.cons (k := 22) rfl (.cons (k := 0) rfl (.cons (k := 1) rfl (.cons (k := 20) rfl (.cons (k := 21) rfl (.nil _)))))) ?_
  refine G_pull (.tail .head) ?_
  refine G_loop2 (σ := Int) (fun k => 0 ≤ k ∧ k ≤ 6) (fun k => (6 - k).toNat) (fun k => [(22, .int .i64 k)]) (fun k => [Res.box b2 54 (Land.enc (Land.newA k.toNat))]) 0 ?_ rfl rfl (fun k hI1 => ?_)
  · exact ⟨Int.le_refl _, by omega⟩
  obtain ⟨hI11, hI12⟩ := hI1
  refine G_seq ?_
  refine G_region ?_
  refine GL_step rfl (PS_lss rfl rfl) ?_
  refine GL_nil ?_
  refine GQ_then ?_
  refine G_seq ?_
  refine G_cond rfl (fun c1 => ?_) (fun c1 => ?_)
  · skip
    have c1p := c1
    try simp only [decide_eq_true_eq, decide_eq_false_iff_not, Bool.not_eq_true', Bool.not_eq_false', Bool.or_eq_true, Bool.and_eq_true, Bool.or_eq_false_iff, Bool.and_eq_false_iff, Int.not_lt, Int.not_le] at c1p
    refine G_skip ?_
    refine GQ_sub (.cons (k := 0) rfl (.cons (k := 1) rfl (.cons (k := 20) rfl (.cons (k := 21) rfl (.cons (k := 22) rfl (.nil _)))))) ?_
    refine GQ_then ?_
    refine G_seq ?_
    refine G_block ?_
    refine G_seq ?_
    refine G_region ?_
    refine GL_step rfl (PS_move rfl) ?_
    refine GL_step rfl (PS_idxS is84 (by decide) (Kn.own (.tail _ (.head _))) rfl rfl (by omega) (by dsimp only; omega)) ?_
    refine GL_step rfl (PS_ldG rfl tya45 (by decide) Room.fl (Kn.own (.tail _ (.head _))) (by simp; omega)) ?_
    refine GL_alloc rfl zv45 rfl (fun b4 => ?_)
    refine GL_step rfl (PS_assign rfl) ?_
    refine GL_unit (PU_store (Lens.id Room.fl.len Room.fl.one) rfl rfl rfl sz45 rfl .head) ?_
    refine GL_nil ?_
    refine GQ_sub (.cons (k := 0) rfl (.cons (k := 1) rfl (.cons (k := 2) rfl (.cons (k := 3) rfl (.cons (k := 20) rfl (.cons (k := 21) rfl (.cons (k := 22) rfl (.nil _)))))))) ?_
    refine GQ_then ?_
    refine G_region ?_
    refine GL_step rfl (PS_move rfl) ?_
    refine GL_step rfl (PS_loadA rfl tya45 (.head _) (Lens.id Room.fl.len Room.fl.one) rfl) ?_
    refine GL_step rfl (PS_fieldAddr fa54_0 rfl) ?_
    refine GL_step rfl (PS_indexAddr ia46 rfl rfl (by omega) (by omega)) ?_
    refine GL_unit (PU_store (Land.l0.comp (Lens.arr (n := 6) Room.fl (by omega) (by omega))) rfl rfl rfl sz45 rfl (.tail .head)) ?_
    refine GL_nil ?_
    refine GQ_sub (.cons (k := 0) rfl (.cons (k := 1) rfl (.cons (k := 20) rfl (.cons (k := 21) rfl (.cons (k := 22) rfl (.nil _)))))) ?_
    refine GQ_block ?_
    refine GQ_then ?_
    refine G_region ?_
    refine GL_step rfl (PS_add rfl rfl (IntWalk.i64_in _ (by omega))) ?_
    refine GL_step rfl (PS_move rfl) ?_
    refine GL_nil ?_
    refine GQ_sub (.cons (k := 0) rfl (.cons (k := 1) rfl (.cons (k := 20) rfl (.cons (k := 21) rfl (.cons (k := 22) rfl (.nil _)))))) ?_
    refine GQ_next2 (k + 1) ?_ ?_ ?_ ?_
    · exact ⟨by omega, by omega⟩
    · show (6 - (k + 1)).toNat < (6 - k).toNat; omega
    · exact .cons (k := 22) rfl (.cons (k := 0) rfl (.cons (k := 1) rfl (.cons (k := 20) rfl (.cons (k := 21) rfl (.nil _)))))
    · exact (by rw [Land.newA_step (by omega)]; exact (.cons _ (.refl _)))
  · skip
    have c1p := c1
    try simp only [decide_eq_true_eq, decide_eq_false_iff_not, Bool.not_eq_true', Bool.not_eq_false', Bool.or_eq_true, Bool.and_eq_true, Bool.or_eq_false_iff, Bool.and_eq_false_iff, Int.not_lt, Int.not_le] at c1p
    obtain rfl : k = 6 := by omega
    refine G_exit ?_
    refine GQ_then_exit ?_
    refine GQ_then_exit ?_
    refine GQ_block_exit ?_
    refine GQ_sub (.cons (k := 0) rfl (.cons (k := 1) rfl (.nil _))) ?_
    refine GQ_then ?_
    refine G_seq ?_
    refine G_seq ?_
    refine G_region ?_
    refine GL_step rfl (PS_build pl48 zv48 rfl (.cons Thing.l0 rfl rfl rfl (.cons Thing.l1 rfl rfl rfl .nil))) ?_
    refine GL_step rfl (PS_build pl48 zv48 rfl (.cons Thing.l0 rfl rfl rfl (.cons Thing.l1 rfl rfl rfl (.cons Thing.l3 rfl rfl rfl .nil)))) ?_
    refine GL_step rfl (PS_build pl48 zv48 rfl (.cons Thing.l0 rfl rfl rfl (.cons Thing.l1 rfl rfl rfl .nil))) ?_
    refine GL_step rfl (PS_build pl48 zv48 rfl (.cons Thing.l0 rfl rfl rfl (.cons Thing.l1 rfl rfl rfl (.cons Thing.l3 rfl rfl rfl .nil)))) ?_
    refine GL_step rfl (PS_build pl48 zv48 rfl (.cons Thing.l0 rfl rfl rfl (.cons Thing.l2 rfl rfl rfl (.cons Thing.l3 rfl rfl rfl .nil)))) ?_
    refine GL_step rfl (PS_build pl48 zv48 rfl (.cons Thing.l0 rfl rfl rfl (.cons Thing.l3 rfl rfl rfl .nil))) ?_
    refine GL_step rfl (PS_build pl48 zv48 rfl (.cons Thing.l0 rfl rfl rfl .nil)) ?_
    refine GL_step rfl (PS_build pl48 zv48 rfl (.cons Thing.l0 rfl rfl rfl (.cons Thing.l1 rfl rfl rfl (.cons Thing.l4 rfl rfl rfl .nil)))) ?_
    refine GL_step rfl (PS_build pl48 zv48 rfl (.cons Thing.l0 rfl rfl rfl (.cons Thing.l2 rfl rfl rfl (.cons Thing.l3 rfl rfl rfl .nil)))) ?_
    refine GL_bs (cs := encA (n := 9) Thing.enc (Vector.replicate 9 default)) (cs' := encA (n := 9) Thing.enc Land.thingsV) rfl Try.underlying85 sz48 zv48 (by decide) (by decide) (by kernel_rfl) (.cons (Lens.arr (n := 9) (i := 0) Thing.fl (by decide) (by decide)) rfl rfl rfl (.cons (Lens.arr (n := 9) (i := 1) Thing.fl (by decide) (by decide)) rfl rfl rfl (.cons (Lens.arr (n := 9) (i := 2) Thing.fl (by decide) (by decide)) rfl rfl rfl (.cons (Lens.arr (n := 9) (i := 3) Thing.fl (by decide) (by decide)) rfl rfl rfl (.cons (Lens.arr (n := 9) (i := 4) Thing.fl (by decide) (by decide)) rfl rfl rfl (.cons (Lens.arr (n := 9) (i := 5) Thing.fl (by decide) (by decide)) rfl rfl rfl (.cons (Lens.arr (n := 9) (i := 6) Thing.fl (by decide) (by decide)) rfl rfl rfl (.cons (Lens.arr (n := 9) (i := 7) Thing.fl (by decide) (by decide)) rfl rfl rfl (.cons (Lens.arr (n := 9) (i := 8) Thing.fl (by decide) (by decide)) rfl rfl rfl .nil))))))))) ((flA Thing.fl).len _) (fun b5 => ?_)
    refine GL_step rfl (PS_len_slice rfl Try.underlying85 rfl) ?_
    refine GL_step rfl (PS_move rfl) ?_
    refine GL_nil ?_
    refine GQ_sub (.cons (k := 0) rfl (.cons (k := 1) rfl (.cons (k := 41) rfl (.cons (k := 42) rfl (.cons (k := 43) rfl (.nil _)))))) ?_
    refine GQ_then ?_
    refine G_block ?_
    refine G_subF (.cons (k := 43) rfl (.cons (k := 0) rfl (.cons (k := 1) rfl (.cons (k := 41) rfl (.cons (k := 42) rfl (.nil _)))))) ?_
    refine G_pull (.tail .head) ?_
    refine G_loop2 (σ := Int) (fun k => 0 ≤ k ∧ k ≤ 9) (fun k => (9 - k).toNat) (fun k => [(43, .int .i64 k)]) (fun k => [Res.box b2 54 (Land.enc (Land.newB k.toNat))]) 0 ?_ rfl rfl (fun k hI2 => ?_)
    · exact ⟨Int.le_refl _, by omega⟩
    obtain ⟨hI21, hI22⟩ := hI2
    refine G_seq ?_
    refine G_region ?_
    refine GL_step rfl (PS_lss rfl rfl) ?_
    refine GL_nil ?_
    refine GQ_then ?_
    refine G_seq ?_
    refine G_cond rfl (fun c2 => ?_) (fun c2 => ?_)
    · skip
      have c2p := c2
      try simp only [decide_eq_true_eq, decide_eq_false_iff_not, Bool.not_eq_true', Bool.not_eq_false', Bool.or_eq_true, Bool.and_eq_true, Bool.or_eq_false_iff, Bool.and_eq_false_iff, Int.not_lt, Int.not_le] at c2p
      refine G_skip ?_
      refine GQ_sub (.cons (k := 0) rfl (.cons (k := 1) rfl (.cons (k := 41) rfl (.cons (k := 42) rfl (.cons (k := 43) rfl (.nil _)))))) ?_
      refine GQ_then ?_
      refine G_seq ?_
      refine G_block ?_
      refine G_seq ?_
      refine G_region ?_
      refine GL_step rfl (PS_move rfl) ?_
      refine GL_step rfl (PS_idxS is85 (by decide) (Kn.own (.tail _ (.head _))) rfl rfl (by omega) (by dsimp only; omega)) ?_
      refine GL_step rfl (PS_ldG rfl tya48 (by decide) Thing.fl (Kn.own (.tail _ (.head _))) (by simp; omega)) ?_
      refine GL_alloc rfl zv48 rfl (fun b6 => ?_)
      refine GL_step rfl (PS_assign rfl) ?_
      refine GL_unit (PU_store (Lens.id Thing.fl.len Thing.fl.one) rfl rfl rfl sz48 rfl .head) ?_
      refine GL_nil ?_
      refine GQ_sub (.cons (k := 0) rfl (.cons (k := 1) rfl (.cons (k := 4) rfl (.cons (k := 5) rfl (.cons (k := 41) rfl (.cons (k := 42) rfl (.cons (k := 43) rfl (.nil _)))))))) ?_
      refine GQ_then ?_
      refine G_region ?_
      refine GL_step rfl (PS_move rfl) ?_
      refine GL_step rfl (PS_loadA rfl tya48 (.head _) (Lens.id Thing.fl.len Thing.fl.one) rfl) ?_
      refine GL_step rfl (PS_fieldAddr fa54_1 rfl) ?_
      refine GL_step rfl (PS_indexAddr ia49 rfl rfl (by omega) (by omega)) ?_
      refine GL_unit (PU_store (Land.l1.comp (Lens.arr (n := 9) Thing.fl (by omega) (by omega))) rfl rfl rfl sz48 rfl (.tail .head)) ?_
      refine GL_nil ?_
      refine GQ_sub (.cons (k := 0) rfl (.cons (k := 1) rfl (.cons (k := 41) rfl (.cons (k := 42) rfl (.cons (k := 43) rfl (.nil _)))))) ?_
      refine GQ_block ?_
      refine GQ_then ?_
      refine G_region ?_
      refine GL_step rfl (PS_add rfl rfl (IntWalk.i64_in _ (by omega))) ?_
      refine GL_step rfl (PS_move rfl) ?_
      refine GL_nil ?_
      refine GQ_sub (.cons (k := 0) rfl (.cons (k := 1) rfl (.cons (k := 41) rfl (.cons (k := 42) rfl (.cons (k := 43) rfl (.nil _)))))) ?_
      refine GQ_next2 (k + 1) ?_ ?_ ?_ ?_
      · exact ⟨by omega, by omega⟩
      · show (9 - (k + 1)).toNat < (9 - k).toNat; omega
      · exact .cons (k := 43) rfl (.cons (k := 0) rfl (.cons (k := 1) rfl (.cons (k := 41) rfl (.cons (k := 42) rfl (.nil _)))))
      · exact (by rw [Land.newB_step (by omega)]; exact (.cons _ (.refl _)))
    · skip
      have c2p := c2
      try simp only [decide_eq_true_eq, decide_eq_false_iff_not, Bool.not_eq_true', Bool.not_eq_false', Bool.or_eq_true, Bool.and_eq_true, Bool.or_eq_false_iff, Bool.and_eq_false_iff, Int.not_lt, Int.not_le] at c2p
      obtain rfl : k = 9 := by omega
      refine G_exit ?_
      refine GQ_then_exit ?_
      refine GQ_then_exit ?_
      refine GQ_block_exit ?_
      refine GQ_sub (.cons (k := 0) rfl (.cons (k := 1) rfl (.nil _))) ?_
      refine GQ_then ?_
      refine G_seq ?_
      refine G_region ?_
      refine GL_step rfl (PS_build pl51 zv51 rfl (.cons Being.l0 rfl rfl rfl (.cons Being.l1 rfl rfl rfl (.cons Being.l2 rfl rfl rfl (.cons Being.l4 rfl rfl rfl .nil))))) ?_
      refine GL_step rfl (PS_fieldAddr fa54_2 rfl) ?_
      refine GL_step rfl (PS_indexAddr ia52 rfl rfl (by decide) (by decide)) ?_
      refine GL_unit (PU_store (Land.l2.comp (Lens.arr (n := 6) Being.fl (by decide) (by decide))) rfl rfl rfl sz51 rfl .head) ?_
      refine GL_nil ?_
      refine GQ_sub (.cons (k := 0) rfl (.cons (k := 1) rfl (.nil _))) ?_
      refine GQ_then ?_
      refine G_seq ?_
      refine G_region ?_
      refine GL_step rfl (PS_build pl51 zv51 rfl (.cons Being.l0 rfl rfl rfl (.cons Being.l1 rfl rfl rfl (.cons Being.l3 rfl rfl rfl (.cons Being.l4 rfl rfl rfl .nil))))) ?_
      refine GL_step rfl (PS_fieldAddr fa54_2 rfl) ?_
      refine GL_step rfl (PS_indexAddr ia52 rfl rfl (by decide) (by decide)) ?_
      refine GL_unit (PU_store (Land.l2.comp (Lens.arr (n := 6) Being.fl (by decide) (by decide))) rfl rfl rfl sz51 rfl .head) ?_
      refine GL_nil ?_
      refine GQ_sub (.cons (k := 0) rfl (.cons (k := 1) rfl (.nil _))) ?_
      refine GQ_then ?_
      refine G_seq ?_
      refine G_region ?_
      refine GL_step rfl (PS_loadA rfl tya54 (.head _) (Lens.id Land.fl.len Land.fl.one) rfl) ?_
      refine GL_unit (PU_store (Lens.id Land.fl.len Land.fl.one) rfl rfl rfl sz54 rfl (.tail (.tail (.tail .head)))) ?_
      refine GL_nil ?_
      refine GQ_sub (.cons (k := 0) rfl (.nil _)) ?_
      refine GQ_then ?_
      refine G_ret ?_
      refine GQ_ret rfl (.cell rfl (.tail _ (.tail _ (.tail _ (.head _)))) (.inl ⟨tya54, rfl⟩) .nil) ?_
      intro w1 hS; refine ⟨?_, hS.toKeep⟩; rfl
theorem land_Opposite_spec (d : Int) (w : World) : Ret Try.prog 39 #[.int .i64 d] w fun v w' => v = .int .i64 (Land.opposite d) ∧ Keep w w' := by
  refine Ret_body [] [] Try.func39 rfl rfl rfl (St.start w []) ?_
  refine G_seq ?_
  refine G_region ?_
  refine GL_step rfl (PS_assign rfl) ?_
  refine GL_nil ?_
  refine GQ_sub (.cons (k := 0) rfl (.nil _)) ?_
  refine GQ_then ?_
  refine G_seq ?_
  refine G_region ?_
  refine GL_step rfl (PS_move rfl) ?_
  refine GL_step rfl (PS_min2 rfl rfl) ?_
  refine GL_step rfl (PS_max2 rfl rfl) ?_
  refine GL_step rfl (PS_add rfl rfl (IntWalk.i64_in _ (by omega))) ?_
  refine GL_step rfl (PS_rem rfl rfl (by omega)) ?_
  refine GL_step rfl (PS_assign rfl) ?_
  refine GL_nil ?_
  refine GQ_sub (.cons (k := 2) rfl (.nil _)) ?_
  refine GQ_then ?_
  refine G_ret ?_
  refine GQ_ret rfl (.tmp rfl .nil) ?_
  intro w1 hS; refine ⟨?_, hS.toKeep⟩; rfl
theorem keep_stands_spec  (w : World) : Ret Try.prog 28 #[] w fun v w' => v = .bool true ∧ Keep w w' := by
  refine Ret_body [] [] Try.func28 rfl rfl rfl (St.start w []) ?_
  refine G_seq ?_
  refine G_region ?_
  refine GL_step rfl (PS_assign rfl) ?_
  refine GL_nil ?_
  refine GQ_sub (.nil _) ?_
  refine GQ_then ?_
  refine G_seq ?_
  refine G_region ?_
  refine GL_pure rfl cf37 .nil (fun w _ => land_New_spec w) ?_
  refine GL_pure rfl cf27 (.cons rfl .nil) (fun w _ => land_Good_spec _ w) ?_
  refine GL_step rfl (PS_move rfl) ?_
  refine GL_pgt (t := 3) rfl rfl rfl (fun q => PC_of cf39 (.cons rfl .nil) (fun w _ => land_Opposite_spec _ w)) ?_
  refine GL_gt (t := 3) rfl rfl rfl (fun q => PS_eql (cvE rfl q) rfl) ?_
  refine GL_step rfl (PS_and rfl rfl (fun h => h)) ?_
  refine GL_step rfl (PS_assign rfl) ?_
  refine GL_nil ?_
  refine GQ_sub (.cons (k := 0) rfl (.nil _)) ?_
  refine GQ_then ?_
  refine G_ret ?_
  refine GQ_ret rfl (.tmp rfl .nil) ?_
  intro w1 hS; refine ⟨congrArg Value.bool ?_, hS.toKeep⟩; simp only [Land.new_good, Land.opposite_1]; rfl
theorem land_Room_spec (X : Land) (i : Int) (w : World) : Ret Try.prog 29 #[.agg X.enc.toArray, .int .i64 i] w fun v w' => v = .tuple #[.int .i64 (X.room i).1, .bool (X.room i).2] ∧ Keep w w' := by
  refine Ret_body [] [] Try.func29 rfl rfl rfl (St.start w []) ?_
  refine G_seq ?_
  refine G_region ?_
  refine GL_box rfl rfl rfl (fun b1 => ?_)
  refine GL_step rfl (PS_assign rfl) ?_
  refine GL_step rfl (PS_assign rfl) ?_
  refine GL_nil ?_
  refine GQ_sub (.cons (k := 1) rfl (.cons (k := 2) rfl (.nil _))) ?_
  refine GQ_then ?_
  refine G_seq ?_
  refine G_region ?_
  refine GL_step rfl (PS_assign rfl) ?_
  refine GL_nil ?_
  refine GQ_then ?_
  refine G_seq ?_
  refine G_seq ?_
  refine G_region ?_
  refine GL_step rfl (PS_move rfl) ?_
  refine GL_nil ?_
  refine GQ_then ?_
  refine G_block ?_
  refine G_subF (.cons (k := 1) rfl (.cons (k := 6) rfl (.cons (k := 8) rfl (.cons (k := 2) rfl (.nil _))))) ?_
  refine G_loop2 (σ := Int × Int × Bool) (fun s => 0 ≤ s.1 ∧ s.1 ≤ 10 ∧ X.room i = X.roomFrom (10 - s.1).toNat s.2.1 s.2.2) (fun s => (10 - s.1).toNat) (fun s => [(1, .int .i64 s.2.1), (6, .bool s.2.2), (8, .int .i64 s.1)]) (fun _ => []) (0, i, true) ?_ rfl rfl (fun s hI1 => ?_)
  · exact ⟨Int.le_refl _, by omega, rfl⟩
  obtain ⟨k, j, o⟩ := s; obtain ⟨hI11, hI12, hI13⟩ := hI1; dsimp only at *
  refine G_seq ?_
  refine G_region ?_
  refine GL_step rfl (PS_lss rfl rfl) ?_
  refine GL_nil ?_
  refine GQ_then ?_
  refine G_seq ?_
  refine G_cond rfl (fun c1 => ?_) (fun c1 => ?_)
  · skip
    have c1p := c1
    try simp only [decide_eq_true_eq, decide_eq_false_iff_not, Bool.not_eq_true', Bool.not_eq_false', Bool.or_eq_true, Bool.and_eq_true, Bool.or_eq_false_iff, Bool.and_eq_false_iff, Int.not_lt, Int.not_le] at c1p
    rw [show (10 - k).toNat = (10 - (k + 1)).toNat + 1 from by omega, Land.roomFrom] at hI13
    refine G_skip ?_
    refine GQ_sub (.cons (k := 1) rfl (.cons (k := 2) rfl (.cons (k := 6) rfl (.cons (k := 8) rfl (.nil _))))) ?_
    refine GQ_then ?_
    refine G_seq ?_
    refine G_block ?_
    refine G_seq ?_
    refine G_seq ?_
    refine G_region ?_
    refine GL_step rfl (PS_move rfl) ?_
    refine GL_step rfl (PS_lss rfl rfl) ?_
    refine GL_step rfl (PS_move rfl) ?_
    refine GL_gf (t := 12) rfl rfl rfl (fun q => PS_move rfl) ?_
    refine GL_gf (t := 12) rfl rfl rfl (fun q => PS_geq (cvE rfl (by rw [q]; rfl)) rfl) ?_
    refine GL_step rfl (PS_or rfl rfl (fun h => by rw [h]; rfl)) ?_
    refine GL_nil ?_
    refine GQ_sub (.cons (k := 1) rfl (.cons (k := 2) rfl (.cons (k := 6) rfl (.cons (k := 8) rfl (.cons (k := 15) rfl (.nil _)))))) ?_
    refine GQ_then ?_
    refine G_cond rfl (fun c2 => ?_) (fun c2 => ?_)
    · skip
      have c2p := c2
      try simp only [decide_eq_true_eq, decide_eq_false_iff_not, Bool.not_eq_true', Bool.not_eq_false', Bool.or_eq_true, Bool.and_eq_true, Bool.or_eq_false_iff, Bool.and_eq_false_iff, Int.not_lt, Int.not_le] at c2p
      refine G_seq ?_
      refine G_region ?_
      refine GL_step rfl (PS_assign rfl) ?_
      refine GL_step rfl (PS_assign rfl) ?_
      refine GL_nil ?_
      refine GQ_sub (.cons (k := 4) rfl (.cons (k := 5) rfl (.nil _))) ?_
      refine GQ_then ?_
      refine G_ret ?_
      refine GQ_then_ret ?_
      refine GQ_block_ret ?_
      refine GQ_then_ret ?_
      refine GQ_then_ret ?_
      refine GQ_block_ret ?_
      refine GQ_then_ret ?_
      refine GQ_ret rfl (.tmp rfl (.tmp rfl .nil)) ?_
      intro w1 hS; refine ⟨?_, hS.toKeep⟩; rw [hI13]; simp only [c1, c2, ↓reduceIte, Bool.false_eq_true]; rfl
    · skip
      have c2p := c2
      try simp only [decide_eq_true_eq, decide_eq_false_iff_not, Bool.not_eq_true', Bool.not_eq_false', Bool.or_eq_true, Bool.and_eq_true, Bool.or_eq_false_iff, Bool.and_eq_false_iff, Int.not_lt, Int.not_le] at c2p
      refine G_skip ?_
      refine GQ_sub (.cons (k := 1) rfl (.cons (k := 2) rfl (.cons (k := 6) rfl (.cons (k := 8) rfl (.nil _))))) ?_
      refine GQ_then ?_
      refine G_seq ?_
      refine G_region ?_
      refine GL_step rfl (PS_move rfl) ?_
      refine GL_step rfl (PS_fieldAddr fa54_1 rfl) ?_
      refine GL_step rfl (PS_indexAddr ia49 rfl rfl (by omega) (by omega)) ?_
      refine GL_step rfl (PS_loadA rfl tya48 (.head _) (Land.l1.comp (Lens.arr (n := 9) Thing.fl (by omega) (by omega))) rfl) ?_
      refine GL_alloc rfl zv48 rfl (fun b2 => ?_)
      refine GL_unit (PU_store (Lens.id Thing.fl.len Thing.fl.one) rfl rfl rfl sz48 rfl .head) ?_
      refine GL_nil ?_
      refine GQ_sub (.cons (k := 2) rfl (.cons (k := 6) rfl (.cons (k := 7) rfl (.cons (k := 8) rfl (.nil _))))) ?_
      refine GQ_then ?_
      refine G_seq ?_
      refine G_seq ?_
      refine G_region ?_
      refine GL_step rfl (PS_fieldAddr fa48_2 rfl) ?_
      refine GL_step rfl (PS_load rfl tys3 (.head _) Thing.l2 rfl rfl) ?_
      refine GL_nil ?_
      refine GQ_sub (.cons (k := 2) rfl (.cons (k := 6) rfl (.cons (k := 7) rfl (.cons (k := 8) rfl (.cons (k := 21) rfl (.nil _)))))) ?_
      refine GQ_then ?_
      refine G_block ?_
      refine G_seq ?_
      refine G_region ?_
      refine GL_step rfl (PS_eql rfl rfl) ?_
      refine GL_step rfl (PS_assign rfl) ?_
      refine GL_nil ?_
      refine GQ_sub (.cons (k := 2) rfl (.cons (k := 6) rfl (.cons (k := 7) rfl (.cons (k := 8) rfl (.cons (k := 21) rfl (.cons (k := 22) rfl (.nil _))))))) ?_
      refine GQ_then ?_
      refine G_cond rfl (fun c3 => ?_) (fun c3 => ?_)
      · skip
        have c3p := c3
        try simp only [decide_eq_true_eq, decide_eq_false_iff_not, Bool.not_eq_true', Bool.not_eq_false', Bool.or_eq_true, Bool.and_eq_true, Bool.or_eq_false_iff, Bool.and_eq_false_iff, Int.not_lt, Int.not_le] at c3p
        refine G_seq ?_
        refine G_region ?_
        refine GL_step rfl (PS_fieldAddr fa48_3 rfl) ?_
        refine GL_step rfl (PS_load rfl tys3 (.head _) Thing.l3 rfl rfl) ?_
        refine GL_step rfl (PS_move rfl) ?_
        refine GL_step rfl (PS_assign rfl) ?_
        refine GL_step rfl (PS_assign rfl) ?_
        refine GL_nil ?_
        refine GQ_sub (.cons (k := 4) rfl (.cons (k := 5) rfl (.nil _))) ?_
        refine GQ_then ?_
        refine G_ret ?_
        refine GQ_block_ret ?_
        refine GQ_then_ret ?_
        refine GQ_block_ret ?_
        refine GQ_then_ret ?_
        refine GQ_then_ret ?_
        refine GQ_block_ret ?_
        refine GQ_then_ret ?_
        refine GQ_ret rfl (.tmp rfl (.tmp rfl .nil)) ?_
        intro w1 hS; refine ⟨?_, hS.toKeep⟩; rw [hI13]; simp only [c1, c2, c3, ↓reduceIte, Bool.false_eq_true]; rfl
      · skip
        have c3p := c3
        try simp only [decide_eq_true_eq, decide_eq_false_iff_not, Bool.not_eq_true', Bool.not_eq_false', Bool.or_eq_true, Bool.and_eq_true, Bool.or_eq_false_iff, Bool.and_eq_false_iff, Int.not_lt, Int.not_le] at c3p
        refine G_seq ?_
        refine G_region ?_
        refine GL_step rfl (PS_eql rfl rfl) ?_
        refine GL_step rfl (PS_assign rfl) ?_
        refine GL_nil ?_
        refine GQ_sub (.cons (k := 2) rfl (.cons (k := 6) rfl (.cons (k := 7) rfl (.cons (k := 8) rfl (.cons (k := 21) rfl (.cons (k := 27) rfl (.nil _))))))) ?_
        refine GQ_then ?_
        refine G_cond rfl (fun c4 => ?_) (fun c4 => ?_)
        · skip
          have c4p := c4
          try simp only [decide_eq_true_eq, decide_eq_false_iff_not, Bool.not_eq_true', Bool.not_eq_false', Bool.or_eq_true, Bool.and_eq_true, Bool.or_eq_false_iff, Bool.and_eq_false_iff, Int.not_lt, Int.not_le] at c4p
          refine G_seq ?_
          refine G_seq ?_
          refine G_region ?_
          refine GL_step rfl (PS_fieldAddr fa48_3 rfl) ?_
          refine GL_step rfl (PS_load rfl tys3 (.head _) Thing.l3 rfl rfl) ?_
          refine GL_step rfl (PS_lss rfl rfl) ?_
          refine GL_step rfl (PS_move rfl) ?_
          refine GL_gf (t := 32) rfl rfl rfl (fun q => PS_fieldAddr fa48_3 rfl) ?_
          refine GL_gf (t := 32) rfl rfl rfl (fun q => PS_load (cvE rfl (by rw [q]; rfl)) tys3 (.head _) Thing.l3 rfl rfl) ?_
          refine GL_gf (t := 32) rfl rfl rfl (fun q => PS_geq (cvE rfl (by rw [q]; rfl)) rfl) ?_
          refine GL_step rfl (PS_or rfl rfl (fun h => by rw [h]; rfl)) ?_
          refine GL_nil ?_
          refine GQ_sub (.cons (k := 2) rfl (.cons (k := 6) rfl (.cons (k := 7) rfl (.cons (k := 36) rfl (.nil _))))) ?_
          refine GQ_then ?_
          refine G_cond rfl (fun c5 => ?_) (fun c5 => ?_)
          · skip
            have c5p := c5
            try simp only [decide_eq_true_eq, decide_eq_false_iff_not, Bool.not_eq_true', Bool.not_eq_false', Bool.or_eq_true, Bool.and_eq_true, Bool.or_eq_false_iff, Bool.and_eq_false_iff, Int.not_lt, Int.not_le] at c5p
            refine G_seq ?_
            refine G_region ?_
            refine GL_step rfl (PS_assign rfl) ?_
            refine GL_step rfl (PS_assign rfl) ?_
            refine GL_nil ?_
            refine GQ_sub (.cons (k := 4) rfl (.cons (k := 5) rfl (.nil _))) ?_
            refine GQ_then ?_
            refine G_ret ?_
            refine GQ_then_ret ?_
            refine GQ_block_ret ?_
            refine GQ_then_ret ?_
            refine GQ_block_ret ?_
            refine GQ_then_ret ?_
            refine GQ_then_ret ?_
            refine GQ_block_ret ?_
            refine GQ_then_ret ?_
            refine GQ_ret rfl (.tmp rfl (.tmp rfl .nil)) ?_
            intro w1 hS; refine ⟨?_, hS.toKeep⟩; rw [hI13]; simp only [c1, c2, c3, c4, c5, ↓reduceIte, Bool.false_eq_true]; rfl
          · skip
            have c5p := c5
            try simp only [decide_eq_true_eq, decide_eq_false_iff_not, Bool.not_eq_true', Bool.not_eq_false', Bool.or_eq_true, Bool.and_eq_true, Bool.or_eq_false_iff, Bool.and_eq_false_iff, Int.not_lt, Int.not_le] at c5p
            refine G_skip ?_
            refine GQ_sub (.cons (k := 2) rfl (.cons (k := 6) rfl (.cons (k := 7) rfl (.nil _)))) ?_
            refine GQ_then ?_
            refine G_seq ?_
            refine G_region ?_
            refine GL_step rfl (PS_fieldAddr fa48_3 rfl) ?_
            refine GL_step rfl (PS_load rfl tys3 (.head _) Thing.l3 rfl rfl) ?_
            refine GL_step rfl (PS_fieldAddr fa54_2 rfl) ?_
            refine GL_step rfl (PS_indexAddr ia52 rfl rfl (by omega) (by omega)) ?_
            refine GL_step rfl (PS_fieldAddr fa51_3 rfl) ?_
            refine GL_step rfl (PS_load rfl tys3 (.tail _ (.head _)) ((Land.l2.comp (Lens.arr (n := 6) Being.fl (by omega) (by omega))).comp Being.l3) rfl rfl) ?_
            refine GL_step rfl (PS_move rfl) ?_
            refine GL_step rfl (PS_assign rfl) ?_
            refine GL_step rfl (PS_assign rfl) ?_
            refine GL_nil ?_
            refine GQ_sub (.cons (k := 4) rfl (.cons (k := 5) rfl (.nil _))) ?_
            refine GQ_then ?_
            refine G_ret ?_
            refine GQ_block_ret ?_
            refine GQ_then_ret ?_
            refine GQ_block_ret ?_
            refine GQ_then_ret ?_
            refine GQ_then_ret ?_
            refine GQ_block_ret ?_
            refine GQ_then_ret ?_
            refine GQ_ret rfl (.tmp rfl (.tmp rfl .nil)) ?_
            intro w1 hS; refine ⟨?_, hS.toKeep⟩; rw [hI13]; simp only [c1, c2, c3, c4, c5, ↓reduceIte, Bool.false_eq_true]; rfl
        · skip
          have c4p := c4
          try simp only [decide_eq_true_eq, decide_eq_false_iff_not, Bool.not_eq_true', Bool.not_eq_false', Bool.or_eq_true, Bool.and_eq_true, Bool.or_eq_false_iff, Bool.and_eq_false_iff, Int.not_lt, Int.not_le] at c4p
          refine G_seq ?_
          refine G_region ?_
          refine GL_step rfl (PS_eql rfl rfl) ?_
          refine GL_step rfl (PS_assign rfl) ?_
          refine GL_nil ?_
          refine GQ_sub (.cons (k := 2) rfl (.cons (k := 6) rfl (.cons (k := 7) rfl (.cons (k := 8) rfl (.cons (k := 44) rfl (.nil _)))))) ?_
          refine GQ_then ?_
          refine G_cond rfl (fun c6 => ?_) (fun c6 => ?_)
          · skip
            have c6p := c6
            try simp only [decide_eq_true_eq, decide_eq_false_iff_not, Bool.not_eq_true', Bool.not_eq_false', Bool.or_eq_true, Bool.and_eq_true, Bool.or_eq_false_iff, Bool.and_eq_false_iff, Int.not_lt, Int.not_le] at c6p
            refine G_skip ?_
            refine GQ_sub (.cons (k := 2) rfl (.cons (k := 6) rfl (.cons (k := 7) rfl (.cons (k := 8) rfl (.nil _))))) ?_
            refine GQ_block ?_
            refine GQ_then ?_
            refine G_seq ?_
            refine G_region ?_
            refine GL_step rfl (PS_fieldAddr fa48_3 rfl) ?_
            refine GL_step rfl (PS_load rfl tys3 (.head _) Thing.l3 rfl rfl) ?_
            refine GL_step rfl (PS_assign rfl) ?_
            refine GL_nil ?_
            refine GQ_sub (.cons (k := 1) rfl (.cons (k := 2) rfl (.cons (k := 6) rfl (.cons (k := 8) rfl (.nil _))))) ?_
            refine GQ_then ?_
            refine G_seq ?_
            refine G_region ?_
            refine GL_step rfl (PS_move rfl) ?_
            refine GL_step rfl (PS_geq rfl rfl) ?_
            refine GL_step rfl (PS_move rfl) ?_
            refine GL_gt (t := 50) rfl rfl rfl (fun q => PS_move rfl) ?_
            refine GL_gt (t := 50) rfl rfl rfl (fun q => PS_lss (cvE rfl q) rfl) ?_
            refine GL_step rfl (PS_and rfl rfl (fun h => h)) ?_
            refine GL_step rfl (PS_move rfl) ?_
            refine GL_gt (t := 54) rfl rfl rfl (fun q => PS_move rfl) ?_
            refine GL_gt (t := 54) rfl rfl rfl (fun q => PS_fieldAddr fa54_1 rfl) ?_
            refine GL_gt (t := 54) rfl rfl rfl (fun q => by have q1 := q; (try simp at q1); exact PS_indexAddr ia49 (cvE rfl q) (cvE rfl q) (by omega) (by omega)) ?_
            refine GL_gt (t := 54) rfl rfl rfl (fun q => PS_fieldAddr fa48_4 (cvE rfl q)) ?_
            refine GL_gt (t := 54) rfl rfl rfl (fun q => by have q1 := q; (try simp at q1); exact PS_load (cvE rfl q) tys4 (.tail _ (.head _)) ((Land.l1.comp (Lens.arr (n := 9) Thing.fl (by omega) (by omega))).comp Thing.l4) rfl rfl) ?_
            refine GL_gt (t := 54) rfl rfl rfl (fun q => PS_not (cvE rfl q)) ?_
            refine GL_step rfl (PS_and rfl rfl (fun h => h)) ?_
            refine GL_nil ?_
            refine GQ_sub (.cons (k := 1) rfl (.cons (k := 2) rfl (.cons (k := 6) rfl (.cons (k := 8) rfl (.cons (k := 61) rfl (.nil _)))))) ?_
            refine GQ_then ?_
            refine G_cond rfl (fun c7 => ?_) (fun c7 => ?_)
            · skip
              have c7p := c7
              try simp only [decide_eq_true_eq, decide_eq_false_iff_not, Bool.not_eq_true', Bool.not_eq_false', Bool.or_eq_true, Bool.and_eq_true, Bool.or_eq_false_iff, Bool.and_eq_false_iff, Int.not_lt, Int.not_le] at c7p
              refine G_region ?_
              refine GL_step rfl (PS_assign rfl) ?_
              refine GL_nil ?_
              refine GQ_sub (.cons (k := 1) rfl (.cons (k := 2) rfl (.cons (k := 6) rfl (.cons (k := 8) rfl (.nil _))))) ?_
              refine GQ_block ?_
              refine GQ_then ?_
              refine G_region ?_
              refine GL_step rfl (PS_add rfl rfl (IntWalk.i64_in _ (by omega))) ?_
              refine GL_step rfl (PS_move rfl) ?_
              refine GL_nil ?_
              refine GQ_sub (.cons (k := 1) rfl (.cons (k := 2) rfl (.cons (k := 6) rfl (.cons (k := 8) rfl (.nil _))))) ?_
              refine GQ_next2 (k + 1, (X.things.at j).at_, false) ?_ ?_ ?_ ?_
              · exact ⟨by omega, by omega, by rw [hI13]; simp only [c1, c2, c3, c4, c6, c7, ↓reduceIte, Bool.false_eq_true]⟩
              · show (10 - (k + 1)).toNat < (10 - k).toNat; omega
              · exact .cons (k := 1) rfl (.cons (k := 6) rfl (.cons (k := 8) rfl (.cons (k := 2) rfl (.nil _))))
              · exact (.cons _ (.refl _))
            · skip
              have c7p := c7
              try simp only [decide_eq_true_eq, decide_eq_false_iff_not, Bool.not_eq_true', Bool.not_eq_false', Bool.or_eq_true, Bool.and_eq_true, Bool.or_eq_false_iff, Bool.and_eq_false_iff, Int.not_lt, Int.not_le] at c7p
              refine G_skip ?_
              refine GQ_sub (.cons (k := 1) rfl (.cons (k := 2) rfl (.cons (k := 6) rfl (.cons (k := 8) rfl (.nil _))))) ?_
              refine GQ_block ?_
              refine GQ_then ?_
              refine G_region ?_
              refine GL_step rfl (PS_add rfl rfl (IntWalk.i64_in _ (by omega))) ?_
              refine GL_step rfl (PS_move rfl) ?_
              refine GL_nil ?_
              refine GQ_sub (.cons (k := 1) rfl (.cons (k := 2) rfl (.cons (k := 6) rfl (.cons (k := 8) rfl (.nil _))))) ?_
              refine GQ_next2 (k + 1, (X.things.at j).at_, o) ?_ ?_ ?_ ?_
              · exact ⟨by omega, by omega, by rw [hI13]; simp only [c1, c2, c3, c4, c6, c7, ↓reduceIte, Bool.false_eq_true]⟩
              · show (10 - (k + 1)).toNat < (10 - k).toNat; omega
              · exact .cons (k := 1) rfl (.cons (k := 6) rfl (.cons (k := 8) rfl (.cons (k := 2) rfl (.nil _))))
              · exact (.cons _ (.refl _))
          · skip
            have c6p := c6
            try simp only [decide_eq_true_eq, decide_eq_false_iff_not, Bool.not_eq_true', Bool.not_eq_false', Bool.or_eq_true, Bool.and_eq_true, Bool.or_eq_false_iff, Bool.and_eq_false_iff, Int.not_lt, Int.not_le] at c6p
            refine G_seq ?_
            refine G_region ?_
            refine GL_step rfl (PS_assign rfl) ?_
            refine GL_step rfl (PS_assign rfl) ?_
            refine GL_nil ?_
            refine GQ_sub (.cons (k := 4) rfl (.cons (k := 5) rfl (.nil _))) ?_
            refine GQ_then ?_
            refine G_ret ?_
            refine GQ_block_ret ?_
            refine GQ_then_ret ?_
            refine GQ_block_ret ?_
            refine GQ_then_ret ?_
            refine GQ_then_ret ?_
            refine GQ_block_ret ?_
            refine GQ_then_ret ?_
            refine GQ_ret rfl (.tmp rfl (.tmp rfl .nil)) ?_
            intro w1 hS; refine ⟨?_, hS.toKeep⟩; rw [hI13]; simp only [c1, c2, c3, c4, c6, ↓reduceIte, Bool.false_eq_true]; rfl
  · skip
    have c1p := c1
    try simp only [decide_eq_true_eq, decide_eq_false_iff_not, Bool.not_eq_true', Bool.not_eq_false', Bool.or_eq_true, Bool.and_eq_true, Bool.or_eq_false_iff, Bool.and_eq_false_iff, Int.not_lt, Int.not_le] at c1p
    obtain rfl : k = 10 := by omega
    refine G_exit ?_
    refine GQ_then_exit ?_
    refine GQ_then_exit ?_
    refine GQ_block_exit ?_
    refine GQ_sub (.nil _) ?_
    refine GQ_then ?_
    refine G_seq ?_
    refine G_region ?_
    refine GL_step rfl (PS_assign rfl) ?_
    refine GL_step rfl (PS_assign rfl) ?_
    refine GL_nil ?_
    refine GQ_then ?_
    refine G_ret ?_
    refine GQ_ret rfl (.tmp rfl (.tmp rfl .nil)) ?_
    intro w1 hS; refine ⟨?_, hS.toKeep⟩; rw [hI13]; rfl
theorem land_Inside_spec (X : Land) (i box : Int) (w : World) : Ret Try.prog 30 #[.agg X.enc.toArray, .int .i64 i, .int .i64 box] w fun v w' => v = .bool (X.isIn i box) ∧ Keep w w' := by
  refine Ret_body [] [] Try.func30 rfl rfl rfl (St.start w []) ?_
  refine G_seq ?_
  refine G_region ?_
  refine GL_box rfl rfl rfl (fun b1 => ?_)
  refine GL_step rfl (PS_assign rfl) ?_
  refine GL_nil ?_
  refine GQ_sub (.cons (k := 1) rfl (.cons (k := 2) rfl (.cons (k := 3) rfl (.nil _)))) ?_
  refine GQ_then ?_
  refine G_seq ?_
  refine G_seq ?_
  refine G_region ?_
  refine GL_step rfl (PS_move rfl) ?_
  refine GL_nil ?_
  refine GQ_then ?_
  refine G_block ?_
  refine G_subF (.cons (k := 1) rfl (.cons (k := 7) rfl (.cons (k := 2) rfl (.cons (k := 3) rfl (.nil _))))) ?_
  refine G_loop2 (σ := Int × Int) (fun s => 0 ≤ s.1 ∧ s.1 ≤ 10 ∧ X.isIn i box = X.inside box (10 - s.1).toNat s.2) (fun s => (10 - s.1).toNat) (fun s => [(1, .int .i64 s.2), (7, .int .i64 s.1)]) (fun _ => []) (0, i) ?_ rfl rfl (fun s hI1 => ?_)
  · exact ⟨Int.le_refl _, by omega, rfl⟩
  obtain ⟨k, j⟩ := s; obtain ⟨hI11, hI12, hI13⟩ := hI1; dsimp only at *
  refine G_seq ?_
  refine G_region ?_
  refine GL_step rfl (PS_lss rfl rfl) ?_
  refine GL_nil ?_
  refine GQ_then ?_
  refine G_seq ?_
  refine G_cond rfl (fun c1 => ?_) (fun c1 => ?_)
  · skip
    have c1p := c1
    try simp only [decide_eq_true_eq, decide_eq_false_iff_not, Bool.not_eq_true', Bool.not_eq_false', Bool.or_eq_true, Bool.and_eq_true, Bool.or_eq_false_iff, Bool.and_eq_false_iff, Int.not_lt, Int.not_le] at c1p
    rw [show (10 - k).toNat = (10 - (k + 1)).toNat + 1 from by omega, Land.inside] at hI13
    refine G_skip ?_
    refine GQ_sub (.cons (k := 1) rfl (.cons (k := 2) rfl (.cons (k := 3) rfl (.cons (k := 7) rfl (.nil _))))) ?_
    refine GQ_then ?_
    refine G_seq ?_
    refine G_block ?_
    refine G_seq ?_
    refine G_seq ?_
    refine G_region ?_
    refine GL_step rfl (PS_move rfl) ?_
    refine GL_step rfl (PS_move rfl) ?_
    refine GL_step rfl (PS_eql rfl rfl) ?_
    refine GL_nil ?_
    refine GQ_sub (.cons (k := 1) rfl (.cons (k := 2) rfl (.cons (k := 3) rfl (.cons (k := 7) rfl (.cons (k := 11) rfl (.nil _)))))) ?_
    refine GQ_then ?_
    refine G_cond rfl (fun c2 => ?_) (fun c2 => ?_)
    · skip
      have c2p := c2
      try simp only [decide_eq_true_eq, decide_eq_false_iff_not, Bool.not_eq_true', Bool.not_eq_false', Bool.or_eq_true, Bool.and_eq_true, Bool.or_eq_false_iff, Bool.and_eq_false_iff, Int.not_lt, Int.not_le] at c2p
      refine G_seq ?_
      refine G_region ?_
      refine GL_step rfl (PS_assign rfl) ?_
      refine GL_nil ?_
      refine GQ_sub (.cons (k := 6) rfl (.nil _)) ?_
      refine GQ_then ?_
      refine G_ret ?_
      refine GQ_then_ret ?_
      refine GQ_block_ret ?_
      refine GQ_then_ret ?_
      refine GQ_then_ret ?_
      refine GQ_block_ret ?_
      refine GQ_then_ret ?_
      refine GQ_ret rfl (.tmp rfl .nil) ?_
      intro w1 hS; refine ⟨congrArg Value.bool ?_, hS.toKeep⟩; rw [hI13]; simp only [c1, c2, ↓reduceIte, Bool.false_eq_true]
    · skip
      have c2p := c2
      try simp only [decide_eq_true_eq, decide_eq_false_iff_not, Bool.not_eq_true', Bool.not_eq_false', Bool.or_eq_true, Bool.and_eq_true, Bool.or_eq_false_iff, Bool.and_eq_false_iff, Int.not_lt, Int.not_le] at c2p
      refine G_skip ?_
      refine GQ_sub (.cons (k := 1) rfl (.cons (k := 2) rfl (.cons (k := 3) rfl (.cons (k := 7) rfl (.nil _))))) ?_
      refine GQ_then ?_
      refine G_seq ?_
      refine G_seq ?_
      refine G_region ?_
      refine GL_step rfl (PS_move rfl) ?_
      refine GL_step rfl (PS_lss rfl rfl) ?_
      refine GL_step rfl (PS_move rfl) ?_
      refine GL_gf (t := 14) rfl rfl rfl (fun q => PS_move rfl) ?_
      refine GL_gf (t := 14) rfl rfl rfl (fun q => PS_geq (cvE rfl (by rw [q]; rfl)) rfl) ?_
      refine GL_step rfl (PS_or rfl rfl (fun h => by rw [h]; rfl)) ?_
      refine GL_step rfl (PS_move rfl) ?_
      refine GL_gf (t := 18) rfl rfl rfl (fun q => PS_move rfl) ?_
      refine GL_gf (t := 18) rfl rfl rfl (fun q => PS_fieldAddr fa54_1 rfl) ?_
      refine GL_gf (t := 18) rfl rfl rfl (fun q => by have q1 := q; (try simp at q1); exact PS_indexAddr ia49 (cvE rfl (by rw [q]; rfl)) (cvE rfl (by rw [q]; rfl)) (by omega) (by omega)) ?_
      refine GL_gf (t := 18) rfl rfl rfl (fun q => PS_fieldAddr fa48_2 (cvE rfl (by rw [q]; rfl))) ?_
      refine GL_gf (t := 18) rfl rfl rfl (fun q => by have q1 := q; (try simp at q1); exact PS_load (cvE rfl (by rw [q]; rfl)) tys3 (.head _) ((Land.l1.comp (Lens.arr (n := 9) Thing.fl (by omega) (by omega))).comp Thing.l2) rfl rfl) ?_
      refine GL_gf (t := 18) rfl rfl rfl (fun q => PS_neq (cvE rfl (by rw [q]; rfl)) rfl) ?_
      refine GL_step rfl (PS_or rfl rfl (fun h => by rw [h]; rfl)) ?_
      refine GL_nil ?_
      refine GQ_sub (.cons (k := 1) rfl (.cons (k := 2) rfl (.cons (k := 3) rfl (.cons (k := 7) rfl (.cons (k := 25) rfl (.nil _)))))) ?_
      refine GQ_then ?_
      refine G_cond rfl (fun c3 => ?_) (fun c3 => ?_)
      · skip
        have c3p := c3
        try simp only [decide_eq_true_eq, decide_eq_false_iff_not, Bool.not_eq_true', Bool.not_eq_false', Bool.or_eq_true, Bool.and_eq_true, Bool.or_eq_false_iff, Bool.and_eq_false_iff, Int.not_lt, Int.not_le] at c3p
        refine G_seq ?_
        refine G_region ?_
        refine GL_step rfl (PS_assign rfl) ?_
        refine GL_nil ?_
        refine GQ_sub (.cons (k := 6) rfl (.nil _)) ?_
        refine GQ_then ?_
        refine G_ret ?_
        refine GQ_then_ret ?_
        refine GQ_block_ret ?_
        refine GQ_then_ret ?_
        refine GQ_then_ret ?_
        refine GQ_block_ret ?_
        refine GQ_then_ret ?_
        refine GQ_ret rfl (.tmp rfl .nil) ?_
        intro w1 hS; refine ⟨congrArg Value.bool ?_, hS.toKeep⟩; rw [hI13]; simp only [c1, c2, c3, ↓reduceIte, Bool.false_eq_true]
      · skip
        have c3p := c3
        try simp only [decide_eq_true_eq, decide_eq_false_iff_not, Bool.not_eq_true', Bool.not_eq_false', Bool.or_eq_true, Bool.and_eq_true, Bool.or_eq_false_iff, Bool.and_eq_false_iff, Int.not_lt, Int.not_le] at c3p
        have h9 : 0 ≤ j ∧ j < 9 := by simp at c3; omega
        refine G_skip ?_
        refine GQ_sub (.cons (k := 1) rfl (.cons (k := 2) rfl (.cons (k := 3) rfl (.cons (k := 7) rfl (.nil _))))) ?_
        refine GQ_then ?_
        refine G_region ?_
        refine GL_step rfl (PS_move rfl) ?_
        refine GL_step rfl (PS_fieldAddr fa54_1 rfl) ?_
        refine GL_step rfl (PS_indexAddr ia49 rfl rfl (by omega) (by omega)) ?_
        refine GL_step rfl (PS_fieldAddr fa48_3 rfl) ?_
        refine GL_step rfl (PS_load rfl tys3 (.head _) ((Land.l1.comp (Lens.arr (n := 9) Thing.fl (by omega) (by omega))).comp Thing.l3) rfl rfl) ?_
        refine GL_step rfl (PS_assign rfl) ?_
        refine GL_nil ?_
        refine GQ_sub (.cons (k := 1) rfl (.cons (k := 2) rfl (.cons (k := 3) rfl (.cons (k := 7) rfl (.nil _))))) ?_
        refine GQ_block ?_
        refine GQ_then ?_
        refine G_region ?_
        refine GL_step rfl (PS_add rfl rfl (IntWalk.i64_in _ (by omega))) ?_
        refine GL_step rfl (PS_move rfl) ?_
        refine GL_nil ?_
        refine GQ_sub (.cons (k := 1) rfl (.cons (k := 2) rfl (.cons (k := 3) rfl (.cons (k := 7) rfl (.nil _))))) ?_
        refine GQ_next2 (k + 1, (X.things.at j).at_) ?_ ?_ ?_ ?_
        · exact ⟨by omega, by omega, by rw [hI13]; simp only [c1, c2, c3, ↓reduceIte, Bool.false_eq_true]⟩
        · show (10 - (k + 1)).toNat < (10 - k).toNat; omega
        · exact .cons (k := 1) rfl (.cons (k := 7) rfl (.cons (k := 2) rfl (.cons (k := 3) rfl (.nil _))))
        · exact (.refl _)
  · skip
    have c1p := c1
    try simp only [decide_eq_true_eq, decide_eq_false_iff_not, Bool.not_eq_true', Bool.not_eq_false', Bool.or_eq_true, Bool.and_eq_true, Bool.or_eq_false_iff, Bool.and_eq_false_iff, Int.not_lt, Int.not_le] at c1p
    obtain rfl : k = 10 := by omega
    refine G_exit ?_
    refine GQ_then_exit ?_
    refine GQ_then_exit ?_
    refine GQ_block_exit ?_
    refine GQ_sub (.nil _) ?_
    refine GQ_then ?_
    refine G_seq ?_
    refine G_region ?_
    refine GL_step rfl (PS_assign rfl) ?_
    refine GL_nil ?_
    refine GQ_then ?_
    refine G_ret ?_
    refine GQ_ret rfl (.tmp rfl .nil) ?_
    intro w1 hS; refine ⟨congrArg Value.bool ?_, hS.toKeep⟩; rw [hI13]; rfl
theorem keep_LandNests_spec (X : Land) (i j : Int) (w : World) : Ret Try.prog 8 #[.agg X.enc.toArray, .int .i64 i, .int .i64 j] w fun v w' => v = .bool true ∧ Keep w w' := by
  refine Ret_body [] [] Try.func8 rfl rfl rfl (St.start w []) ?_
  refine G_seq ?_
  refine G_region ?_
  refine GL_box rfl rfl rfl (fun b1 => ?_)
  refine GL_step rfl (PS_assign rfl) ?_
  refine GL_nil ?_
  refine GQ_sub (.cons (k := 1) rfl (.cons (k := 2) rfl (.cons (k := 3) rfl (.nil _)))) ?_
  refine GQ_then ?_
  refine G_seq ?_
  refine G_seq ?_
  refine G_region ?_
  refine GL_step rfl (PS_loadA rfl tya54 (.head _) (Lens.id Land.fl.len Land.fl.one) rfl) ?_
  refine GL_pure rfl cf27 (.cons rfl .nil) (fun w _ => land_Good_spec _ w) ?_
  refine GL_step rfl (PS_not rfl) ?_
  refine GL_step rfl (PS_move rfl) ?_
  refine GL_gf (t := 14) rfl rfl rfl (fun q => PS_move rfl) ?_
  refine GL_gf (t := 14) rfl rfl rfl (fun q => PS_lss (cvE rfl (by rw [q]; rfl)) rfl) ?_
  refine GL_step rfl (PS_or rfl rfl (fun h => by rw [h]; rfl)) ?_
  refine GL_step rfl (PS_move rfl) ?_
  refine GL_gf (t := 18) rfl rfl rfl (fun q => PS_move rfl) ?_
  refine GL_gf (t := 18) rfl rfl rfl (fun q => PS_lss (cvE rfl (by rw [q]; rfl)) rfl) ?_
  refine GL_step rfl (PS_or rfl rfl (fun h => by rw [h]; rfl)) ?_
  refine GL_step rfl (PS_move rfl) ?_
  refine GL_gf (t := 22) rfl rfl rfl (fun q => PS_move rfl) ?_
  refine GL_gf (t := 22) rfl rfl rfl (fun q => PS_geq (cvE rfl (by rw [q]; rfl)) rfl) ?_
  refine GL_step rfl (PS_or rfl rfl (fun h => by rw [h]; rfl)) ?_
  refine GL_step rfl (PS_move rfl) ?_
  refine GL_gf (t := 26) rfl rfl rfl (fun q => PS_move rfl) ?_
  refine GL_gf (t := 26) rfl rfl rfl (fun q => PS_geq (cvE rfl (by rw [q]; rfl)) rfl) ?_
  refine GL_step rfl (PS_or rfl rfl (fun h => by rw [h]; rfl)) ?_
  refine GL_nil ?_
  refine GQ_sub (.cons (k := 1) rfl (.cons (k := 2) rfl (.cons (k := 3) rfl (.cons (k := 29) rfl (.nil _))))) ?_
  refine GQ_then ?_
  refine G_cond rfl (fun c1 => ?_) (fun c1 => ?_)
  · skip
    have c1p := c1
    try simp only [decide_eq_true_eq, decide_eq_false_iff_not, Bool.not_eq_true', Bool.not_eq_false', Bool.or_eq_true, Bool.and_eq_true, Bool.or_eq_false_iff, Bool.and_eq_false_iff, Int.not_lt, Int.not_le] at c1p
    refine G_seq ?_
    refine G_region ?_
    refine GL_pure rfl cf28 .nil (fun w _ => keep_stands_spec w) ?_
    refine GL_step rfl (PS_assign rfl) ?_
    refine GL_nil ?_
    refine GQ_sub (.cons (k := 6) rfl (.nil _)) ?_
    refine GQ_then ?_
    refine G_ret ?_
    refine GQ_then_ret ?_
    refine GQ_ret rfl (.tmp rfl .nil) ?_
    intro w1 hS; refine ⟨?_, hS.toKeep⟩; rfl
  · skip
    have c1p := c1
    try simp only [decide_eq_true_eq, decide_eq_false_iff_not, Bool.not_eq_true', Bool.not_eq_false', Bool.or_eq_true, Bool.and_eq_true, Bool.or_eq_false_iff, Bool.and_eq_false_iff, Int.not_lt, Int.not_le] at c1p
    have hg : X.good = true ∧ 0 ≤ i ∧ 0 ≤ j ∧ i < 9 ∧ j < 9 := by simp at c1; exact ⟨c1.1.1.1.1, by omega, by omega, by omega, by omega⟩
    obtain ⟨hg, hi0, hj0, hi9, hj9⟩ := hg
    refine G_skip ?_
    refine GQ_sub (.cons (k := 1) rfl (.cons (k := 2) rfl (.cons (k := 3) rfl (.nil _)))) ?_
    refine GQ_then ?_
    refine G_seq ?_
    refine G_region ?_
    refine GL_step rfl (PS_loadA rfl tya54 (.head _) (Lens.id Land.fl.len Land.fl.one) rfl) ?_
    refine GL_step rfl (PS_move rfl) ?_
    refine GL_pure rfl cf29 (.cons rfl (.cons rfl .nil)) (fun w _ => land_Room_spec _ _ w) ?_
    refine GL_step rfl (PS_move rfl) ?_
    refine GL_step rfl (PS_extract rfl rfl) ?_
    refine GL_step rfl (PS_extract rfl rfl) ?_
    refine GL_step rfl (PS_assign rfl) ?_
    refine GL_step rfl (PS_assign rfl) ?_
    refine GL_nil ?_
    refine GQ_sub (.cons (k := 1) rfl (.cons (k := 2) rfl (.cons (k := 3) rfl (.cons (k := 7) rfl (.nil _))))) ?_
    refine GQ_then ?_
    refine G_seq ?_
    refine G_seq ?_
    refine G_region ?_
    refine GL_step rfl (PS_move rfl) ?_
    refine GL_step rfl (PS_lss rfl rfl) ?_
    refine GL_step rfl (PS_move rfl) ?_
    refine GL_gf (t := 39) rfl rfl rfl (fun q => PS_move rfl) ?_
    refine GL_gf (t := 39) rfl rfl rfl (fun q => PS_geq (cvE rfl (by rw [q]; rfl)) rfl) ?_
    refine GL_step rfl (PS_or rfl rfl (fun h => by rw [h]; rfl)) ?_
    refine GL_step rfl (PS_move rfl) ?_
    refine GL_gf (t := 43) rfl rfl rfl (fun q => PS_loadA rfl tya54 (.head _) (Lens.id Land.fl.len Land.fl.one) rfl) ?_
    refine GL_gf (t := 43) rfl rfl rfl (fun q => PS_move rfl) ?_
    refine GL_gf (t := 43) rfl rfl rfl (fun q => PS_move rfl) ?_
    refine GL_pgf (t := 43) rfl rfl rfl (fun q => by have q1 := q; (try simp at q1); exact PC_of cf30 (.cons (cvE rfl (by rw [q]; rfl)) (.cons (cvE rfl (by rw [q]; rfl)) (.cons (cvE rfl (by rw [q]; rfl)) .nil))) (fun w _ => land_Inside_spec _ _ _ w)) ?_
    refine GL_gf (t := 43) rfl rfl rfl (fun q => PS_not (cvE rfl (by rw [q]; rfl))) ?_
    refine GL_step rfl (PS_or rfl rfl (fun h => by rw [h]; rfl)) ?_
    refine GL_step rfl (PS_move rfl) ?_
    refine GL_gf (t := 50) rfl rfl rfl (fun q => PS_move rfl) ?_
    refine GL_gf (t := 50) rfl rfl rfl (fun q => PS_move rfl) ?_
    refine GL_gf (t := 50) rfl rfl rfl (fun q => PS_neq (cvE rfl (by rw [q]; rfl)) (cvE rfl (by rw [q]; rfl))) ?_
    refine GL_gf (t := 50) rfl rfl rfl (fun q => PS_move (cvE rfl (by rw [q]; rfl))) ?_
    refine GL_gtc (t := 54) rfl rfl rfl (fun qc q => PS_loadA rfl tya54 (.head _) (Lens.id Land.fl.len Land.fl.one) rfl) ?_
    refine GL_gtc (t := 54) rfl rfl rfl (fun qc q => PS_move rfl) ?_
    refine GL_gtc (t := 54) rfl rfl rfl (fun qc q => PS_move rfl) ?_
    refine GL_pgtc (t := 54) rfl rfl rfl (fun qc q => by have q1 := q; have qc1 := qc; (try simp at q1 qc1); exact PC_of cf30 (.cons (cvE rfl (by rw [qc, q]; rfl)) (.cons (cvE rfl (by rw [qc, q]; rfl)) (.cons (cvE rfl (by rw [qc, q]; rfl)) .nil))) (fun w _ => land_Inside_spec _ _ _ w)) ?_
    refine GL_gf (t := 50) rfl rfl rfl (fun q => PS_and (cvE rfl (by rw [q]; rfl)) rfl (fun h => by rw [q, h]; rfl)) ?_
    refine GL_gf (t := 50) rfl rfl rfl (fun q => PS_move (cvE rfl (by rw [q]; rfl))) ?_
    refine GL_gtc (t := 60) rfl rfl rfl (fun qc q => PS_loadA rfl tya54 (.head _) (Lens.id Land.fl.len Land.fl.one) rfl) ?_
    refine GL_gtc (t := 60) rfl rfl rfl (fun qc q => PS_move rfl) ?_
    refine GL_gtc (t := 60) rfl rfl rfl (fun qc q => PS_move rfl) ?_
    refine GL_pgtc (t := 60) rfl rfl rfl (fun qc q => by have q1 := q; have qc1 := qc; (try simp at q1 qc1); exact PC_of cf30 (.cons (cvE rfl (by rw [qc, q]; rfl)) (.cons (cvE rfl (by rw [qc, q]; rfl)) (.cons (cvE rfl (by rw [qc, q]; rfl)) .nil))) (fun w _ => land_Inside_spec _ _ _ w)) ?_
    refine GL_gf (t := 50) rfl rfl rfl (fun q => PS_and (cvE rfl (by rw [q]; rfl)) rfl (fun h => by rw [q, h]; rfl)) ?_
    refine GL_step rfl (PS_or rfl rfl (fun h => by rw [h]; rfl)) ?_
    refine GL_nil ?_
    refine GQ_sub (.cons (k := 1) rfl (.cons (k := 2) rfl (.cons (k := 3) rfl (.cons (k := 7) rfl (.cons (k := 66) rfl (.nil _)))))) ?_
    refine GQ_then ?_
    refine G_cond rfl (fun c2 => ?_) (fun c2 => ?_)
    · skip
      have c2p := c2
      try simp only [decide_eq_true_eq, decide_eq_false_iff_not, Bool.not_eq_true', Bool.not_eq_false', Bool.or_eq_true, Bool.and_eq_true, Bool.or_eq_false_iff, Bool.and_eq_false_iff, Int.not_lt, Int.not_le] at c2p
      refine G_seq ?_
      refine G_region ?_
      refine GL_step rfl (PS_assign rfl) ?_
      refine GL_nil ?_
      refine GQ_sub (.cons (k := 6) rfl (.nil _)) ?_
      refine GQ_then ?_
      refine G_ret ?_
      refine GQ_then_ret ?_
      refine GQ_ret rfl (.tmp rfl .nil) ?_
      exfalso; have hr := Land.good_room hg hi0 hi9; simp [Land.isIn_self] at c2; rcases c2 with h | ⟨⟨h1, h2⟩, h3⟩; (first | omega | (rcases h with h | h <;> omega)); exact Land.not_both hg hi0 hi9 h1 h2 h3
    · skip
      have c2p := c2
      try simp only [decide_eq_true_eq, decide_eq_false_iff_not, Bool.not_eq_true', Bool.not_eq_false', Bool.or_eq_true, Bool.and_eq_true, Bool.or_eq_false_iff, Bool.and_eq_false_iff, Int.not_lt, Int.not_le] at c2p
      refine G_skip ?_
      refine GQ_sub (.cons (k := 1) rfl (.cons (k := 2) rfl (.cons (k := 3) rfl (.cons (k := 7) rfl (.nil _))))) ?_
      refine GQ_then ?_
      refine G_seq ?_
      refine G_region ?_
      refine GL_step rfl (PS_loadA rfl tya54 (.head _) (Lens.id Land.fl.len Land.fl.one) rfl) ?_
      refine GL_step rfl (PS_move rfl) ?_
      refine GL_pure rfl cf29 (.cons rfl (.cons rfl .nil)) (fun w _ => land_Room_spec _ _ w) ?_
      refine GL_step rfl (PS_move rfl) ?_
      refine GL_step rfl (PS_extract rfl rfl) ?_
      refine GL_step rfl (PS_extract rfl rfl) ?_
      refine GL_step rfl (PS_assign rfl) ?_
      refine GL_step rfl (PS_assign rfl) ?_
      refine GL_nil ?_
      refine GQ_sub (.cons (k := 1) rfl (.cons (k := 2) rfl (.cons (k := 3) rfl (.cons (k := 7) rfl (.cons (k := 9) rfl (.nil _)))))) ?_
      refine GQ_then ?_
      refine G_seq ?_
      refine G_region ?_
      refine GL_step rfl (PS_loadA rfl tya54 (.head _) (Lens.id Land.fl.len Land.fl.one) rfl) ?_
      refine GL_step rfl (PS_move rfl) ?_
      refine GL_step rfl (PS_move rfl) ?_
      refine GL_pure rfl cf30 (.cons rfl (.cons rfl (.cons rfl .nil))) (fun w _ => land_Inside_spec _ _ _ w) ?_
      refine GL_step rfl (PS_not rfl) ?_
      refine GL_step rfl (PS_move rfl) ?_
      refine GL_gf (t := 78) rfl rfl rfl (fun q => PS_move rfl) ?_
      refine GL_gf (t := 78) rfl rfl rfl (fun q => PS_move rfl) ?_
      refine GL_gf (t := 78) rfl rfl rfl (fun q => PS_eql (cvE rfl (by rw [q]; rfl)) (cvE rfl (by rw [q]; rfl))) ?_
      refine GL_step rfl (PS_or rfl rfl (fun h => by rw [h]; rfl)) ?_
      refine GL_step rfl (PS_move rfl) ?_
      refine GL_pgt (t := 83) rfl rfl rfl (fun q => PC_of cf28 .nil (fun w _ => keep_stands_spec w)) ?_
      refine GL_step rfl (PS_and rfl rfl (fun h => h)) ?_
      refine GL_step rfl (PS_assign rfl) ?_
      refine GL_nil ?_
      refine GQ_sub (.cons (k := 6) rfl (.nil _)) ?_
      refine GQ_then ?_
      refine G_ret ?_
      refine GQ_ret rfl (.tmp rfl .nil) ?_
      intro w1 hS; refine ⟨congrArg Value.bool ?_, hS.toKeep⟩; cases hb : X.isIn i j; rfl; simp [Land.room_in hg hb]
set_option maxRecDepth 100000 in
theorem landNests_lifted (os : Os) (started : os.Started) (H : Type) (enc : TypeId × Value → H) :
    ReturnsInHanded {} Try.checked os 8 .any (Rows.landNestsSpec.pre6 enc Try.prog Try.f8 Rows.landNestsRow.domain false) (Rows.landNestsSpec.post enc Try.prog Try.f8 false true false false) := by
  refine returnsInHanded_of_change (C := Try.checked) own started (by kernel_rfl) Try.func8
    (ChangeSpec.witness6 (enc := enc) (C := Try.checked) false ⟨#[], #[.agg (Land.enc (default : Land)).toArray, .int .i64 0, .int .i64 0], []⟩ 8 (by kernel_rfl) (by kernel_rfl) (by kernel_rfl) (by kernel_rfl)) ?_
  intro W base args ds gs before hval hW _ _
  refine law_post (B := 4) laidOut (by kernel_rfl) Try.underlying4 (by kernel_rfl) rfl (fun ds h => by rw [Try.params8] at h; match ds, h with | [d1, d2, d3], _ => rfl) hW ?_
  obtain ⟨p, q, hA, hV, _, _, _⟩ := hW
  rw [Try.params8] at hA
  obtain ⟨v0, vs0, d0, ds0, p0, q0, hv0, rfl, rfl, hd0, hA⟩ := trodAll_cons hA
  obtain ⟨v1, vs1, d1, ds1, p1, q1, hv1, rfl, rfl, hd1, hA⟩ := trodAll_cons hA
  obtain ⟨v2, vs2, d2, ds2, p2, q2, hv2, rfl, rfl, hd2, hA⟩ := trodAll_cons hA
  obtain ⟨hvn, rfl, rfl⟩ := trodAll_nil hA
  obtain rfl : args = #[v0, v1, v2] := by cases args; simp_all
  obtain ⟨X, rfl, w0⟩ := open_ag (P := Try.prog) (t := 54) (by rw [Try.underlying54]) (hval 0 _ _ rfl rfl) dc54 hd0
  obtain ⟨i, rfl, rfl, rfl, w1⟩ := open_int Try.underlying3 (hval 1 _ _ rfl rfl) hd1
  have w1 := bounds_i64 w1
  obtain ⟨j, rfl, rfl, rfl, w2⟩ := open_int Try.underlying3 (hval 2 _ _ rfl rfl) hd2
  have w2 := bounds_i64 w2
  exact keep_LandNests_spec _ _ _ W
theorem landNests_holds : Rows.LandNestsSaid :=
  OpenClaim.holds_of_wide 8 Try.f8 rfl rfl rfl rfl rfl rfl rfl ⟨rfl, rfl, rfl, rfl, rfl⟩ rfl rfl rfl rfl rfl (by kernel_rfl) Try.func8 (by kernel_rfl)
    (of_decide_eq_true (by kernel_rfl)) (by unfold Func.isWrapper; first | (rw [if_pos (by decide +kernel)]; kernel_rfl) | (rw [if_neg (by decide +kernel)]; exact ⟨rfl, rfl⟩))
    (fun os started H enc _ => landNests_lifted os started H enc)
end Go.Proofs.Ytnpbkbianmogoaa
