/- For every input the law LineWhole returns true. No condition. -/
import Derived.Test.YtnpbkbianmogoaaRows
import Derived.Test.YtnpbkbianmogoaaEc1
import Derived.Test.YtnpbkbianmogoaaLineWholePlain
set_option linter.unusedSimpArgs false
set_option linter.unusedVariables false
set_option maxRecDepth 100000
namespace Go.Proofs.Ytnpbkbianmogoaa
open Go Go.Ing Go.RowKit Go.ChangeShapes Go.WideShapes Go.ChangeAt
theorem own : ownKnob Try.prog.godebug = none := by kernel_rfl
theorem laidOut : laidOutB Try.prog = true := by kernel_rfl
theorem sz9 : Sz Try.prog 9 1 := Sz_of (by kernel_rfl)
theorem zv9 : ZV Try.prog 9 (vstr []) := ZV_of (by kernel_rfl)
theorem by9 : BY Try.prog 9 16 := BY_of (by kernel_rfl)
theorem fa25_0 : FA Try.prog 25 0 0 := FA_of Try.underlying25 rfl sz9
theorem tys9 : TyS Try.prog 9 := TyS_of Try.underlying9 rfl
theorem sz23 : Sz Try.prog 23 1 := Sz_of (by kernel_rfl)
theorem fa25_3 : FA Try.prog 25 3 3 := FA_of Try.underlying25 rfl sz23
theorem tys23 : TyS Try.prog 23 := TyS_of Try.underlying23 rfl
theorem sz4 : Sz Try.prog 4 1 := Sz_of (by kernel_rfl)
theorem fa25_1 : FA Try.prog 25 1 1 := FA_of Try.underlying25 rfl sz4
theorem tys4 : TyS Try.prog 4 := TyS_of Try.underlying4 rfl
theorem fa25_2 : FA Try.prog 25 2 2 := FA_of Try.underlying25 rfl sz4
theorem mix : Try.prog.follows .mixedOrders = true := by kernel_rfl
theorem cf49 : CF Try.prog 49 := Try.call49
theorem is23 : IS Try.prog 23 1 := IS_of Try.underlying23 sz9
theorem cf50 : CF Try.prog 50 := Try.call50
theorem zv25 : ZV Try.prog 25 (.agg (LineV.enc ⟨[], false, false, ⟨none, 0, 0⟩⟩).toArray) := ZV_of (by kernel_rfl)
theorem sz25 : Sz Try.prog 25 4 := Sz_of (by kernel_rfl)
theorem tya25 : TyA Try.prog 25 4 := TyA_of Try.underlying25 rfl sz25
theorem cf16 : CF Try.prog 16 := Try.call16
theorem sz5 : Sz Try.prog 5 1 := Sz_of (by kernel_rfl)
theorem zv5 : ZV Try.prog 5 (.int .u8 0) := ZV_of (by kernel_rfl)
theorem by5 : BY Try.prog 5 1 := BY_of (by kernel_rfl)
theorem pl25 : Places Try.prog 25 [(0, 1), (1, 1), (2, 1), (3, 1)] := ⟨_, Try.underlying25, fun w => by simp [sz9 w, sz4 w, sz23 w]⟩
theorem cf13 : CF Try.prog 13 := Try.call13
theorem zv39 : ZV Try.prog 39 (.agg (encA (n := 4) encS (Vector.replicate 4 default)).toArray) := ZV_of (by kernel_rfl)
theorem cf18 : CF Try.prog 18 := Try.call18
theorem cf17 : CF Try.prog 17 := Try.call17
theorem cf14 : CF Try.prog 14 := Try.call14
theorem cf26 : CF Try.prog 26 := Try.call26
theorem cf23 : CF Try.prog 23 := Try.call23
theorem dc9 {H : Type} {enc : TypeId × Value → H} {w : World} : Dc H enc Try.prog w (encS) wfS 9 := Dc_string Try.underlying9
theorem keep_pick_spec (k n : Int) (h0 : 0 < n) (h1 : n ≤ 1000000000) (w : World) : Ret Try.prog 18 #[.int .i64 k, .int .i64 n] w fun v w' => v = .int .i64 (Line.pick k n) ∧ Keep w w' := by
  have hb := Int.tmod_lt_of_pos k h0
  have hc := Int.lt_tmod_of_pos k h0
  refine Ret_body [] [] Try.func18 rfl rfl rfl (St.start w []) ?_
  refine G_seq ?_
  refine G_region ?_
  refine GL_step rfl (PS_assign rfl) ?_
  refine GL_nil ?_
  refine GQ_sub (.cons (k := 0) rfl (.cons (k := 1) rfl (.nil _))) ?_
  refine GQ_then ?_
  refine G_seq ?_
  refine G_region ?_
  refine GL_step rfl (PS_move rfl) ?_
  refine GL_step rfl (PS_move rfl) ?_
  refine GL_step rfl (PS_rem rfl rfl (by omega)) ?_
  refine GL_step rfl (PS_assign rfl) ?_
  refine GL_nil ?_
  refine GQ_sub (.cons (k := 0) rfl (.cons (k := 1) rfl (.nil _))) ?_
  refine GQ_then ?_
  refine G_seq ?_
  refine G_seq ?_
  refine G_region ?_
  refine GL_step rfl (PS_move rfl) ?_
  refine GL_step rfl (PS_lss rfl rfl) ?_
  refine GL_nil ?_
  refine GQ_sub (.cons (k := 0) rfl (.cons (k := 1) rfl (.cons (k := 9) rfl (.nil _)))) ?_
  refine GQ_then ?_
  refine G_cond rfl (fun c1 => ?_) (fun c1 => ?_)
  · skip
    have c1p := c1
    try simp only [decide_eq_true_eq, decide_eq_false_iff_not, Bool.not_eq_true', Bool.not_eq_false', Bool.or_eq_true, Bool.and_eq_true, Bool.or_eq_false_iff, Bool.and_eq_false_iff, Int.not_lt, Int.not_le] at c1p
    refine G_region ?_
    refine GL_step rfl (PS_move rfl) ?_
    refine GL_step rfl (PS_move rfl) ?_
    refine GL_step rfl (PS_add rfl rfl (IntWalk.i64_in _ (by omega))) ?_
    refine GL_step rfl (PS_assign rfl) ?_
    refine GL_nil ?_
    refine GQ_sub (.cons (k := 0) rfl (.nil _)) ?_
    refine GQ_then ?_
    refine G_seq ?_
    refine G_region ?_
    refine GL_step rfl (PS_move rfl) ?_
    refine GL_step rfl (PS_assign rfl) ?_
    refine GL_nil ?_
    refine GQ_sub (.cons (k := 4) rfl (.nil _)) ?_
    refine GQ_then ?_
    refine G_ret ?_
    refine GQ_ret rfl (.tmp rfl .nil) ?_
    intro w1 hS; refine ⟨?_, hS.toKeep⟩; rw [Line.pick, if_pos c1p]; rfl
  · skip
    have c1p := c1
    try simp only [decide_eq_true_eq, decide_eq_false_iff_not, Bool.not_eq_true', Bool.not_eq_false', Bool.or_eq_true, Bool.and_eq_true, Bool.or_eq_false_iff, Bool.and_eq_false_iff, Int.not_lt, Int.not_le] at c1p
    refine G_skip ?_
    refine GQ_sub (.cons (k := 0) rfl (.nil _)) ?_
    refine GQ_then ?_
    refine G_seq ?_
    refine G_region ?_
    refine GL_step rfl (PS_move rfl) ?_
    refine GL_step rfl (PS_assign rfl) ?_
    refine GL_nil ?_
    refine GQ_sub (.cons (k := 4) rfl (.nil _)) ?_
    refine GQ_then ?_
    refine G_ret ?_
    refine GQ_ret rfl (.tmp rfl .nil) ?_
    intro w1 hS; refine ⟨?_, hS.toKeep⟩; rw [Line.pick, if_neg (by omega), Int.add_zero]; rfl
theorem keep_clean_spec (s : Str) (hs : s.length ≤ 9223372036854775807) (w : World) : Ret Try.prog 17 #[vstr s] w fun v w' => v = .bool (Line.cleanK s) ∧ Keep w w' := by
  refine Ret_body [] [] Try.func17 rfl rfl rfl (St.start w []) ?_
  refine G_seq ?_
  refine G_region ?_
  refine GL_step rfl (PS_assign rfl) ?_
  refine GL_nil ?_
  refine GQ_sub (.cons (k := 0) rfl (.nil _)) ?_
  refine GQ_then ?_
  refine G_seq ?_
  refine G_seq ?_
  refine G_region ?_
  refine GL_step rfl (PS_move rfl) ?_
  refine GL_step rfl (PS_len_str rfl Try.underlying9 rfl) ?_
  refine GL_step rfl (PS_move rfl) ?_
  refine GL_nil ?_
  refine GQ_sub (.cons (k := 0) rfl (.cons (k := 5) rfl (.cons (k := 6) rfl (.nil _)))) ?_
  refine GQ_then ?_
  refine G_block ?_
  refine G_subF (.cons (k := 6) rfl (.cons (k := 0) rfl (.cons (k := 5) rfl (.nil _)))) ?_
  refine G_loop1_ (fun (i : Int) => 0 ≤ i ∧ i ≤ s.length ∧ Line.cleanK s = ((s.drop i.toNat).all Line.plainK && decide ((s.length : Int) ≤ 60))) (fun (i : Int) => ((s.length : Int) - i).toNat) (fun (i : Int) => [(6, .int .i64 i)]) (fun (i : Int) => []) (0) ?_ rfl rfl (fun i hI1 => ?_)
  · exact ⟨by omega, by omega, rfl⟩
  obtain ⟨hI11, hI12, hI13⟩ := hI1
  refine G_seq ?_
  refine G_region ?_
  refine GL_step rfl (PS_lss rfl rfl) ?_
  refine GL_nil ?_
  refine GQ_then ?_
  refine G_seq ?_
  refine G_cond rfl (fun c1 => ?_) (fun c1 => ?_)
  · skip
    have c1p := c1
    try simp only [decide_eq_true_eq, decide_eq_false_iff_not, Bool.not_eq_true', Bool.not_eq_false', Bool.or_eq_true, Bool.and_eq_true, Bool.or_eq_false_iff, Bool.and_eq_false_iff, Int.not_lt, Int.not_le] at c1p
    refine G_skip ?_
    refine GQ_sub (.cons (k := 0) rfl (.cons (k := 5) rfl (.cons (k := 6) rfl (.nil _)))) ?_
    refine GQ_then ?_
    refine G_seq ?_
    refine G_block ?_
    refine G_seq ?_
    refine G_region ?_
    refine GL_step rfl (PS_move rfl) ?_
    refine GL_step rfl (PS_assign rfl) ?_
    refine GL_nil ?_
    refine GQ_sub (.cons (k := 0) rfl (.cons (k := 3) rfl (.cons (k := 5) rfl (.cons (k := 6) rfl (.nil _))))) ?_
    refine GQ_then ?_
    refine G_seq ?_
    refine G_region ?_
    refine GL_step rfl (PS_move rfl) ?_
    refine GL_step rfl (PS_move rfl) ?_
    refine GL_step rfl (PS_index_str Try.underlying9 rfl rfl (by omega) (by omega)) ?_
    refine GL_step rfl (PS_lss rfl rfl) ?_
    refine GL_step rfl (PS_move rfl) ?_
    refine GL_gf (t := 13) rfl rfl rfl (fun q => PS_move rfl) ?_
    refine GL_gf (t := 13) rfl rfl rfl (fun q => PS_move rfl) ?_
    refine GL_gf (t := 13) rfl rfl rfl (fun q => by have q1 := q; (try simp at q1); exact PS_index_str Try.underlying9 (cvE rfl (by rw [q]; rfl)) (cvE rfl (by rw [q]; rfl)) (by omega) (by omega)) ?_
    refine GL_gf (t := 13) rfl rfl rfl (fun q => PS_gtr (cvE rfl (by rw [q]; rfl)) rfl) ?_
    refine GL_step rfl (PS_or rfl rfl (fun h => by rw [h]; rfl)) ?_
    refine GL_nil ?_
    refine GQ_sub (.cons (k := 0) rfl (.cons (k := 5) rfl (.cons (k := 6) rfl (.cons (k := 18) rfl (.nil _))))) ?_
    refine GQ_then ?_
    refine G_cond rfl (fun c2 => ?_) (fun c2 => ?_)
    · skip
      have c2p := c2
      try simp only [decide_eq_true_eq, decide_eq_false_iff_not, Bool.not_eq_true', Bool.not_eq_false', Bool.or_eq_true, Bool.and_eq_true, Bool.or_eq_false_iff, Bool.and_eq_false_iff, Int.not_lt, Int.not_le] at c2p
      refine G_seq ?_
      refine G_region ?_
      refine GL_step rfl (PS_assign rfl) ?_
      refine GL_nil ?_
      refine GQ_sub (.cons (k := 2) rfl (.nil _)) ?_
      refine GQ_then ?_
      refine G_ret ?_
      refine GQ_block_ret ?_
      refine GQ_then_ret ?_
      refine GQ_then_ret ?_
      refine GQ_block_ret ?_
      refine GQ_then_ret ?_
      refine GQ_ret rfl (.tmp rfl .nil) ?_
      intro w1 hS; refine ⟨congrArg Value.bool ?_, hS.toKeep⟩; rw [hI13, Line.all_drop (d := 0) hI11 (by omega), show Line.plainK _ = false from by simp only [Line.plainK, c2]; rfl]; rfl
    · skip
      have c2p := c2
      try simp only [decide_eq_true_eq, decide_eq_false_iff_not, Bool.not_eq_true', Bool.not_eq_false', Bool.or_eq_true, Bool.and_eq_true, Bool.or_eq_false_iff, Bool.and_eq_false_iff, Int.not_lt, Int.not_le] at c2p
      refine G_skip ?_
      refine GQ_sub (.cons (k := 0) rfl (.cons (k := 5) rfl (.cons (k := 6) rfl (.nil _)))) ?_
      refine GQ_block ?_
      refine GQ_then ?_
      refine G_region ?_
      refine GL_step rfl (PS_add rfl rfl (IntWalk.i64_in _ (by omega))) ?_
      refine GL_step rfl (PS_move rfl) ?_
      refine GL_nil ?_
      refine GQ_sub (.cons (k := 0) rfl (.cons (k := 5) rfl (.cons (k := 6) rfl (.nil _)))) ?_
      refine GQ_next1_ (i + 1) ?_ ?_ (.cons (k := 6) rfl (.cons (k := 0) rfl (.cons (k := 5) rfl (.nil _)))) (.refl _)
      · exact ⟨by omega, by omega, by rw [hI13, Line.all_drop (d := 0) hI11 (by omega), show Line.plainK _ = true from by simp only [Line.plainK, c2]; rfl]; rfl⟩
      · omega
  · skip
    have c1p := c1
    try simp only [decide_eq_true_eq, decide_eq_false_iff_not, Bool.not_eq_true', Bool.not_eq_false', Bool.or_eq_true, Bool.and_eq_true, Bool.or_eq_false_iff, Bool.and_eq_false_iff, Int.not_lt, Int.not_le] at c1p
    refine G_exit ?_
    refine GQ_then_exit ?_
    refine GQ_then_exit ?_
    refine GQ_block_exit ?_
    refine GQ_sub (.cons (k := 0) rfl (.nil _)) ?_
    refine GQ_then ?_
    refine G_seq ?_
    refine G_region ?_
    refine GL_step rfl (PS_move rfl) ?_
    refine GL_step rfl (PS_len_str rfl Try.underlying9 rfl) ?_
    refine GL_step rfl (PS_leq rfl rfl) ?_
    refine GL_step rfl (PS_assign rfl) ?_
    refine GL_nil ?_
    refine GQ_sub (.cons (k := 2) rfl (.nil _)) ?_
    refine GQ_then ?_
    refine G_ret ?_
    refine GQ_ret rfl (.tmp rfl .nil) ?_
    intro w1 hS; refine ⟨congrArg Value.bool ?_, hS.toKeep⟩; rw [hI13, show i.toNat = s.length from by omega, List.drop_length]; rfl
theorem slices_Clone_string_string_spec {t0 : Nat} (h : Hd) (xs : List Str) (hb : xs.length ≤ 1048576) : CtrR Try.prog 49 #[h.val] [] (fun w => Rd w h t0 1 (xs.flatMap encS)) (fun v B => ∃ h' : Hd, v = h'.val ∧ h'.len = xs.length ∧ B = [Res.own h' 9 1 (xs.flatMap encS)]) := by
  intro w hS0 hH
  have r0 := hH
  have hl := r0.len1 flS (by decide)
  refine Ret_body _ _ Try.func49 rfl rfl rfl (hS0) ?_
  refine G_seq ?_
  refine G_region ?_
  refine GL_step rfl (PS_assign rfl) ?_
  refine GL_nil ?_
  refine GQ_sub (.cons (k := 0) rfl (.nil _)) ?_
  refine GQ_then ?_
  refine G_seq ?_
  refine G_seq ?_
  refine G_region ?_
  refine GL_step rfl (PS_move rfl) ?_
  refine GL_step rfl (PS_eqs_nil Try.underlying23 rfl) ?_
  refine GL_nil ?_
  refine GQ_sub (.cons (k := 0) rfl (.cons (k := 4) rfl (.nil _))) ?_
  refine GQ_then ?_
  refine G_cond rfl (fun c1 => ?_) (fun c1 => ?_)
  · skip
    have c1p := c1
    try simp only [decide_eq_true_eq, decide_eq_false_iff_not, Bool.not_eq_true', Bool.not_eq_false', Bool.or_eq_true, Bool.and_eq_true, Bool.or_eq_false_iff, Bool.and_eq_false_iff, Int.not_lt, Int.not_le] at c1p
    refine G_seq ?_
    refine G_region ?_
    refine GL_step rfl (PS_assign rfl) ?_
    refine GL_nil ?_
    refine GQ_sub (.cons (k := 2) rfl (.nil _)) ?_
    refine GQ_then ?_
    refine G_ret ?_
    refine GQ_then_ret ?_
    refine GQ_ret rfl (.tmp rfl .nil) ?_
    intro w1 hS
    have hS := (hS.perm (Pulls.perm .nil)).headL
    have hx : xs = [] := by
      rcases xs with _ | ⟨x, xs⟩
      · rfl
      · exfalso
        obtain ⟨b, o, C, fz, e1, _⟩ := r0.2 (by simp [encS])
        rw [e1] at c1
        cases c1
    subst hx
    exact ⟨_, ⟨⟨none, 0, 0⟩, rfl, rfl, rfl⟩, hS.own_nil _ _⟩
  · skip
    have c1p := c1
    try simp only [decide_eq_true_eq, decide_eq_false_iff_not, Bool.not_eq_true', Bool.not_eq_false', Bool.or_eq_true, Bool.and_eq_true, Bool.or_eq_false_iff, Bool.and_eq_false_iff, Int.not_lt, Int.not_le] at c1p
    refine G_skip ?_
    refine GQ_sub (.cons (k := 0) rfl (.nil _)) ?_
    refine GQ_then ?_
    refine G_seq ?_
    refine G_region ?_
    refine GL_bs0F encS rfl Try.underlying23 sz9 (fun b1 => ?_)
    refine GL_step rfl (PS_move rfl) ?_
    refine GL_appendF flS rfl Try.underlying23 sz9 zv9 rfl by9 (by decide) (by decide) rfl rfl (fun w hS => Src.sliceT Try.underlying23 ((Kn.old r0) w hS)) (by (try dsimp only); omega) (fun _ => .head) (fun h1 h1l h1z => ?_)
    refine GL_step rfl (PS_assign rfl) ?_
    refine GL_nil ?_
    refine GQ_sub (.cons (k := 2) rfl (.nil _)) ?_
    refine GQ_then ?_
    refine G_ret ?_
    refine GQ_ret rfl (.tmp rfl .nil) ?_
    intro w1 hS
    have hS := (hS.perm (Pulls.perm (.cons .head .nil))).headL
    exact ⟨_, ⟨_, rfl, by dsimp only at h1l; omega, rfl⟩, hS⟩
theorem line_plain_spec (b : UInt8) (w : World) : Ret Try.prog 50 #[.int .u8 (b.toNat : Int)] w fun v w' => v = .bool (Line.plainB b) ∧ Keep w w' := by
  refine Ret_body [] [] Try.func50 rfl rfl rfl (St.start w []) ?_
  refine G_seq ?_
  refine G_region ?_
  refine GL_step rfl (PS_assign rfl) ?_
  refine GL_nil ?_
  refine GQ_sub (.cons (k := 0) rfl (.nil _)) ?_
  refine GQ_then ?_
  refine G_seq ?_
  refine G_region ?_
  refine GL_step rfl (PS_move rfl) ?_
  refine GL_step rfl (PS_geq rfl rfl) ?_
  refine GL_step rfl (PS_move rfl) ?_
  refine GL_gt (t := 5) rfl rfl rfl (fun q => PS_move rfl) ?_
  refine GL_gt (t := 5) rfl rfl rfl (fun q => PS_lss (cvE rfl q) rfl) ?_
  refine GL_step rfl (PS_and rfl rfl (fun h => h)) ?_
  refine GL_step rfl (PS_assign rfl) ?_
  refine GL_nil ?_
  refine GQ_sub (.cons (k := 2) rfl (.nil _)) ?_
  refine GQ_then ?_
  refine G_ret ?_
  refine GQ_ret rfl (.tmp rfl .nil) ?_
  intro w1 hS; refine ⟨?_, hS.toKeep⟩; rfl
theorem line_Good_spec {t0 : Nat} (l : LineV) (qs : List Str) (w : World) (r0 : Rd w l.queue t0 1 (qs.flatMap encS)) : Ret Try.prog 16 #[.agg l.enc.toArray] w fun v w' => v = .bool (Line.good l qs) ∧ Keep w w' := by
  have hl := r0.len1 flS (by decide)
  refine Ret_body [] [] Try.func16 rfl rfl rfl (St.start w []) ?_
  refine G_seq ?_
  refine G_region ?_
  refine GL_box rfl rfl rfl (fun b1 => ?_)
  refine GL_step rfl (PS_assign rfl) ?_
  refine GL_nil ?_
  refine GQ_sub (.cons (k := 1) rfl (.nil _)) ?_
  refine GQ_then ?_
  refine G_seq ?_
  refine G_seq ?_
  refine G_region ?_
  refine GL_step rfl (PS_fieldAddr fa25_0 rfl) ?_
  refine GL_step rfl (PS_load rfl tys9 (.head _) LineV.l0 rfl rfl) ?_
  refine GL_step rfl (PS_len_str rfl Try.underlying9 rfl) ?_
  refine GL_step rfl (PS_gtr rfl rfl) ?_
  refine GL_step rfl (PS_move rfl) ?_
  refine GL_gf (t := 10) rfl rfl rfl (fun q => PS_fieldAddr fa25_3 rfl) ?_
  refine GL_gf (t := 10) rfl rfl rfl (fun q => PS_load (cvE rfl (by rw [q]; rfl)) tys23 (.head _) LineV.l3 rfl rfl) ?_
  refine GL_gf (t := 10) rfl rfl rfl (fun q => PS_len_slice rfl Try.underlying23 (cvE rfl (by rw [q]; rfl))) ?_
  refine GL_gf (t := 10) rfl rfl rfl (fun q => PS_gtr (cvE rfl (by rw [q]; rfl)) rfl) ?_
  refine GL_step rfl (PS_or rfl rfl (fun h => by rw [h]; rfl)) ?_
  refine GL_step rfl (PS_move rfl) ?_
  refine GL_gf (t := 16) rfl rfl rfl (fun q => PS_fieldAddr fa25_1 rfl) ?_
  refine GL_gf (t := 16) rfl rfl rfl (fun q => PS_load (cvE rfl (by rw [q]; rfl)) tys4 (.head _) LineV.l1 rfl rfl) ?_
  refine GL_gf (t := 16) rfl rfl rfl (fun q => PS_move (cvE rfl (by rw [q]; rfl))) ?_
  refine GL_gtc (t := 19) rfl rfl rfl (fun qc q => PS_fieldAddr fa25_0 rfl) ?_
  refine GL_gtc (t := 19) rfl rfl rfl (fun qc q => PS_load (cvE rfl (by rw [qc, q]; rfl)) tys9 (.head _) LineV.l0 rfl rfl) ?_
  refine GL_gtc (t := 19) rfl rfl rfl (fun qc q => PS_len_str rfl Try.underlying9 (cvE rfl (by rw [qc, q]; rfl))) ?_
  refine GL_gtc (t := 19) rfl rfl rfl (fun qc q => PS_gtr (cvE rfl (by rw [qc, q]; rfl)) rfl) ?_
  refine GL_gf (t := 16) rfl rfl rfl (fun q => PS_and (cvE rfl (by rw [q]; rfl)) rfl (fun h => by rw [q, h]; rfl)) ?_
  refine GL_step rfl (PS_or rfl rfl (fun h => by rw [h]; rfl)) ?_
  refine GL_step rfl (PS_move rfl) ?_
  refine GL_gf (t := 26) rfl rfl rfl (fun q => PS_fieldAddr fa25_2 rfl) ?_
  refine GL_gf (t := 26) rfl rfl rfl (fun q => PS_load (cvE rfl (by rw [q]; rfl)) tys4 (.head _) LineV.l2 rfl rfl) ?_
  refine GL_gf (t := 26) rfl rfl rfl (fun q => PS_move (cvE rfl (by rw [q]; rfl))) ?_
  refine GL_gtc (t := 29) rfl rfl rfl (fun qc q => PS_fieldAddr fa25_0 rfl) ?_
  refine GL_gtc (t := 29) rfl rfl rfl (fun qc q => PS_load (cvE rfl (by rw [qc, q]; rfl)) tys9 (.head _) LineV.l0 rfl rfl) ?_
  refine GL_gtc (t := 29) rfl rfl rfl (fun qc q => PS_neq_str (cvE rfl (by rw [qc, q]; rfl)) rfl) ?_
  refine GL_gtc (t := 29) rfl rfl rfl (fun qc q => PS_move (cvE rfl (by rw [qc, q]; rfl))) ?_
  refine GL_gfc (t := 33) rfl rfl rfl (fun qc q => PS_fieldAddr fa25_1 rfl) ?_
  refine GL_gfc (t := 33) rfl rfl rfl (fun qc q => PS_load (cvE rfl (by rw [qc, q]; rfl)) tys4 (.head _) LineV.l1 rfl rfl) ?_
  refine GL_gtc (t := 29) rfl rfl rfl (fun qc q => PS_or (cvE rfl (by rw [qc, q]; rfl)) rfl (fun h => by rw [qc, q, h]; rfl)) ?_
  refine GL_gf (t := 26) rfl rfl rfl (fun q => PS_and (cvE rfl (by rw [q]; rfl)) rfl (fun h => by rw [q, h]; rfl)) ?_
  refine GL_step rfl (PS_or rfl rfl (fun h => by rw [h]; rfl)) ?_
  refine GL_nil ?_
  refine GQ_sub (.cons (k := 1) rfl (.cons (k := 38) rfl (.nil _))) ?_
  refine GQ_then ?_
  refine G_cond rfl (fun c1 => ?_) (fun c1 => ?_)
  · skip
    have c1p := c1
    try simp only [decide_eq_true_eq, decide_eq_false_iff_not, Bool.not_eq_true', Bool.not_eq_false', Bool.or_eq_true, Bool.and_eq_true, Bool.or_eq_false_iff, Bool.and_eq_false_iff, Int.not_lt, Int.not_le] at c1p
    refine G_seq ?_
    refine G_region ?_
    refine GL_step rfl (PS_assign rfl) ?_
    refine GL_nil ?_
    refine GQ_sub (.cons (k := 2) rfl (.nil _)) ?_
    refine GQ_then ?_
    refine G_ret ?_
    refine GQ_then_ret ?_
    refine GQ_ret rfl (.tmp rfl .nil) ?_
    intro w1 hS; refine ⟨congrArg Value.bool ?_, hS.toKeep⟩; rw [Line.good, show Line.badHead l = true from c1]; rfl
  · skip
    have c1p := c1
    try simp only [decide_eq_true_eq, decide_eq_false_iff_not, Bool.not_eq_true', Bool.not_eq_false', Bool.or_eq_true, Bool.and_eq_true, Bool.or_eq_false_iff, Bool.and_eq_false_iff, Int.not_lt, Int.not_le] at c1p
    have hq : (l.queue.len : Int) ≤ 6 := by omega
    refine G_skip ?_
    refine GQ_sub (.cons (k := 1) rfl (.nil _)) ?_
    refine GQ_then ?_
    refine G_seq ?_
    refine G_seq ?_
    refine G_planN (N := 9) [0, 1, 3, 0, 8, 24, 63, 127, 0] mix (by kernel_rfl) rfl ?_
    refine Plan_float 0 rfl rfl (by kernel_rfl) (OK_s (EX_s (PS_fieldAddr fa25_3 rfl))) ?_
    refine Plan_float 1 rfl rfl (by kernel_rfl) (OK_s (EX_s (PS_load rfl tys23 (.head _) LineV.l3 rfl rfl))) ?_
    refine Plan_float 3 rfl rfl (by kernel_rfl) (OK_s (EX_s (PS_fieldAddr fa25_0 rfl))) ?_
    refine Plan_float 4 rfl rfl (by kernel_rfl) (OK_s (EX_s (PS_load rfl tys9 (.head _) LineV.l0 rfl rfl))) ?_
    refine Plan_float 8 rfl rfl (by kernel_rfl) (OK_s (EX_s (PS_move rfl))) ?_
    refine Plan_two 2 5 rfl rfl (by kernel_rfl) ?_ ?_
    · skip
      refine GL_callR rfl cf49 (.cons rfl .nil) .nil (slices_Clone_string_string_spec _ _ (by first | assumption | omega)) (fun w hS => (Kn.old r0) w hS) (fun v1 B hv => ?_)
      obtain ⟨y2, rfl, y3, rfl⟩ := hv
      refine GL_hand rfl ⟨?_, ?_⟩
      · exact (Pend_okv rfl (OK_s (EX_s (PS_move rfl))) rfl rfl (Pend_okv rfl (OK_s (EX_s (PS_load rfl tys9 (.tail _ (.head _)) LineV.l0 rfl rfl))) rfl rfl (Pend_okv rfl (OK_s (EX_s (PS_fieldAddr fa25_0 rfl))) rfl rfl (Pend_skip (by kernel_rfl) (Pend_skip (by kernel_rfl) Pend_nil)))))
      refine Plan_chain 5 rfl (by kernel_rfl) ?_
      refine GL_bs1F encS flS rfl Try.underlying23 sz9 zv9 rfl (by decide) (by decide) rfl rfl (fun b2 => ?_)
      refine GL_hand rfl ⟨?_, ?_⟩
      · exact (Pend_okv rfl (OK_s (EX_s (PS_move rfl))) rfl rfl (Pend_skip (by kernel_rfl) (Pend_skip (by kernel_rfl) (Pend_okv rfl (OK_s (EX_s (PS_load rfl tys23 (.tail _ (.tail _ (.head _))) LineV.l3 rfl rfl))) rfl rfl (Pend_okv rfl (OK_s (EX_s (PS_fieldAddr fa25_3 rfl))) rfl rfl Pend_nil)))))
      refine Plan_chain 6 rfl (by kernel_rfl) ?_
      refine GL_appendF flS rfl Try.underlying23 sz9 zv9 rfl by9 (by decide) (by decide) rfl rfl (fun w hS => Src.sliceT Try.underlying23 ((Kn.own (.head _)) w hS)) (by (try dsimp only); omega) (fun _ => (.tail .head)) (fun h5 h5l h5z => ?_)
      refine GL_hand rfl ⟨?_, ?_⟩
      · exact (Pend_okv rfl (OK_s (EX_s (PS_move rfl))) rfl rfl (Pend_skip (by kernel_rfl) (Pend_skip (by kernel_rfl) (Pend_skip (by kernel_rfl) (Pend_skip (by kernel_rfl) Pend_nil)))))
      refine Plan_float 7 rfl rfl (by kernel_rfl) (OK_s (EX_s (PS_len_slice rfl Try.underlying23 rfl))) ?_
      refine Plan_end (by kernel_rfl) ?_
      refine GQ_sub (.cons (k := 45) rfl (.cons (k := 46) rfl (.cons (k := 47) rfl (.nil _)))) ?_
      refine GQ_then ?_
      refine G_block ?_
      refine G_subF (.cons (k := 47) rfl (.cons (k := 45) rfl (.cons (k := 46) rfl (.nil _)))) ?_
      refine G_loop1_ (fun (k : Int) => 0 ≤ k ∧ k ≤ ((qs ++ [l.now]).length : Int) ∧ Line.good l qs = ((qs ++ [l.now]).drop k.toNat).all Line.strOk) (fun (k : Int) => (((qs ++ [l.now]).length : Int) - k).toNat) (fun (k : Int) => [(47, .int .i64 k)]) (fun (k : Int) => []) (0) ?_ rfl rfl (fun k hI1 => ?_)
      · exact ⟨by omega, by omega, by rw [Line.good, show Line.badHead l = false from c1]; rfl⟩
      obtain ⟨hI11, hI12, hI13⟩ := hI1
      refine G_seq ?_
      refine G_region ?_
      refine GL_step rfl (PS_lss rfl rfl) ?_
      refine GL_nil ?_
      refine GQ_then ?_
      refine G_seq ?_
      refine G_cond rfl (fun c2 => ?_) (fun c2 => ?_)
      · skip
        have c2p := c2
        try simp only [decide_eq_true_eq, decide_eq_false_iff_not, Bool.not_eq_true', Bool.not_eq_false', Bool.or_eq_true, Bool.and_eq_true, Bool.or_eq_false_iff, Bool.and_eq_false_iff, Int.not_lt, Int.not_le] at c2p
        have hk : k < ((qs ++ [l.now]).length : Int) := by simp only [List.length_append, List.length_cons, List.length_nil] at *; omega
        have hk7 : ((qs ++ [l.now]).length : Int) ≤ 7 := by simp only [List.length_append, List.length_cons, List.length_nil] at *; omega
        refine G_skip ?_
        refine GQ_sub (.cons (k := 45) rfl (.cons (k := 46) rfl (.cons (k := 47) rfl (.nil _)))) ?_
        refine GQ_then ?_
        refine G_seq ?_
        refine G_block ?_
        refine G_seq ?_
        refine G_region ?_
        refine GL_step rfl (PS_idxS is23 (by decide) (Kn.own (.tail _ (.head _))) rfl rfl (by omega) (by simp only [List.length_append, List.length_cons, List.length_nil] at *; omega)) ?_
        refine GL_step rfl (PS_ldStr rfl tys9 (Kn.own (.tail _ (.head _))) (by omega)) ?_
        refine GL_step rfl (PS_assign rfl) ?_
        refine GL_nil ?_
        refine GQ_sub (.cons (k := 4) rfl (.cons (k := 45) rfl (.cons (k := 46) rfl (.cons (k := 47) rfl (.nil _))))) ?_
        refine GQ_then ?_
        refine G_seq ?_
        refine G_seq ?_
        refine G_region ?_
        refine GL_step rfl (PS_move rfl) ?_
        refine GL_step rfl (PS_len_str rfl Try.underlying9 rfl) ?_
        refine GL_step rfl (PS_gtr rfl rfl) ?_
        refine GL_nil ?_
        refine GQ_sub (.cons (k := 4) rfl (.cons (k := 45) rfl (.cons (k := 46) rfl (.cons (k := 47) rfl (.cons (k := 53) rfl (.nil _)))))) ?_
        refine GQ_then ?_
        refine G_cond rfl (fun c3 => ?_) (fun c3 => ?_)
        · skip
          have c3p := c3
          try simp only [decide_eq_true_eq, decide_eq_false_iff_not, Bool.not_eq_true', Bool.not_eq_false', Bool.or_eq_true, Bool.and_eq_true, Bool.or_eq_false_iff, Bool.and_eq_false_iff, Int.not_lt, Int.not_le] at c3p
          refine G_seq ?_
          refine G_region ?_
          refine GL_step rfl (PS_assign rfl) ?_
          refine GL_nil ?_
          refine GQ_sub (.cons (k := 2) rfl (.nil _)) ?_
          refine GQ_then ?_
          refine G_ret ?_
          refine GQ_then_ret ?_
          refine GQ_block_ret ?_
          refine GQ_then_ret ?_
          refine GQ_then_ret ?_
          refine GQ_block_ret ?_
          refine GQ_then_ret ?_
          refine GQ_ret rfl (.tmp rfl .nil) ?_
          intro w1 hS; refine ⟨congrArg Value.bool ?_, hS.toKeep⟩; rw [hI13, Line.all_drop (d := []) hI11 hk, Line.strOk, c3]; rfl
        · skip
          have c3p := c3
          try simp only [decide_eq_true_eq, decide_eq_false_iff_not, Bool.not_eq_true', Bool.not_eq_false', Bool.or_eq_true, Bool.and_eq_true, Bool.or_eq_false_iff, Bool.and_eq_false_iff, Int.not_lt, Int.not_le] at c3p
          refine G_skip ?_
          refine GQ_sub (.cons (k := 4) rfl (.cons (k := 45) rfl (.cons (k := 46) rfl (.cons (k := 47) rfl (.nil _))))) ?_
          refine GQ_then ?_
          refine G_seq ?_
          refine G_region ?_
          refine GL_step rfl (PS_move rfl) ?_
          refine GL_step rfl (PS_len_str rfl Try.underlying9 rfl) ?_
          refine GL_step rfl (PS_move rfl) ?_
          refine GL_nil ?_
          refine GQ_sub (.cons (k := 4) rfl (.cons (k := 45) rfl (.cons (k := 46) rfl (.cons (k := 47) rfl (.cons (k := 55) rfl (.cons (k := 56) rfl (.nil _))))))) ?_
          refine GQ_then ?_
          refine G_block ?_
          refine G_subF (.cons (k := 56) rfl (.cons (k := 4) rfl (.cons (k := 45) rfl (.cons (k := 46) rfl (.cons (k := 47) rfl (.cons (k := 55) rfl (.nil _))))))) ?_
          refine G_loop1_ (fun (i : Int) => 0 ≤ i ∧ i ≤ (((qs ++ [l.now]).getD k.toNat []).length : Int) ∧ Line.strOk ((qs ++ [l.now]).getD k.toNat []) = (((qs ++ [l.now]).getD k.toNat []).drop i.toNat).all Line.plainB) (fun (i : Int) => ((((qs ++ [l.now]).getD k.toNat []).length : Int) - i).toNat) (fun (i : Int) => [(56, .int .i64 i)]) (fun (i : Int) => []) (0) ?_ rfl rfl (fun i hI2 => ?_)
          · exact ⟨by omega, by omega, by rw [Line.strOk, c3]; rfl⟩
          obtain ⟨hI21, hI22, hI23⟩ := hI2
          refine G_seq ?_
          refine G_region ?_
          refine GL_step rfl (PS_lss rfl rfl) ?_
          refine GL_nil ?_
          refine GQ_then ?_
          refine G_seq ?_
          refine G_cond rfl (fun c4 => ?_) (fun c4 => ?_)
          · skip
            have c4p := c4
            try simp only [decide_eq_true_eq, decide_eq_false_iff_not, Bool.not_eq_true', Bool.not_eq_false', Bool.or_eq_true, Bool.and_eq_true, Bool.or_eq_false_iff, Bool.and_eq_false_iff, Int.not_lt, Int.not_le] at c4p
            refine G_skip ?_
            refine GQ_sub (.cons (k := 4) rfl (.cons (k := 45) rfl (.cons (k := 46) rfl (.cons (k := 47) rfl (.cons (k := 55) rfl (.cons (k := 56) rfl (.nil _))))))) ?_
            refine GQ_then ?_
            refine G_seq ?_
            refine G_block ?_
            refine G_seq ?_
            refine G_region ?_
            refine GL_step rfl (PS_move rfl) ?_
            refine GL_step rfl (PS_assign rfl) ?_
            refine GL_nil ?_
            refine GQ_sub (.cons (k := 4) rfl (.cons (k := 5) rfl (.cons (k := 45) rfl (.cons (k := 46) rfl (.cons (k := 47) rfl (.cons (k := 55) rfl (.cons (k := 56) rfl (.nil _)))))))) ?_
            refine GQ_then ?_
            refine G_seq ?_
            refine G_region ?_
            refine GL_step rfl (PS_move rfl) ?_
            refine GL_step rfl (PS_move rfl) ?_
            refine GL_step rfl (PS_index_str Try.underlying9 rfl rfl (by omega) (by omega)) ?_
            refine GL_pure rfl cf50 (.cons rfl .nil) (fun w hS => line_plain_spec _ w) ?_
            refine GL_step rfl (PS_not rfl) ?_
            refine GL_nil ?_
            refine GQ_sub (.cons (k := 4) rfl (.cons (k := 45) rfl (.cons (k := 46) rfl (.cons (k := 47) rfl (.cons (k := 55) rfl (.cons (k := 56) rfl (.cons (k := 63) rfl (.nil _)))))))) ?_
            refine GQ_then ?_
            refine G_cond rfl (fun c5 => ?_) (fun c5 => ?_)
            · skip
              have c5p := c5
              try simp only [decide_eq_true_eq, decide_eq_false_iff_not, Bool.not_eq_true', Bool.not_eq_false', Bool.or_eq_true, Bool.and_eq_true, Bool.or_eq_false_iff, Bool.and_eq_false_iff, Int.not_lt, Int.not_le] at c5p
              refine G_seq ?_
              refine G_region ?_
              refine GL_step rfl (PS_assign rfl) ?_
              refine GL_nil ?_
              refine GQ_sub (.cons (k := 2) rfl (.nil _)) ?_
              refine GQ_then ?_
              refine G_ret ?_
              refine GQ_block_ret ?_
              refine GQ_then_ret ?_
              refine GQ_then_ret ?_
              refine GQ_block_ret ?_
              refine GQ_block_ret ?_
              refine GQ_then_ret ?_
              refine GQ_then_ret ?_
              refine GQ_block_ret ?_
              refine GQ_then_ret ?_
              refine GQ_ret rfl (.tmp rfl .nil) ?_
              intro w1 hS; refine ⟨congrArg Value.bool ?_, hS.toKeep⟩; rw [hI13, Line.all_drop (d := []) hI11 hk, hI23, Line.all_drop (d := 0) hI21 (by omega), show Line.plainB _ = false from by simpa using c5]; rfl
            · skip
              have c5p := c5
              try simp only [decide_eq_true_eq, decide_eq_false_iff_not, Bool.not_eq_true', Bool.not_eq_false', Bool.or_eq_true, Bool.and_eq_true, Bool.or_eq_false_iff, Bool.and_eq_false_iff, Int.not_lt, Int.not_le] at c5p
              refine G_skip ?_
              refine GQ_sub (.cons (k := 4) rfl (.cons (k := 45) rfl (.cons (k := 46) rfl (.cons (k := 47) rfl (.cons (k := 55) rfl (.cons (k := 56) rfl (.nil _))))))) ?_
              refine GQ_block ?_
              refine GQ_then ?_
              refine G_region ?_
              refine GL_step rfl (PS_add rfl rfl (IntWalk.i64_in _ (by omega))) ?_
              refine GL_step rfl (PS_move rfl) ?_
              refine GL_nil ?_
              refine GQ_sub (.cons (k := 4) rfl (.cons (k := 45) rfl (.cons (k := 46) rfl (.cons (k := 47) rfl (.cons (k := 55) rfl (.cons (k := 56) rfl (.nil _))))))) ?_
              refine GQ_next1_ (i + 1) ?_ ?_ (.cons (k := 56) rfl (.cons (k := 4) rfl (.cons (k := 45) rfl (.cons (k := 46) rfl (.cons (k := 47) rfl (.cons (k := 55) rfl (.nil _))))))) (.refl _)
              · exact ⟨by omega, by omega, by rw [hI23, Line.all_drop (d := 0) hI21 (by omega), show Line.plainB _ = true from by simpa using c5]; rfl⟩
              · omega
          · skip
            have c4p := c4
            try simp only [decide_eq_true_eq, decide_eq_false_iff_not, Bool.not_eq_true', Bool.not_eq_false', Bool.or_eq_true, Bool.and_eq_true, Bool.or_eq_false_iff, Bool.and_eq_false_iff, Int.not_lt, Int.not_le] at c4p
            refine G_exit ?_
            refine GQ_then_exit ?_
            refine GQ_then_exit ?_
            refine GQ_block_exit ?_
            refine GQ_sub (.cons (k := 45) rfl (.cons (k := 46) rfl (.cons (k := 47) rfl (.nil _)))) ?_
            refine GQ_block ?_
            refine GQ_then ?_
            refine G_region ?_
            refine GL_step rfl (PS_add rfl rfl (IntWalk.i64_in _ (by omega))) ?_
            refine GL_step rfl (PS_move rfl) ?_
            refine GL_nil ?_
            refine GQ_sub (.cons (k := 45) rfl (.cons (k := 46) rfl (.cons (k := 47) rfl (.nil _)))) ?_
            refine GQ_next1_ (k + 1) ?_ ?_ (.cons (k := 47) rfl (.cons (k := 45) rfl (.cons (k := 46) rfl (.nil _)))) (.refl _)
            · exact ⟨by omega, by omega, by rw [hI13, Line.all_drop (d := []) hI11 hk, hI23, show i.toNat = ((qs ++ [l.now]).getD k.toNat []).length from by omega, List.drop_length]; rfl⟩
            · omega
      · skip
        have c2p := c2
        try simp only [decide_eq_true_eq, decide_eq_false_iff_not, Bool.not_eq_true', Bool.not_eq_false', Bool.or_eq_true, Bool.and_eq_true, Bool.or_eq_false_iff, Bool.and_eq_false_iff, Int.not_lt, Int.not_le] at c2p
        have hk : ¬ k < ((qs ++ [l.now]).length : Int) := by simp only [List.length_append, List.length_cons, List.length_nil] at *; omega
        refine G_exit ?_
        refine GQ_then_exit ?_
        refine GQ_then_exit ?_
        refine GQ_block_exit ?_
        refine GQ_sub (.nil _) ?_
        refine GQ_then ?_
        refine G_seq ?_
        refine G_region ?_
        refine GL_step rfl (PS_assign rfl) ?_
        refine GL_nil ?_
        refine GQ_then ?_
        refine G_ret ?_
        refine GQ_ret rfl (.tmp rfl .nil) ?_
        intro w1 hS; refine ⟨congrArg Value.bool ?_, hS.toKeep⟩; rw [hI13, show k.toNat = (qs ++ [l.now]).length from by omega, List.drop_length]; rfl
    · skip
      refine GL_bs1F encS flS rfl Try.underlying23 sz9 zv9 rfl (by decide) (by decide) rfl rfl (fun b3 => ?_)
      refine GL_hand rfl ⟨?_, ?_⟩
      · exact (Pend_okv rfl (OK_s (EX_s (PS_move rfl))) rfl rfl (Pend_skip (by kernel_rfl) (Pend_skip (by kernel_rfl) (Pend_okv rfl (OK_s (EX_s (PS_load rfl tys23 (.tail _ (.head _)) LineV.l3 rfl rfl))) rfl rfl (Pend_okv rfl (OK_s (EX_s (PS_fieldAddr fa25_3 rfl))) rfl rfl Pend_nil)))))
      refine Plan_chain 2 rfl (by kernel_rfl) ?_
      refine GL_callR rfl cf49 (.cons rfl .nil) .nil (slices_Clone_string_string_spec _ _ (by first | assumption | omega)) (fun w hS => (Kn.old r0) w hS) (fun v6 B hv => ?_)
      obtain ⟨y7, rfl, y8, rfl⟩ := hv
      refine GL_hand rfl ⟨?_, ?_⟩
      · exact (Pend_okv rfl (OK_s (EX_s (PS_move rfl))) rfl rfl (Pend_okv rfl (OK_s (EX_s (PS_load rfl tys9 (.tail _ (.tail _ (.head _))) LineV.l0 rfl rfl))) rfl rfl (Pend_okv rfl (OK_s (EX_s (PS_fieldAddr fa25_0 rfl))) rfl rfl (Pend_skip (by kernel_rfl) (Pend_skip (by kernel_rfl) Pend_nil)))))
      refine Plan_chain 6 rfl (by kernel_rfl) ?_
      refine GL_appendF flS rfl Try.underlying23 sz9 zv9 rfl by9 (by decide) (by decide) rfl rfl (fun w hS => Src.sliceT Try.underlying23 ((Kn.own (.tail _ (.head _))) w hS)) (by (try dsimp only); omega) (fun _ => .head) (fun h10 h10l h10z => ?_)
      refine GL_hand rfl ⟨?_, ?_⟩
      · exact (Pend_okv rfl (OK_s (EX_s (PS_move rfl))) rfl rfl (Pend_skip (by kernel_rfl) (Pend_skip (by kernel_rfl) (Pend_skip (by kernel_rfl) (Pend_skip (by kernel_rfl) Pend_nil)))))
      refine Plan_float 7 rfl rfl (by kernel_rfl) (OK_s (EX_s (PS_len_slice rfl Try.underlying23 rfl))) ?_
      refine Plan_end (by kernel_rfl) ?_
      refine GQ_sub (.cons (k := 45) rfl (.cons (k := 46) rfl (.cons (k := 47) rfl (.nil _)))) ?_
      refine GQ_then ?_
      refine G_block ?_
      refine G_subF (.cons (k := 47) rfl (.cons (k := 45) rfl (.cons (k := 46) rfl (.nil _)))) ?_
      refine G_loop1_ (fun (k : Int) => 0 ≤ k ∧ k ≤ ((qs ++ [l.now]).length : Int) ∧ Line.good l qs = ((qs ++ [l.now]).drop k.toNat).all Line.strOk) (fun (k : Int) => (((qs ++ [l.now]).length : Int) - k).toNat) (fun (k : Int) => [(47, .int .i64 k)]) (fun (k : Int) => []) (0) ?_ rfl rfl (fun k hI1 => ?_)
      · exact ⟨by omega, by omega, by rw [Line.good, show Line.badHead l = false from c1]; rfl⟩
      obtain ⟨hI11, hI12, hI13⟩ := hI1
      refine G_seq ?_
      refine G_region ?_
      refine GL_step rfl (PS_lss rfl rfl) ?_
      refine GL_nil ?_
      refine GQ_then ?_
      refine G_seq ?_
      refine G_cond rfl (fun c6 => ?_) (fun c6 => ?_)
      · skip
        have c6p := c6
        try simp only [decide_eq_true_eq, decide_eq_false_iff_not, Bool.not_eq_true', Bool.not_eq_false', Bool.or_eq_true, Bool.and_eq_true, Bool.or_eq_false_iff, Bool.and_eq_false_iff, Int.not_lt, Int.not_le] at c6p
        have hk : k < ((qs ++ [l.now]).length : Int) := by simp only [List.length_append, List.length_cons, List.length_nil] at *; omega
        have hk7 : ((qs ++ [l.now]).length : Int) ≤ 7 := by simp only [List.length_append, List.length_cons, List.length_nil] at *; omega
        refine G_skip ?_
        refine GQ_sub (.cons (k := 45) rfl (.cons (k := 46) rfl (.cons (k := 47) rfl (.nil _)))) ?_
        refine GQ_then ?_
        refine G_seq ?_
        refine G_block ?_
        refine G_seq ?_
        refine G_region ?_
        refine GL_step rfl (PS_idxS is23 (by decide) (Kn.own (.head _)) rfl rfl (by omega) (by simp only [List.length_append, List.length_cons, List.length_nil] at *; omega)) ?_
        refine GL_step rfl (PS_ldStr rfl tys9 (Kn.own (.head _)) (by omega)) ?_
        refine GL_step rfl (PS_assign rfl) ?_
        refine GL_nil ?_
        refine GQ_sub (.cons (k := 4) rfl (.cons (k := 45) rfl (.cons (k := 46) rfl (.cons (k := 47) rfl (.nil _))))) ?_
        refine GQ_then ?_
        refine G_seq ?_
        refine G_seq ?_
        refine G_region ?_
        refine GL_step rfl (PS_move rfl) ?_
        refine GL_step rfl (PS_len_str rfl Try.underlying9 rfl) ?_
        refine GL_step rfl (PS_gtr rfl rfl) ?_
        refine GL_nil ?_
        refine GQ_sub (.cons (k := 4) rfl (.cons (k := 45) rfl (.cons (k := 46) rfl (.cons (k := 47) rfl (.cons (k := 53) rfl (.nil _)))))) ?_
        refine GQ_then ?_
        refine G_cond rfl (fun c7 => ?_) (fun c7 => ?_)
        · skip
          have c7p := c7
          try simp only [decide_eq_true_eq, decide_eq_false_iff_not, Bool.not_eq_true', Bool.not_eq_false', Bool.or_eq_true, Bool.and_eq_true, Bool.or_eq_false_iff, Bool.and_eq_false_iff, Int.not_lt, Int.not_le] at c7p
          refine G_seq ?_
          refine G_region ?_
          refine GL_step rfl (PS_assign rfl) ?_
          refine GL_nil ?_
          refine GQ_sub (.cons (k := 2) rfl (.nil _)) ?_
          refine GQ_then ?_
          refine G_ret ?_
          refine GQ_then_ret ?_
          refine GQ_block_ret ?_
          refine GQ_then_ret ?_
          refine GQ_then_ret ?_
          refine GQ_block_ret ?_
          refine GQ_then_ret ?_
          refine GQ_ret rfl (.tmp rfl .nil) ?_
          intro w1 hS; refine ⟨congrArg Value.bool ?_, hS.toKeep⟩; rw [hI13, Line.all_drop (d := []) hI11 hk, Line.strOk, c7]; rfl
        · skip
          have c7p := c7
          try simp only [decide_eq_true_eq, decide_eq_false_iff_not, Bool.not_eq_true', Bool.not_eq_false', Bool.or_eq_true, Bool.and_eq_true, Bool.or_eq_false_iff, Bool.and_eq_false_iff, Int.not_lt, Int.not_le] at c7p
          refine G_skip ?_
          refine GQ_sub (.cons (k := 4) rfl (.cons (k := 45) rfl (.cons (k := 46) rfl (.cons (k := 47) rfl (.nil _))))) ?_
          refine GQ_then ?_
          refine G_seq ?_
          refine G_region ?_
          refine GL_step rfl (PS_move rfl) ?_
          refine GL_step rfl (PS_len_str rfl Try.underlying9 rfl) ?_
          refine GL_step rfl (PS_move rfl) ?_
          refine GL_nil ?_
          refine GQ_sub (.cons (k := 4) rfl (.cons (k := 45) rfl (.cons (k := 46) rfl (.cons (k := 47) rfl (.cons (k := 55) rfl (.cons (k := 56) rfl (.nil _))))))) ?_
          refine GQ_then ?_
          refine G_block ?_
          refine G_subF (.cons (k := 56) rfl (.cons (k := 4) rfl (.cons (k := 45) rfl (.cons (k := 46) rfl (.cons (k := 47) rfl (.cons (k := 55) rfl (.nil _))))))) ?_
          refine G_loop1_ (fun (i : Int) => 0 ≤ i ∧ i ≤ (((qs ++ [l.now]).getD k.toNat []).length : Int) ∧ Line.strOk ((qs ++ [l.now]).getD k.toNat []) = (((qs ++ [l.now]).getD k.toNat []).drop i.toNat).all Line.plainB) (fun (i : Int) => ((((qs ++ [l.now]).getD k.toNat []).length : Int) - i).toNat) (fun (i : Int) => [(56, .int .i64 i)]) (fun (i : Int) => []) (0) ?_ rfl rfl (fun i hI2 => ?_)
          · exact ⟨by omega, by omega, by rw [Line.strOk, c7]; rfl⟩
          obtain ⟨hI21, hI22, hI23⟩ := hI2
          refine G_seq ?_
          refine G_region ?_
          refine GL_step rfl (PS_lss rfl rfl) ?_
          refine GL_nil ?_
          refine GQ_then ?_
          refine G_seq ?_
          refine G_cond rfl (fun c8 => ?_) (fun c8 => ?_)
          · skip
            have c8p := c8
            try simp only [decide_eq_true_eq, decide_eq_false_iff_not, Bool.not_eq_true', Bool.not_eq_false', Bool.or_eq_true, Bool.and_eq_true, Bool.or_eq_false_iff, Bool.and_eq_false_iff, Int.not_lt, Int.not_le] at c8p
            refine G_skip ?_
            refine GQ_sub (.cons (k := 4) rfl (.cons (k := 45) rfl (.cons (k := 46) rfl (.cons (k := 47) rfl (.cons (k := 55) rfl (.cons (k := 56) rfl (.nil _))))))) ?_
            refine GQ_then ?_
            refine G_seq ?_
            refine G_block ?_
            refine G_seq ?_
            refine G_region ?_
            refine GL_step rfl (PS_move rfl) ?_
            refine GL_step rfl (PS_assign rfl) ?_
            refine GL_nil ?_
            refine GQ_sub (.cons (k := 4) rfl (.cons (k := 5) rfl (.cons (k := 45) rfl (.cons (k := 46) rfl (.cons (k := 47) rfl (.cons (k := 55) rfl (.cons (k := 56) rfl (.nil _)))))))) ?_
            refine GQ_then ?_
            refine G_seq ?_
            refine G_region ?_
            refine GL_step rfl (PS_move rfl) ?_
            refine GL_step rfl (PS_move rfl) ?_
            refine GL_step rfl (PS_index_str Try.underlying9 rfl rfl (by omega) (by omega)) ?_
            refine GL_pure rfl cf50 (.cons rfl .nil) (fun w hS => line_plain_spec _ w) ?_
            refine GL_step rfl (PS_not rfl) ?_
            refine GL_nil ?_
            refine GQ_sub (.cons (k := 4) rfl (.cons (k := 45) rfl (.cons (k := 46) rfl (.cons (k := 47) rfl (.cons (k := 55) rfl (.cons (k := 56) rfl (.cons (k := 63) rfl (.nil _)))))))) ?_
            refine GQ_then ?_
            refine G_cond rfl (fun c9 => ?_) (fun c9 => ?_)
            · skip
              have c9p := c9
              try simp only [decide_eq_true_eq, decide_eq_false_iff_not, Bool.not_eq_true', Bool.not_eq_false', Bool.or_eq_true, Bool.and_eq_true, Bool.or_eq_false_iff, Bool.and_eq_false_iff, Int.not_lt, Int.not_le] at c9p
              refine G_seq ?_
              refine G_region ?_
              refine GL_step rfl (PS_assign rfl) ?_
              refine GL_nil ?_
              refine GQ_sub (.cons (k := 2) rfl (.nil _)) ?_
              refine GQ_then ?_
              refine G_ret ?_
              refine GQ_block_ret ?_
              refine GQ_then_ret ?_
              refine GQ_then_ret ?_
              refine GQ_block_ret ?_
              refine GQ_block_ret ?_
              refine GQ_then_ret ?_
              refine GQ_then_ret ?_
              refine GQ_block_ret ?_
              refine GQ_then_ret ?_
              refine GQ_ret rfl (.tmp rfl .nil) ?_
              intro w1 hS; refine ⟨congrArg Value.bool ?_, hS.toKeep⟩; rw [hI13, Line.all_drop (d := []) hI11 hk, hI23, Line.all_drop (d := 0) hI21 (by omega), show Line.plainB _ = false from by simpa using c9]; rfl
            · skip
              have c9p := c9
              try simp only [decide_eq_true_eq, decide_eq_false_iff_not, Bool.not_eq_true', Bool.not_eq_false', Bool.or_eq_true, Bool.and_eq_true, Bool.or_eq_false_iff, Bool.and_eq_false_iff, Int.not_lt, Int.not_le] at c9p
              refine G_skip ?_
              refine GQ_sub (.cons (k := 4) rfl (.cons (k := 45) rfl (.cons (k := 46) rfl (.cons (k := 47) rfl (.cons (k := 55) rfl (.cons (k := 56) rfl (.nil _))))))) ?_
              refine GQ_block ?_
              refine GQ_then ?_
              refine G_region ?_
              refine GL_step rfl (PS_add rfl rfl (IntWalk.i64_in _ (by omega))) ?_
              refine GL_step rfl (PS_move rfl) ?_
              refine GL_nil ?_
              refine GQ_sub (.cons (k := 4) rfl (.cons (k := 45) rfl (.cons (k := 46) rfl (.cons (k := 47) rfl (.cons (k := 55) rfl (.cons (k := 56) rfl (.nil _))))))) ?_
              refine GQ_next1_ (i + 1) ?_ ?_ (.cons (k := 56) rfl (.cons (k := 4) rfl (.cons (k := 45) rfl (.cons (k := 46) rfl (.cons (k := 47) rfl (.cons (k := 55) rfl (.nil _))))))) (.refl _)
              · exact ⟨by omega, by omega, by rw [hI23, Line.all_drop (d := 0) hI21 (by omega), show Line.plainB _ = true from by simpa using c9]; rfl⟩
              · omega
          · skip
            have c8p := c8
            try simp only [decide_eq_true_eq, decide_eq_false_iff_not, Bool.not_eq_true', Bool.not_eq_false', Bool.or_eq_true, Bool.and_eq_true, Bool.or_eq_false_iff, Bool.and_eq_false_iff, Int.not_lt, Int.not_le] at c8p
            refine G_exit ?_
            refine GQ_then_exit ?_
            refine GQ_then_exit ?_
            refine GQ_block_exit ?_
            refine GQ_sub (.cons (k := 45) rfl (.cons (k := 46) rfl (.cons (k := 47) rfl (.nil _)))) ?_
            refine GQ_block ?_
            refine GQ_then ?_
            refine G_region ?_
            refine GL_step rfl (PS_add rfl rfl (IntWalk.i64_in _ (by omega))) ?_
            refine GL_step rfl (PS_move rfl) ?_
            refine GL_nil ?_
            refine GQ_sub (.cons (k := 45) rfl (.cons (k := 46) rfl (.cons (k := 47) rfl (.nil _)))) ?_
            refine GQ_next1_ (k + 1) ?_ ?_ (.cons (k := 47) rfl (.cons (k := 45) rfl (.cons (k := 46) rfl (.nil _)))) (.refl _)
            · exact ⟨by omega, by omega, by rw [hI13, Line.all_drop (d := []) hI11 hk, hI23, show i.toNat = ((qs ++ [l.now]).getD k.toNat []).length from by omega, List.drop_length]; rfl⟩
            · omega
      · skip
        have c6p := c6
        try simp only [decide_eq_true_eq, decide_eq_false_iff_not, Bool.not_eq_true', Bool.not_eq_false', Bool.or_eq_true, Bool.and_eq_true, Bool.or_eq_false_iff, Bool.and_eq_false_iff, Int.not_lt, Int.not_le] at c6p
        have hk : ¬ k < ((qs ++ [l.now]).length : Int) := by simp only [List.length_append, List.length_cons, List.length_nil] at *; omega
        refine G_exit ?_
        refine GQ_then_exit ?_
        refine GQ_then_exit ?_
        refine GQ_block_exit ?_
        refine GQ_sub (.nil _) ?_
        refine GQ_then ?_
        refine G_seq ?_
        refine G_region ?_
        refine GL_step rfl (PS_assign rfl) ?_
        refine GL_nil ?_
        refine GQ_then ?_
        refine G_ret ?_
        refine GQ_ret rfl (.tmp rfl .nil) ?_
        intro w1 hS; refine ⟨congrArg Value.bool ?_, hS.toKeep⟩; rw [hI13, show k.toNat = (qs ++ [l.now]).length from by omega, List.drop_length]; rfl
theorem line_Feed_spec {t0 : Nat} (l : LineV) (qs : List Str) (u : Str) (hu : u.length ≤ 9000000000000000000) : CtrR Try.prog 13 #[.agg l.enc.toArray, vstr u] [] (fun w => Rd w l.queue t0 1 (qs.flatMap encS)) (fun v B => (Line.good l qs = false ∧ v = .tuple #[.agg l.enc.toArray, .int .i64 0, .int .i64 2] ∧ B = []) ∨ (Line.good l qs = true ∧ ∃ h' : Hd, v = .tuple #[.agg (LineV.enc ⟨(Line.feed (Line.start l qs) u).now, (Line.feed (Line.start l qs) u).long, (Line.feed (Line.start l qs) u).ret, h'⟩).toArray, .int .i64 (Line.feed (Line.start l qs) u).lost, .int .i64 0] ∧ h'.len = (Line.feed (Line.start l qs) u).queue.length ∧ B = [Res.own h' 9 1 ((Line.feed (Line.start l qs) u).queue.flatMap encS)])) := by
  intro w hS0 hH
  have r0 := hH
  have hl0 := r0.len1 flS (by decide)
  refine Ret_body _ _ Try.func13 rfl rfl rfl (hS0) ?_
  refine G_seq ?_
  refine G_region ?_
  refine GL_box rfl rfl rfl (fun b1 => ?_)
  refine GL_alloc rfl zv25 rfl (fun b2 => ?_)
  refine GL_step rfl (PS_assign rfl) ?_
  refine GL_step rfl (PS_assign rfl) ?_
  refine GL_nil ?_
  refine GQ_sub (.cons (k := 1) rfl (.cons (k := 2) rfl (.cons (k := 4) rfl (.nil _)))) ?_
  refine GQ_then ?_
  refine G_seq ?_
  refine G_seq ?_
  refine G_region ?_
  refine GL_step rfl (PS_loadA rfl tya25 (.tail _ (.head _)) (Lens.id LineV.fl.len LineV.fl.one) rfl) ?_
  refine GL_pure rfl cf16 (.cons rfl .nil) (fun w hS => line_Good_spec _ _ w ((Kn.old r0) w hS)) ?_
  refine GL_step rfl (PS_not rfl) ?_
  refine GL_nil ?_
  refine GQ_sub (.cons (k := 1) rfl (.cons (k := 2) rfl (.cons (k := 4) rfl (.cons (k := 14) rfl (.nil _))))) ?_
  refine GQ_then ?_
  refine G_cond rfl (fun c1 => ?_) (fun c1 => ?_)
  · skip
    have c1p := c1
    try simp only [decide_eq_true_eq, decide_eq_false_iff_not, Bool.not_eq_true', Bool.not_eq_false', Bool.or_eq_true, Bool.and_eq_true, Bool.or_eq_false_iff, Bool.and_eq_false_iff, Int.not_lt, Int.not_le] at c1p
    refine G_seq ?_
    refine G_region ?_
    refine GL_step rfl (PS_loadA rfl tya25 (.tail _ (.head _)) (Lens.id LineV.fl.len LineV.fl.one) rfl) ?_
    refine GL_unit (PU_store (Lens.id LineV.fl.len LineV.fl.one) rfl rfl rfl sz25 rfl .head) ?_
    refine GL_step rfl (PS_assign rfl) ?_
    refine GL_step rfl (PS_assign rfl) ?_
    refine GL_nil ?_
    refine GQ_sub (.cons (k := 4) rfl (.cons (k := 5) rfl (.cons (k := 6) rfl (.nil _)))) ?_
    refine GQ_then ?_
    refine G_ret ?_
    refine GQ_then_ret ?_
    refine GQ_ret rfl (.cell rfl (.head _) (.inl ⟨(by rw [LineV.fl.len]; exact tya25), rfl⟩) (.tmp rfl (.tmp rfl .nil))) ?_
    intro w1 hS
    have hS := (hS.perm (Pulls.perm .nil)).headL
    exact ⟨_, .inl ⟨by simpa using c1, rfl, rfl⟩, hS⟩
  · skip
    have c1p := c1
    try simp only [decide_eq_true_eq, decide_eq_false_iff_not, Bool.not_eq_true', Bool.not_eq_false', Bool.or_eq_true, Bool.and_eq_true, Bool.or_eq_false_iff, Bool.and_eq_false_iff, Int.not_lt, Int.not_le] at c1p
    have hgd : Line.good l qs = true := by simpa using c1
    have hh := Line.good_head hgd
    have hq6 : qs.length ≤ 1048576 := by omega
    refine G_skip ?_
    refine GQ_sub (.cons (k := 1) rfl (.cons (k := 2) rfl (.cons (k := 4) rfl (.nil _)))) ?_
    refine GQ_then ?_
    refine G_seq ?_
    refine G_region ?_
    refine GL_step rfl (PS_fieldAddr fa25_3 rfl) ?_
    refine GL_step rfl (PS_load rfl tys23 (.tail _ (.head _)) LineV.l3 rfl rfl) ?_
    refine GL_callR rfl cf49 (.cons rfl .nil) .nil (slices_Clone_string_string_spec _ _ (by first | assumption | omega)) (fun w hS => (Kn.old r0) w hS) (fun v1 B hv => ?_)
    obtain ⟨y2, rfl, y3, rfl⟩ := hv
    refine GL_step rfl (PS_fieldAddr fa25_3 rfl) ?_
    refine GL_unit (PU_store LineV.l3 rfl rfl rfl sz23 rfl (.tail (.tail .head))) ?_
    refine GL_nil ?_
    refine GQ_sub (.cons (k := 1) rfl (.cons (k := 2) rfl (.cons (k := 4) rfl (.nil _)))) ?_
    refine GQ_then ?_
    refine G_seq ?_
    refine G_region ?_
    refine GL_step rfl (PS_assign rfl) ?_
    refine GL_nil ?_
    refine GQ_then ?_
    refine G_seq ?_
    refine G_region ?_
    refine GL_step rfl (PS_fieldAddr fa25_0 rfl) ?_
    refine GL_step rfl (PS_load rfl tys9 (.tail _ (.tail _ (.head _))) LineV.l0 rfl rfl) ?_
    refine GL_bytes rfl Try.underlying9 Try.underlying72 Try.underlying5 rfl (fun h5 h5l => ?_)
    refine GL_step rfl (PS_assign rfl) ?_
    refine GL_nil ?_
    refine GQ_sub (.cons (k := 1) rfl (.cons (k := 2) rfl (.cons (k := 4) rfl (.cons (k := 7) rfl (.cons (k := 8) rfl (.nil _)))))) ?_
    refine GQ_then ?_
    refine G_seq ?_
    refine G_seq ?_
    refine G_region ?_
    refine GL_step rfl (PS_move rfl) ?_
    refine GL_step rfl (PS_len_str rfl Try.underlying9 rfl) ?_
    refine GL_step rfl (PS_move rfl) ?_
    refine GL_nil ?_
    refine GQ_sub (.cons (k := 1) rfl (.cons (k := 2) rfl (.cons (k := 4) rfl (.cons (k := 7) rfl (.cons (k := 8) rfl (.cons (k := 24) rfl (.cons (k := 25) rfl (.nil _)))))))) ?_
    refine GQ_then ?_
    refine G_block ?_
    refine G_subF (.cons (k := 7) rfl (.cons (k := 8) rfl (.cons (k := 25) rfl (.cons (k := 1) rfl (.cons (k := 2) rfl (.cons (k := 4) rfl (.cons (k := 24) rfl (.nil _)))))))) ?_
    refine G_pull (.tail (.tail (.tail .head))) ?_
    refine G_pull (.tail (.tail .head)) ?_
    refine G_pull (.tail (.tail .head)) ?_
    refine G_loop8_ (fun (k : Int) (now : Str) (long : Bool) (ret : Bool) (queue : List Str) (lost : Int) (h : Hd) (g : Hd) => Line.I (Line.start l qs) u k ⟨now, long, ret, queue, lost⟩ ∧ h.len = now.length ∧ g.len = queue.length) (fun (k : Int) (now : Str) (long : Bool) (ret : Bool) (queue : List Str) (lost : Int) (h : Hd) (g : Hd) => ((u.length : Int) - k).toNat) (fun (k : Int) (now : Str) (long : Bool) (ret : Bool) (queue : List Str) (lost : Int) (h : Hd) (g : Hd) => [(7, .int .i64 lost), (8, h.val), (25, .int .i64 k)]) (fun (k : Int) (now : Str) (long : Bool) (ret : Bool) (queue : List Str) (lost : Int) (h : Hd) (g : Hd) => [Res.own h 5 1 (now.flatMap encY), Res.own g 9 1 (queue.flatMap encS), Res.box b1 25 (LineV.enc ⟨l.now, long, ret, g⟩)]) (0) (l.now) (l.long) (l.ret) (qs) (0) (_) (_) ?_ rfl rfl (fun k now long ret queue lost h g hI1 => ?_)
    · exact ⟨Line.I.start hh.1 (show qs.length ≤ 6 by omega) rfl, by assumption, by assumption⟩
    obtain ⟨hI11, hl, hg⟩ := hI1; have hk0 := hI11.k0; have hk1 := hI11.k1; have hn : now.length ≤ 60 := hI11.now; have hq : queue.length ≤ 6 := hI11.queue; have hlo : 0 ≤ lost ∧ lost ≤ k := hI11.lost
    refine G_seq ?_
    refine G_region ?_
    refine GL_step rfl (PS_lss rfl rfl) ?_
    refine GL_nil ?_
    refine GQ_then ?_
    refine G_seq ?_
    refine G_cond rfl (fun c2 => ?_) (fun c2 => ?_)
    · skip
      have c2p := c2
      try simp only [decide_eq_true_eq, decide_eq_false_iff_not, Bool.not_eq_true', Bool.not_eq_false', Bool.or_eq_true, Bool.and_eq_true, Bool.or_eq_false_iff, Bool.and_eq_false_iff, Int.not_lt, Int.not_le] at c2p
      refine G_skip ?_
      refine GQ_sub (.cons (k := 1) rfl (.cons (k := 2) rfl (.cons (k := 4) rfl (.cons (k := 7) rfl (.cons (k := 8) rfl (.cons (k := 24) rfl (.cons (k := 25) rfl (.nil _)))))))) ?_
      refine GQ_then ?_
      refine G_seq ?_
      refine G_block ?_
      refine G_seq ?_
      refine G_region ?_
      refine GL_step rfl (PS_move rfl) ?_
      refine GL_step rfl (PS_assign rfl) ?_
      refine GL_nil ?_
      refine GQ_sub (.cons (k := 1) rfl (.cons (k := 2) rfl (.cons (k := 4) rfl (.cons (k := 7) rfl (.cons (k := 8) rfl (.cons (k := 9) rfl (.cons (k := 24) rfl (.cons (k := 25) rfl (.nil _))))))))) ?_
      refine GQ_then ?_
      refine G_seq ?_
      refine G_region ?_
      refine GL_step rfl (PS_move rfl) ?_
      refine GL_step rfl (PS_move rfl) ?_
      refine GL_step rfl (PS_index_str Try.underlying9 rfl rfl (by omega) (by omega)) ?_
      refine GL_step rfl (PS_assign rfl) ?_
      refine GL_nil ?_
      refine GQ_sub (.cons (k := 1) rfl (.cons (k := 2) rfl (.cons (k := 4) rfl (.cons (k := 7) rfl (.cons (k := 8) rfl (.cons (k := 10) rfl (.cons (k := 24) rfl (.cons (k := 25) rfl (.nil _))))))))) ?_
      refine GQ_then ?_
      refine G_seq ?_
      refine G_region ?_
      refine GL_step rfl (PS_fieldAddr fa25_2 rfl) ?_
      refine GL_step rfl (PS_load rfl tys4 (.tail _ (.tail _ (.head _))) LineV.l2 rfl rfl) ?_
      refine GL_step rfl (PS_assign rfl) ?_
      refine GL_nil ?_
      refine GQ_sub (.cons (k := 1) rfl (.cons (k := 2) rfl (.cons (k := 4) rfl (.cons (k := 7) rfl (.cons (k := 8) rfl (.cons (k := 10) rfl (.cons (k := 11) rfl (.cons (k := 24) rfl (.cons (k := 25) rfl (.nil _)))))))))) ?_
      refine GQ_then ?_
      refine G_seq ?_
      refine G_region ?_
      refine GL_step rfl (PS_fieldAddr fa25_2 rfl) ?_
      refine GL_unit (PU_store LineV.l2 rfl rfl rfl sz4 rfl (.tail (.tail .head))) ?_
      refine GL_nil ?_
      refine GQ_sub (.cons (k := 1) rfl (.cons (k := 2) rfl (.cons (k := 4) rfl (.cons (k := 7) rfl (.cons (k := 8) rfl (.cons (k := 10) rfl (.cons (k := 11) rfl (.cons (k := 24) rfl (.cons (k := 25) rfl (.nil _)))))))))) ?_
      refine GQ_then ?_
      refine G_block ?_
      refine G_seq ?_
      refine G_region ?_
      refine GL_step rfl (PS_move rfl) ?_
      refine GL_step rfl (PS_move rfl) ?_
      refine GL_gt (t := 40) rfl rfl rfl (fun q => PS_move rfl) ?_
      refine GL_gt (t := 40) rfl rfl rfl (fun q => PS_eql (cvE rfl q) rfl) ?_
      refine GL_gt (t := 40) rfl rfl rfl (fun q => PS_move (cvE rfl q)) ?_
      refine GL_gfc (t := 43) rfl rfl rfl (fun qc q => PS_move rfl) ?_
      refine GL_gfc (t := 43) rfl rfl rfl (fun qc q => PS_eql (cvE rfl (by rw [qc, q]; rfl)) rfl) ?_
      refine GL_gt (t := 40) rfl rfl rfl (fun q => PS_or (cvE rfl q) rfl (fun h => by rw [q, h]; rfl)) ?_
      refine GL_step rfl (PS_and rfl rfl (fun h => h)) ?_
      refine GL_step rfl (PS_assign rfl) ?_
      refine GL_nil ?_
      refine GQ_sub (.cons (k := 1) rfl (.cons (k := 2) rfl (.cons (k := 4) rfl (.cons (k := 7) rfl (.cons (k := 8) rfl (.cons (k := 10) rfl (.cons (k := 24) rfl (.cons (k := 25) rfl (.cons (k := 38) rfl (.nil _)))))))))) ?_
      refine GQ_then ?_
      refine G_cond rfl (fun c3 => ?_) (fun c3 => ?_)
      · skip
        have c3p := c3
        try simp only [decide_eq_true_eq, decide_eq_false_iff_not, Bool.not_eq_true', Bool.not_eq_false', Bool.or_eq_true, Bool.and_eq_true, Bool.or_eq_false_iff, Bool.and_eq_false_iff, Int.not_lt, Int.not_le] at c3p
        refine G_skip ?_
        refine GQ_sub (.cons (k := 1) rfl (.cons (k := 2) rfl (.cons (k := 4) rfl (.cons (k := 7) rfl (.cons (k := 8) rfl (.cons (k := 24) rfl (.cons (k := 25) rfl (.nil _)))))))) ?_
        refine GQ_block ?_
        refine GQ_block ?_
        refine GQ_then ?_
        refine G_region ?_
        refine GL_step rfl (PS_add rfl rfl (IntWalk.i64_in _ (by omega))) ?_
        refine GL_step rfl (PS_move rfl) ?_
        refine GL_nil ?_
        refine GQ_sub (.cons (k := 1) rfl (.cons (k := 2) rfl (.cons (k := 4) rfl (.cons (k := 7) rfl (.cons (k := 8) rfl (.cons (k := 24) rfl (.cons (k := 25) rfl (.nil _)))))))) ?_
        refine GQ_next8_ (k + 1) _ _ _ _ _ _ _ ?_ ?_ (.cons (k := 7) rfl (.cons (k := 8) rfl (.cons (k := 25) rfl (.cons (k := 1) rfl (.cons (k := 2) rfl (.cons (k := 4) rfl (.cons (k := 24) rfl (.nil _)))))))) (.refl _)
        · exact ⟨hI11.next (by omega) (by simp only [Line.step, hl, c1, c2, c3, ↓reduceIte, Bool.false_eq_true]), (by (try dsimp only at *) <;> (try simp only [List.length_append, List.length_take, List.length_cons, List.length_nil]) <;> omega), (by (try dsimp only at *) <;> (try simp only [List.length_append, List.length_cons, List.length_nil]) <;> omega)⟩
        · omega
      · skip
        have c3p := c3
        try simp only [decide_eq_true_eq, decide_eq_false_iff_not, Bool.not_eq_true', Bool.not_eq_false', Bool.or_eq_true, Bool.and_eq_true, Bool.or_eq_false_iff, Bool.and_eq_false_iff, Int.not_lt, Int.not_le] at c3p
        refine G_seq ?_
        refine G_region ?_
        refine GL_step rfl (PS_move rfl) ?_
        refine GL_step rfl (PS_eql rfl rfl) ?_
        refine GL_step rfl (PS_move rfl) ?_
        refine GL_gf (t := 51) rfl rfl rfl (fun q => PS_move rfl) ?_
        refine GL_gf (t := 51) rfl rfl rfl (fun q => PS_eql (cvE rfl (by rw [q]; rfl)) rfl) ?_
        refine GL_step rfl (PS_or rfl rfl (fun h => by rw [h]; rfl)) ?_
        refine GL_step rfl (PS_assign rfl) ?_
        refine GL_nil ?_
        refine GQ_sub (.cons (k := 1) rfl (.cons (k := 2) rfl (.cons (k := 4) rfl (.cons (k := 7) rfl (.cons (k := 8) rfl (.cons (k := 10) rfl (.cons (k := 24) rfl (.cons (k := 25) rfl (.cons (k := 48) rfl (.nil _)))))))))) ?_
        refine GQ_then ?_
        refine G_cond rfl (fun c4 => ?_) (fun c4 => ?_)
        · skip
          have c4p := c4
          try simp only [decide_eq_true_eq, decide_eq_false_iff_not, Bool.not_eq_true', Bool.not_eq_false', Bool.or_eq_true, Bool.and_eq_true, Bool.or_eq_false_iff, Bool.and_eq_false_iff, Int.not_lt, Int.not_le] at c4p
          refine G_seq ?_
          refine G_seq ?_
          refine G_region ?_
          refine GL_step rfl (PS_fieldAddr fa25_3 rfl) ?_
          refine GL_step rfl (PS_load rfl tys23 (.tail _ (.tail _ (.head _))) LineV.l3 rfl rfl) ?_
          refine GL_step rfl (PS_len_slice rfl Try.underlying23 rfl) ?_
          refine GL_step rfl (PS_lss rfl rfl) ?_
          refine GL_nil ?_
          refine GQ_sub (.cons (k := 1) rfl (.cons (k := 2) rfl (.cons (k := 4) rfl (.cons (k := 7) rfl (.cons (k := 8) rfl (.cons (k := 10) rfl (.cons (k := 24) rfl (.cons (k := 25) rfl (.cons (k := 58) rfl (.nil _)))))))))) ?_
          refine GQ_then ?_
          refine G_cond rfl (fun c5 => ?_) (fun c5 => ?_)
          · skip
            have c5p := c5
            try simp only [decide_eq_true_eq, decide_eq_false_iff_not, Bool.not_eq_true', Bool.not_eq_false', Bool.or_eq_true, Bool.and_eq_true, Bool.or_eq_false_iff, Bool.and_eq_false_iff, Int.not_lt, Int.not_le] at c5p
            rw [hg] at c5
            refine G_region ?_
            refine GL_step rfl (PS_fieldAddr fa25_3 rfl) ?_
            refine GL_step rfl (PS_load rfl tys23 (.tail _ (.tail _ (.head _))) LineV.l3 rfl rfl) ?_
            refine GL_step rfl (PS_move rfl) ?_
            refine GL_step rfl (PS_string Try.underlying72 Try.underlying9 Try.underlying5 rfl (Kn.own (.head _))) ?_
            refine GL_bs1F encS flS rfl Try.underlying23 sz9 zv9 rfl (by decide) (by decide) rfl rfl (fun b3 => ?_)
            refine GL_appendF flS rfl Try.underlying23 sz9 zv9 rfl by9 (by decide) (by decide) rfl rfl (fun w hS => Src.sliceT Try.underlying23 ((Kn.own (.head _)) w hS)) (by (try dsimp only); omega) (fun _ => (.tail (.tail .head))) (fun h6 h6l h6z => ?_)
            refine GL_step rfl (PS_fieldAddr fa25_3 rfl) ?_
            refine GL_unit (PU_store LineV.l3 rfl rfl rfl sz23 rfl (.tail (.tail (.tail .head)))) ?_
            refine GL_nil ?_
            refine GQ_sub (.cons (k := 1) rfl (.cons (k := 2) rfl (.cons (k := 4) rfl (.cons (k := 7) rfl (.cons (k := 10) rfl (.cons (k := 24) rfl (.cons (k := 25) rfl (.nil _)))))))) ?_
            refine GQ_then ?_
            refine G_region ?_
            refine GL_step rfl (PS_move rfl) ?_
            refine GL_step rfl (PS_eql rfl rfl) ?_
            refine GL_step rfl (PS_assign rfl) ?_
            refine GL_step rfl (PS_fieldAddr fa25_1 rfl) ?_
            refine GL_unit (PU_store LineV.l1 rfl rfl rfl sz4 rfl (.tail (.tail (.tail .head)))) ?_
            refine GL_step rfl (PS_fieldAddr fa25_2 rfl) ?_
            refine GL_unit (PU_store LineV.l2 rfl rfl rfl sz4 rfl (.tail (.tail (.tail .head)))) ?_
            refine GL_nil ?_
            refine GQ_sub (.cons (k := 1) rfl (.cons (k := 2) rfl (.cons (k := 4) rfl (.cons (k := 7) rfl (.cons (k := 8) rfl (.cons (k := 24) rfl (.cons (k := 25) rfl (.nil _)))))))) ?_
            refine GQ_block ?_
            refine GQ_block ?_
            refine GQ_then ?_
            refine G_region ?_
            refine GL_step rfl (PS_add rfl rfl (IntWalk.i64_in _ (by omega))) ?_
            refine GL_step rfl (PS_move rfl) ?_
            refine GL_nil ?_
            refine GQ_sub (.cons (k := 1) rfl (.cons (k := 2) rfl (.cons (k := 4) rfl (.cons (k := 7) rfl (.cons (k := 8) rfl (.cons (k := 24) rfl (.cons (k := 25) rfl (.nil _)))))))) ?_
            refine GQ_nilF encY 5 1 ?_
            refine GQ_pulls (.cons .head (.cons (.tail (.tail .head)) (.cons (.tail (.tail .head)) (.cons (.tail (.tail .head)) .nil)))) ?_
            refine GQ_dropr ?_
            refine GQ_next8_ (k + 1) _ _ _ _ _ _ _ ?_ ?_ (.cons (k := 7) rfl (.cons (k := 8) rfl (.cons (k := 25) rfl (.cons (k := 1) rfl (.cons (k := 2) rfl (.cons (k := 4) rfl (.cons (k := 24) rfl (.nil _)))))))) (.refl _)
            · exact ⟨hI11.next (by omega) (by simp only [Line.step, hl, c1, c2, c3, c4, c5, ↓reduceIte, Bool.false_eq_true]), (by (try dsimp only at *) <;> (try simp only [List.length_append, List.length_take, List.length_cons, List.length_nil]) <;> omega), (by (try dsimp only at *) <;> (try simp only [List.length_append, List.length_cons, List.length_nil]) <;> omega)⟩
            · omega
          · skip
            have c5p := c5
            try simp only [decide_eq_true_eq, decide_eq_false_iff_not, Bool.not_eq_true', Bool.not_eq_false', Bool.or_eq_true, Bool.and_eq_true, Bool.or_eq_false_iff, Bool.and_eq_false_iff, Int.not_lt, Int.not_le] at c5p
            rw [hg] at c5
            refine G_region ?_
            refine GL_step rfl (PS_move rfl) ?_
            refine GL_step rfl (PS_add rfl rfl (IntWalk.i64_in _ (by omega))) ?_
            refine GL_step rfl (PS_assign rfl) ?_
            refine GL_nil ?_
            refine GQ_sub (.cons (k := 1) rfl (.cons (k := 2) rfl (.cons (k := 4) rfl (.cons (k := 7) rfl (.cons (k := 10) rfl (.cons (k := 24) rfl (.cons (k := 25) rfl (.nil _)))))))) ?_
            refine GQ_then ?_
            refine G_region ?_
            refine GL_step rfl (PS_move rfl) ?_
            refine GL_step rfl (PS_eql rfl rfl) ?_
            refine GL_step rfl (PS_assign rfl) ?_
            refine GL_step rfl (PS_fieldAddr fa25_1 rfl) ?_
            refine GL_unit (PU_store LineV.l1 rfl rfl rfl sz4 rfl (.tail (.tail .head))) ?_
            refine GL_step rfl (PS_fieldAddr fa25_2 rfl) ?_
            refine GL_unit (PU_store LineV.l2 rfl rfl rfl sz4 rfl (.tail (.tail .head))) ?_
            refine GL_nil ?_
            refine GQ_sub (.cons (k := 1) rfl (.cons (k := 2) rfl (.cons (k := 4) rfl (.cons (k := 7) rfl (.cons (k := 8) rfl (.cons (k := 24) rfl (.cons (k := 25) rfl (.nil _)))))))) ?_
            refine GQ_block ?_
            refine GQ_block ?_
            refine GQ_then ?_
            refine G_region ?_
            refine GL_step rfl (PS_add rfl rfl (IntWalk.i64_in _ (by omega))) ?_
            refine GL_step rfl (PS_move rfl) ?_
            refine GL_nil ?_
            refine GQ_sub (.cons (k := 1) rfl (.cons (k := 2) rfl (.cons (k := 4) rfl (.cons (k := 7) rfl (.cons (k := 8) rfl (.cons (k := 24) rfl (.cons (k := 25) rfl (.nil _)))))))) ?_
            refine GQ_nilF encY 5 1 ?_
            refine GQ_pulls (.cons .head (.cons (.tail .head) (.cons (.tail .head) (.cons (.tail .head) .nil)))) ?_
            refine GQ_dropr ?_
            refine GQ_next8_ (k + 1) _ _ _ _ _ _ _ ?_ ?_ (.cons (k := 7) rfl (.cons (k := 8) rfl (.cons (k := 25) rfl (.cons (k := 1) rfl (.cons (k := 2) rfl (.cons (k := 4) rfl (.cons (k := 24) rfl (.nil _)))))))) (.refl _)
            · exact ⟨hI11.next (by omega) (by simp only [Line.step, hl, c1, c2, c3, c4, c5, ↓reduceIte, Bool.false_eq_true]), (by (try dsimp only at *) <;> (try simp only [List.length_append, List.length_take, List.length_cons, List.length_nil]) <;> omega), (by (try dsimp only at *) <;> (try simp only [List.length_append, List.length_cons, List.length_nil]) <;> omega)⟩
            · omega
        · skip
          have c4p := c4
          try simp only [decide_eq_true_eq, decide_eq_false_iff_not, Bool.not_eq_true', Bool.not_eq_false', Bool.or_eq_true, Bool.and_eq_true, Bool.or_eq_false_iff, Bool.and_eq_false_iff, Int.not_lt, Int.not_le] at c4p
          refine G_seq ?_
          refine G_region ?_
          refine GL_step rfl (PS_move rfl) ?_
          refine GL_step rfl (PS_eql rfl rfl) ?_
          refine GL_step rfl (PS_move rfl) ?_
          refine GL_gf (t := 75) rfl rfl rfl (fun q => PS_move rfl) ?_
          refine GL_gf (t := 75) rfl rfl rfl (fun q => PS_eql (cvE rfl (by rw [q]; rfl)) rfl) ?_
          refine GL_step rfl (PS_or rfl rfl (fun h => by rw [h]; rfl)) ?_
          refine GL_step rfl (PS_assign rfl) ?_
          refine GL_nil ?_
          refine GQ_sub (.cons (k := 1) rfl (.cons (k := 2) rfl (.cons (k := 4) rfl (.cons (k := 7) rfl (.cons (k := 8) rfl (.cons (k := 10) rfl (.cons (k := 24) rfl (.cons (k := 25) rfl (.cons (k := 72) rfl (.nil _)))))))))) ?_
          refine GQ_then ?_
          refine G_cond rfl (fun c6 => ?_) (fun c6 => ?_)
          · skip
            have c6p := c6
            try simp only [decide_eq_true_eq, decide_eq_false_iff_not, Bool.not_eq_true', Bool.not_eq_false', Bool.or_eq_true, Bool.and_eq_true, Bool.or_eq_false_iff, Bool.and_eq_false_iff, Int.not_lt, Int.not_le] at c6p
            refine G_seq ?_
            refine G_region ?_
            refine GL_step rfl (PS_move rfl) ?_
            refine GL_step rfl (PS_len_slice rfl Try.underlying72 rfl) ?_
            refine GL_step rfl (PS_gtr rfl rfl) ?_
            refine GL_nil ?_
            refine GQ_sub (.cons (k := 1) rfl (.cons (k := 2) rfl (.cons (k := 4) rfl (.cons (k := 7) rfl (.cons (k := 8) rfl (.cons (k := 24) rfl (.cons (k := 25) rfl (.cons (k := 81) rfl (.nil _))))))))) ?_
            refine GQ_then ?_
            refine G_cond rfl (fun c7 => ?_) (fun c7 => ?_)
            · skip
              have c7p := c7
              try simp only [decide_eq_true_eq, decide_eq_false_iff_not, Bool.not_eq_true', Bool.not_eq_false', Bool.or_eq_true, Bool.and_eq_true, Bool.or_eq_false_iff, Bool.and_eq_false_iff, Int.not_lt, Int.not_le] at c7p
              rw [hl] at c7
              refine G_region ?_
              refine GL_step rfl (PS_move rfl) ?_
              refine GL_step rfl (PS_move rfl) ?_
              refine GL_step rfl (PS_len_slice rfl Try.underlying72 rfl) ?_
              refine GL_step rfl (PS_sub rfl rfl (IntWalk.i64_in _ (by omega))) ?_
              refine GL_cutToF flY rfl Try.underlying72 sz5 rfl rfl (by omega) (by omega) (fun _ => .head) ?_
              refine GL_step rfl (PS_assign rfl) ?_
              refine GL_nil ?_
              refine GQ_sub (.cons (k := 1) rfl (.cons (k := 2) rfl (.cons (k := 4) rfl (.cons (k := 7) rfl (.cons (k := 8) rfl (.cons (k := 24) rfl (.cons (k := 25) rfl (.nil _)))))))) ?_
              refine GQ_block ?_
              refine GQ_block ?_
              refine GQ_then ?_
              refine G_region ?_
              refine GL_step rfl (PS_add rfl rfl (IntWalk.i64_in _ (by omega))) ?_
              refine GL_step rfl (PS_move rfl) ?_
              refine GL_nil ?_
              refine GQ_sub (.cons (k := 1) rfl (.cons (k := 2) rfl (.cons (k := 4) rfl (.cons (k := 7) rfl (.cons (k := 8) rfl (.cons (k := 24) rfl (.cons (k := 25) rfl (.nil _)))))))) ?_
              refine GQ_next8_ (k + 1) _ _ _ _ _ _ _ ?_ ?_ (.cons (k := 7) rfl (.cons (k := 8) rfl (.cons (k := 25) rfl (.cons (k := 1) rfl (.cons (k := 2) rfl (.cons (k := 4) rfl (.cons (k := 24) rfl (.nil _)))))))) (.refl _)
              · exact ⟨hI11.next (by omega) (by simp only [Line.step, hl, c1, c2, c3, c4, c6, c7, ↓reduceIte, Bool.false_eq_true]), (by (try dsimp only at *) <;> (try simp only [List.length_append, List.length_take, List.length_cons, List.length_nil]) <;> omega), (by (try dsimp only at *) <;> (try simp only [List.length_append, List.length_cons, List.length_nil]) <;> omega)⟩
              · omega
            · skip
              have c7p := c7
              try simp only [decide_eq_true_eq, decide_eq_false_iff_not, Bool.not_eq_true', Bool.not_eq_false', Bool.or_eq_true, Bool.and_eq_true, Bool.or_eq_false_iff, Bool.and_eq_false_iff, Int.not_lt, Int.not_le] at c7p
              rw [hl] at c7
              refine G_skip ?_
              refine GQ_sub (.cons (k := 1) rfl (.cons (k := 2) rfl (.cons (k := 4) rfl (.cons (k := 7) rfl (.cons (k := 8) rfl (.cons (k := 24) rfl (.cons (k := 25) rfl (.nil _)))))))) ?_
              refine GQ_block ?_
              refine GQ_block ?_
              refine GQ_then ?_
              refine G_region ?_
              refine GL_step rfl (PS_add rfl rfl (IntWalk.i64_in _ (by omega))) ?_
              refine GL_step rfl (PS_move rfl) ?_
              refine GL_nil ?_
              refine GQ_sub (.cons (k := 1) rfl (.cons (k := 2) rfl (.cons (k := 4) rfl (.cons (k := 7) rfl (.cons (k := 8) rfl (.cons (k := 24) rfl (.cons (k := 25) rfl (.nil _)))))))) ?_
              refine GQ_next8_ (k + 1) _ _ _ _ _ _ _ ?_ ?_ (.cons (k := 7) rfl (.cons (k := 8) rfl (.cons (k := 25) rfl (.cons (k := 1) rfl (.cons (k := 2) rfl (.cons (k := 4) rfl (.cons (k := 24) rfl (.nil _)))))))) (.refl _)
              · exact ⟨hI11.next (by omega) (by simp only [Line.step, hl, c1, c2, c3, c4, c6, c7, ↓reduceIte, Bool.false_eq_true]), (by (try dsimp only at *) <;> (try simp only [List.length_append, List.length_take, List.length_cons, List.length_nil]) <;> omega), (by (try dsimp only at *) <;> (try simp only [List.length_append, List.length_cons, List.length_nil]) <;> omega)⟩
              · omega
          · skip
            have c6p := c6
            try simp only [decide_eq_true_eq, decide_eq_false_iff_not, Bool.not_eq_true', Bool.not_eq_false', Bool.or_eq_true, Bool.and_eq_true, Bool.or_eq_false_iff, Bool.and_eq_false_iff, Int.not_lt, Int.not_le] at c6p
            refine G_seq ?_
            refine G_region ?_
            refine GL_step rfl (PS_move rfl) ?_
            refine GL_pure rfl cf50 (.cons rfl .nil) (fun w hS => line_plain_spec _ w) ?_
            refine GL_step rfl (PS_not rfl) ?_
            refine GL_step rfl (PS_assign rfl) ?_
            refine GL_nil ?_
            refine GQ_sub (.cons (k := 1) rfl (.cons (k := 2) rfl (.cons (k := 4) rfl (.cons (k := 7) rfl (.cons (k := 8) rfl (.cons (k := 10) rfl (.cons (k := 24) rfl (.cons (k := 25) rfl (.cons (k := 87) rfl (.nil _)))))))))) ?_
            refine GQ_then ?_
            refine G_cond rfl (fun c8 => ?_) (fun c8 => ?_)
            · skip
              have c8p := c8
              try simp only [decide_eq_true_eq, decide_eq_false_iff_not, Bool.not_eq_true', Bool.not_eq_false', Bool.or_eq_true, Bool.and_eq_true, Bool.or_eq_false_iff, Bool.and_eq_false_iff, Int.not_lt, Int.not_le] at c8p
              refine G_skip ?_
              refine GQ_sub (.cons (k := 1) rfl (.cons (k := 2) rfl (.cons (k := 4) rfl (.cons (k := 7) rfl (.cons (k := 8) rfl (.cons (k := 24) rfl (.cons (k := 25) rfl (.nil _)))))))) ?_
              refine GQ_block ?_
              refine GQ_block ?_
              refine GQ_then ?_
              refine G_region ?_
              refine GL_step rfl (PS_add rfl rfl (IntWalk.i64_in _ (by omega))) ?_
              refine GL_step rfl (PS_move rfl) ?_
              refine GL_nil ?_
              refine GQ_sub (.cons (k := 1) rfl (.cons (k := 2) rfl (.cons (k := 4) rfl (.cons (k := 7) rfl (.cons (k := 8) rfl (.cons (k := 24) rfl (.cons (k := 25) rfl (.nil _)))))))) ?_
              refine GQ_next8_ (k + 1) _ _ _ _ _ _ _ ?_ ?_ (.cons (k := 7) rfl (.cons (k := 8) rfl (.cons (k := 25) rfl (.cons (k := 1) rfl (.cons (k := 2) rfl (.cons (k := 4) rfl (.cons (k := 24) rfl (.nil _)))))))) (.refl _)
              · exact ⟨hI11.next (by omega) (by simp only [Line.step, hl, c1, c2, c3, c4, c6, c8, ↓reduceIte, Bool.false_eq_true]), (by (try dsimp only at *) <;> (try simp only [List.length_append, List.length_take, List.length_cons, List.length_nil]) <;> omega), (by (try dsimp only at *) <;> (try simp only [List.length_append, List.length_cons, List.length_nil]) <;> omega)⟩
              · omega
            · skip
              have c8p := c8
              try simp only [decide_eq_true_eq, decide_eq_false_iff_not, Bool.not_eq_true', Bool.not_eq_false', Bool.or_eq_true, Bool.and_eq_true, Bool.or_eq_false_iff, Bool.and_eq_false_iff, Int.not_lt, Int.not_le] at c8p
              refine G_seq ?_
              refine G_region ?_
              refine GL_step rfl (PS_move rfl) ?_
              refine GL_step rfl (PS_len_slice rfl Try.underlying72 rfl) ?_
              refine GL_step rfl (PS_geq rfl rfl) ?_
              refine GL_step rfl (PS_assign rfl) ?_
              refine GL_nil ?_
              refine GQ_sub (.cons (k := 1) rfl (.cons (k := 2) rfl (.cons (k := 4) rfl (.cons (k := 7) rfl (.cons (k := 8) rfl (.cons (k := 10) rfl (.cons (k := 24) rfl (.cons (k := 25) rfl (.cons (k := 91) rfl (.nil _)))))))))) ?_
              refine GQ_then ?_
              refine G_cond rfl (fun c9 => ?_) (fun c9 => ?_)
              · skip
                have c9p := c9
                try simp only [decide_eq_true_eq, decide_eq_false_iff_not, Bool.not_eq_true', Bool.not_eq_false', Bool.or_eq_true, Bool.and_eq_true, Bool.or_eq_false_iff, Bool.and_eq_false_iff, Int.not_lt, Int.not_le] at c9p
                rw [hl] at c9
                refine G_region ?_
                refine GL_step rfl (PS_fieldAddr fa25_1 rfl) ?_
                refine GL_unit (PU_store LineV.l1 rfl rfl rfl sz4 rfl (.tail (.tail .head))) ?_
                refine GL_nil ?_
                refine GQ_sub (.cons (k := 1) rfl (.cons (k := 2) rfl (.cons (k := 4) rfl (.cons (k := 7) rfl (.cons (k := 8) rfl (.cons (k := 24) rfl (.cons (k := 25) rfl (.nil _)))))))) ?_
                refine GQ_block ?_
                refine GQ_block ?_
                refine GQ_then ?_
                refine G_region ?_
                refine GL_step rfl (PS_add rfl rfl (IntWalk.i64_in _ (by omega))) ?_
                refine GL_step rfl (PS_move rfl) ?_
                refine GL_nil ?_
                refine GQ_sub (.cons (k := 1) rfl (.cons (k := 2) rfl (.cons (k := 4) rfl (.cons (k := 7) rfl (.cons (k := 8) rfl (.cons (k := 24) rfl (.cons (k := 25) rfl (.nil _)))))))) ?_
                refine GQ_next8_ (k + 1) _ _ _ _ _ _ _ ?_ ?_ (.cons (k := 7) rfl (.cons (k := 8) rfl (.cons (k := 25) rfl (.cons (k := 1) rfl (.cons (k := 2) rfl (.cons (k := 4) rfl (.cons (k := 24) rfl (.nil _)))))))) (.refl _)
                · exact ⟨hI11.next (by omega) (by simp only [Line.step, hl, c1, c2, c3, c4, c6, c8, c9, ↓reduceIte, Bool.false_eq_true]), (by (try dsimp only at *) <;> (try simp only [List.length_append, List.length_take, List.length_cons, List.length_nil]) <;> omega), (by (try dsimp only at *) <;> (try simp only [List.length_append, List.length_cons, List.length_nil]) <;> omega)⟩
                · omega
              · skip
                have c9p := c9
                try simp only [decide_eq_true_eq, decide_eq_false_iff_not, Bool.not_eq_true', Bool.not_eq_false', Bool.or_eq_true, Bool.and_eq_true, Bool.or_eq_false_iff, Bool.and_eq_false_iff, Int.not_lt, Int.not_le] at c9p
                rw [hl] at c9
                refine G_region ?_
                refine GL_step rfl (PS_move rfl) ?_
                refine GL_step rfl (PS_move rfl) ?_
                refine GL_bs1F encY flY rfl Try.underlying72 sz5 zv5 rfl (by decide) (by decide) rfl rfl (fun b4 => ?_)
                refine GL_appendF flY rfl Try.underlying72 sz5 zv5 rfl by5 (by decide) (by decide) rfl rfl (fun w hS => Src.sliceT Try.underlying72 ((Kn.own (.head _)) w hS)) (by (try dsimp only); omega) (fun _ => (.tail .head)) (fun h9 h9l h9z => ?_)
                refine GL_step rfl (PS_assign rfl) ?_
                refine GL_nil ?_
                refine GQ_sub (.cons (k := 1) rfl (.cons (k := 2) rfl (.cons (k := 4) rfl (.cons (k := 7) rfl (.cons (k := 8) rfl (.cons (k := 24) rfl (.cons (k := 25) rfl (.nil _)))))))) ?_
                refine GQ_block ?_
                refine GQ_block ?_
                refine GQ_then ?_
                refine G_region ?_
                refine GL_step rfl (PS_add rfl rfl (IntWalk.i64_in _ (by omega))) ?_
                refine GL_step rfl (PS_move rfl) ?_
                refine GL_nil ?_
                refine GQ_sub (.cons (k := 1) rfl (.cons (k := 2) rfl (.cons (k := 4) rfl (.cons (k := 7) rfl (.cons (k := 8) rfl (.cons (k := 24) rfl (.cons (k := 25) rfl (.nil _)))))))) ?_
                refine GQ_next8_ (k + 1) _ _ _ _ _ _ _ ?_ ?_ (.cons (k := 7) rfl (.cons (k := 8) rfl (.cons (k := 25) rfl (.cons (k := 1) rfl (.cons (k := 2) rfl (.cons (k := 4) rfl (.cons (k := 24) rfl (.nil _)))))))) (.cons _ (.refl _))
                · exact ⟨hI11.next (by omega) (by simp only [Line.step, hl, c1, c2, c3, c4, c6, c8, c9, ↓reduceIte, Bool.false_eq_true]), (by (try dsimp only at *) <;> (try simp only [List.length_append, List.length_take, List.length_cons, List.length_nil]) <;> omega), (by (try dsimp only at *) <;> (try simp only [List.length_append, List.length_cons, List.length_nil]) <;> omega)⟩
                · omega
    · skip
      have c2p := c2
      try simp only [decide_eq_true_eq, decide_eq_false_iff_not, Bool.not_eq_true', Bool.not_eq_false', Bool.or_eq_true, Bool.and_eq_true, Bool.or_eq_false_iff, Bool.and_eq_false_iff, Int.not_lt, Int.not_le] at c2p
      refine G_exit ?_
      refine GQ_then_exit ?_
      refine GQ_then_exit ?_
      refine GQ_block_exit ?_
      refine GQ_sub (.cons (k := 2) rfl (.cons (k := 4) rfl (.cons (k := 7) rfl (.cons (k := 8) rfl (.nil _))))) ?_
      refine GQ_then ?_
      refine G_seq ?_
      refine G_region ?_
      refine GL_step rfl (PS_move rfl) ?_
      refine GL_step rfl (PS_string Try.underlying72 Try.underlying9 Try.underlying5 rfl (Kn.own (.head _))) ?_
      refine GL_step rfl (PS_fieldAddr fa25_0 rfl) ?_
      refine GL_unit (PU_store LineV.l0 rfl rfl rfl sz9 rfl (.tail (.tail .head))) ?_
      refine GL_nil ?_
      refine GQ_sub (.cons (k := 2) rfl (.cons (k := 4) rfl (.cons (k := 7) rfl (.nil _)))) ?_
      refine GQ_then ?_
      refine G_seq ?_
      refine G_region ?_
      refine GL_step rfl (PS_loadA rfl tya25 (.tail _ (.tail _ (.head _))) (Lens.id LineV.fl.len LineV.fl.one) rfl) ?_
      refine GL_step rfl (PS_move rfl) ?_
      refine GL_unit (PU_store (Lens.id LineV.fl.len LineV.fl.one) rfl rfl rfl sz25 rfl (.tail (.tail (.tail .head)))) ?_
      refine GL_step rfl (PS_assign rfl) ?_
      refine GL_step rfl (PS_assign rfl) ?_
      refine GL_nil ?_
      refine GQ_sub (.cons (k := 4) rfl (.cons (k := 5) rfl (.cons (k := 6) rfl (.nil _)))) ?_
      refine GQ_then ?_
      refine G_ret ?_
      refine GQ_ret rfl (.cell rfl (.tail _ (.tail _ (.tail _ (.head _)))) (.inl ⟨(by rw [LineV.fl.len]; exact tya25), rfl⟩) (.tmp rfl (.tmp rfl .nil))) ?_
      intro w1 hS
      have hS := (hS.perm (Pulls.perm (.cons (.tail .head) .nil))).headL
      have e := hI11.done (by omega)
      exact ⟨_, .inr ⟨hgd, _, by rw [e]; rfl, by rw [e]; exact hg, by rw [e]⟩, hS⟩
theorem keep_reads_spec  (w : World) : Ret Try.prog 14 #[] w fun v w' => v = .bool true ∧ Keep w w' := by
  refine Ret_body [] [] Try.func14 rfl rfl rfl (St.start w []) ?_
  refine G_seq ?_
  refine G_region ?_
  refine GL_step rfl (PS_assign rfl) ?_
  refine GL_nil ?_
  refine GQ_sub (.nil _) ?_
  refine GQ_then ?_
  refine G_seq ?_
  refine G_region ?_
  refine GL_step rfl (PS_build pl25 zv25 rfl .nil) ?_
  refine GL_callR rfl cf13 (.cons rfl (.cons rfl .nil)) .nil (line_Feed_spec (t0 := 0) ⟨[], false, false, ⟨none, 0, 0⟩⟩ [] _ (by decide)) (fun w hS => (fun w _ => Rd.nil w _ _) w hS) (fun v1 B hv => ?_)
  rcases hv with ⟨y2, rfl, rfl⟩ | ⟨y3, y4, rfl, y5, rfl⟩
  · exact absurd y2 (by decide)
  · skip
    refine GL_step rfl (PS_move rfl) ?_
    refine GL_step rfl (PS_extract rfl rfl) ?_
    refine GL_step rfl (PS_extract rfl rfl) ?_
    refine GL_step rfl (PS_extract rfl rfl) ?_
    refine GL_alloc rfl zv25 rfl (fun b1 => ?_)
    refine GL_unit (PU_store (Lens.id LineV.fl.len LineV.fl.one) rfl rfl rfl sz25 rfl .head) ?_
    refine GL_step rfl (PS_assign rfl) ?_
    refine GL_step rfl (PS_assign rfl) ?_
    refine GL_nil ?_
    refine GQ_sub (.cons (k := 1) rfl (.cons (k := 2) rfl (.cons (k := 3) rfl (.nil _)))) ?_
    refine GQ_then ?_
    refine G_seq ?_
    refine G_region ?_
    refine GL_step rfl (PS_move rfl) ?_
    refine GL_step rfl (PS_eql rfl rfl) ?_
    refine GL_step rfl (PS_move rfl) ?_
    refine GL_gt (t := 12) rfl rfl rfl (fun q => PS_move rfl) ?_
    refine GL_gt (t := 12) rfl rfl rfl (fun q => PS_eql (cvE rfl q) rfl) ?_
    refine GL_step rfl (PS_and rfl rfl (fun h => h)) ?_
    refine GL_step rfl (PS_move rfl) ?_
    refine GL_gt (t := 16) rfl rfl rfl (fun q => PS_fieldAddr fa25_3 rfl) ?_
    refine GL_gt (t := 16) rfl rfl rfl (fun q => PS_load (cvE rfl q) tys23 (.head _) LineV.l3 rfl rfl) ?_
    refine GL_gt (t := 16) rfl rfl rfl (fun q => PS_len_slice rfl Try.underlying23 (cvE rfl q)) ?_
    refine GL_gt (t := 16) rfl rfl rfl (fun q => PS_eql (cvE rfl q) rfl) ?_
    refine GL_step rfl (PS_and rfl rfl (fun h => h)) ?_
    refine GL_step rfl (PS_move rfl) ?_
    refine GL_gt (t := 22) rfl rfl rfl (fun q => PS_fieldAddr fa25_3 rfl) ?_
    refine GL_gt (t := 22) rfl rfl rfl (fun q => PS_load (cvE rfl q) tys23 (.head _) LineV.l3 rfl rfl) ?_
    refine GL_gt (t := 22) rfl rfl rfl (fun q => by have q1 := q; (try simp at q1); exact PS_idxS is23 (by decide) (Kn.own (.tail _ (.head _))) (cvE rfl q) rfl (by omega) (by omega)) ?_
    refine GL_gt (t := 22) rfl rfl rfl (fun q => PS_ldStr (cvE rfl q) tys9 (Kn.own (.tail _ (.head _))) (by decide)) ?_
    refine GL_gt (t := 22) rfl rfl rfl (fun q => PS_eql_str (cvE rfl q) rfl) ?_
    refine GL_step rfl (PS_and rfl rfl (fun h => h)) ?_
    refine GL_step rfl (PS_move rfl) ?_
    refine GL_gt (t := 29) rfl rfl rfl (fun q => PS_fieldAddr fa25_0 rfl) ?_
    refine GL_gt (t := 29) rfl rfl rfl (fun q => PS_load (cvE rfl q) tys9 (.head _) LineV.l0 rfl rfl) ?_
    refine GL_gt (t := 29) rfl rfl rfl (fun q => PS_eql_str (cvE rfl q) rfl) ?_
    refine GL_step rfl (PS_and rfl rfl (fun h => h)) ?_
    refine GL_step rfl (PS_assign rfl) ?_
    refine GL_nil ?_
    refine GQ_sub (.cons (k := 0) rfl (.nil _)) ?_
    refine GQ_then ?_
    refine G_ret ?_
    refine GQ_ret rfl (.tmp rfl .nil) ?_
    intro w1 hS; refine ⟨?_, hS.toKeep⟩; have e : y4.len = 1 := y5
    rw [e]
    rfl
theorem keep_sameTexts_spec {t0 t1 : Nat} (f g : Hd) (xs ys : List Str) (hx : xs.length ≤ 9223372036854775807) (w : World) (r0 : Rd w f t0 1 (xs.flatMap encS)) (r1 : Rd w g t1 1 (ys.flatMap encS)) : Ret Try.prog 26 #[f.val, g.val] w fun v w' => v = .bool (decide (xs = ys)) ∧ Keep w w' := by
  have hf := r0.len1 flS (by decide)
  have hg := r1.len1 flS (by decide)
  refine Ret_body [] [] Try.func26 rfl rfl rfl (St.start w []) ?_
  refine G_seq ?_
  refine G_region ?_
  refine GL_step rfl (PS_assign rfl) ?_
  refine GL_nil ?_
  refine GQ_sub (.cons (k := 0) rfl (.cons (k := 1) rfl (.nil _))) ?_
  refine GQ_then ?_
  refine G_seq ?_
  refine G_seq ?_
  refine G_region ?_
  refine GL_step rfl (PS_move rfl) ?_
  refine GL_step rfl (PS_len_slice rfl Try.underlying23 rfl) ?_
  refine GL_step rfl (PS_move rfl) ?_
  refine GL_step rfl (PS_len_slice rfl Try.underlying23 rfl) ?_
  refine GL_step rfl (PS_neq rfl rfl) ?_
  refine GL_nil ?_
  refine GQ_sub (.cons (k := 0) rfl (.cons (k := 1) rfl (.cons (k := 10) rfl (.nil _)))) ?_
  refine GQ_then ?_
  refine G_cond rfl (fun c1 => ?_) (fun c1 => ?_)
  · skip
    have c1p := c1
    try simp only [decide_eq_true_eq, decide_eq_false_iff_not, Bool.not_eq_true', Bool.not_eq_false', Bool.or_eq_true, Bool.and_eq_true, Bool.or_eq_false_iff, Bool.and_eq_false_iff, Int.not_lt, Int.not_le] at c1p
    refine G_seq ?_
    refine G_region ?_
    refine GL_step rfl (PS_assign rfl) ?_
    refine GL_nil ?_
    refine GQ_sub (.cons (k := 4) rfl (.nil _)) ?_
    refine GQ_then ?_
    refine G_ret ?_
    refine GQ_then_ret ?_
    refine GQ_ret rfl (.tmp rfl .nil) ?_
    intro w1 hS; refine ⟨congrArg Value.bool ?_, hS.toKeep⟩; have : xs ≠ ys := fun e => by subst e; simp at c1; omega
    simp [this]
  · skip
    have c1p := c1
    try simp only [decide_eq_true_eq, decide_eq_false_iff_not, Bool.not_eq_true', Bool.not_eq_false', Bool.or_eq_true, Bool.and_eq_true, Bool.or_eq_false_iff, Bool.and_eq_false_iff, Int.not_lt, Int.not_le] at c1p
    refine G_skip ?_
    refine GQ_sub (.cons (k := 0) rfl (.cons (k := 1) rfl (.nil _))) ?_
    refine GQ_then ?_
    refine G_seq ?_
    refine G_seq ?_
    refine G_region ?_
    refine GL_step rfl (PS_assign rfl) ?_
    refine GL_nil ?_
    refine GQ_then ?_
    refine G_block ?_
    refine G_subF (.cons (k := 5) rfl (.cons (k := 0) rfl (.cons (k := 1) rfl (.nil _)))) ?_
    refine G_loop1_ (fun (i : Int) => 0 ≤ i ∧ i ≤ xs.length ∧ xs.length = ys.length ∧ xs.take i.toNat = ys.take i.toNat) (fun (i : Int) => ((xs.length : Int) - i).toNat) (fun (i : Int) => [(5, .int .i64 i)]) (fun (i : Int) => []) (0) ?_ rfl rfl (fun i hI1 => ?_)
    · exact ⟨by omega, by omega, by simp at c1; omega, rfl⟩
    obtain ⟨hI11, hI12, hI13, hI14⟩ := hI1
    refine G_seq ?_
    refine G_seq ?_
    refine G_region ?_
    refine GL_step rfl (PS_move rfl) ?_
    refine GL_step rfl (PS_move rfl) ?_
    refine GL_step rfl (PS_len_slice rfl Try.underlying23 rfl) ?_
    refine GL_step rfl (PS_lss rfl rfl) ?_
    refine GL_nil ?_
    refine GQ_sub (.cons (k := 0) rfl (.cons (k := 1) rfl (.cons (k := 5) rfl (.cons (k := 14) rfl (.nil _))))) ?_
    refine GQ_then ?_
    refine G_cond rfl (fun c2 => ?_) (fun c2 => ?_)
    · skip
      have c2p := c2
      try simp only [decide_eq_true_eq, decide_eq_false_iff_not, Bool.not_eq_true', Bool.not_eq_false', Bool.or_eq_true, Bool.and_eq_true, Bool.or_eq_false_iff, Bool.and_eq_false_iff, Int.not_lt, Int.not_le] at c2p
      refine G_skip ?_
      refine GQ_sub (.cons (k := 0) rfl (.cons (k := 1) rfl (.cons (k := 5) rfl (.nil _)))) ?_
      refine GQ_then ?_
      refine G_seq ?_
      refine G_block ?_
      refine G_seq ?_
      refine G_planN (N := 9) [0, 0, 3, 7, 0, 0, 48, 112, 255] mix (by kernel_rfl) rfl ?_
      refine Plan_float 0 rfl rfl (by kernel_rfl) (OK_s (EX_s (PS_move rfl))) ?_
      refine Plan_float 1 rfl rfl (by kernel_rfl) (OK_s (EX_s (PS_move rfl))) ?_
      refine Plan_float 2 rfl rfl (by kernel_rfl) (OK_s (EX_s (PS_idxS is23 (by decide) (Kn.old r0) rfl rfl (by omega) (by omega)))) ?_
      refine Plan_float 3 rfl rfl (by kernel_rfl) (OK_s (EX_s (PS_ldStr rfl tys9 (Kn.old r0) (by omega)))) ?_
      refine Plan_float 4 rfl rfl (by kernel_rfl) (OK_s (EX_s (PS_move rfl))) ?_
      refine Plan_float 5 rfl rfl (by kernel_rfl) (OK_s (EX_s (PS_move rfl))) ?_
      refine Plan_float 6 rfl rfl (by kernel_rfl) (OK_s (EX_s (PS_idxS is23 (by decide) (Kn.old r1) rfl rfl (by omega) (by omega)))) ?_
      refine Plan_float 7 rfl rfl (by kernel_rfl) (OK_s (EX_s (PS_ldStr rfl tys9 (Kn.old r1) (by omega)))) ?_
      refine Plan_float 8 rfl rfl (by kernel_rfl) (OK_s (EX_s (PS_neq_str rfl rfl))) ?_
      refine Plan_end (by kernel_rfl) ?_
      refine GQ_sub (.cons (k := 0) rfl (.cons (k := 1) rfl (.cons (k := 5) rfl (.cons (k := 25) rfl (.nil _))))) ?_
      refine GQ_then ?_
      refine G_cond rfl (fun c3 => ?_) (fun c3 => ?_)
      · skip
        have c3p := c3
        try simp only [decide_eq_true_eq, decide_eq_false_iff_not, Bool.not_eq_true', Bool.not_eq_false', Bool.or_eq_true, Bool.and_eq_true, Bool.or_eq_false_iff, Bool.and_eq_false_iff, Int.not_lt, Int.not_le] at c3p
        refine G_seq ?_
        refine G_region ?_
        refine GL_step rfl (PS_assign rfl) ?_
        refine GL_nil ?_
        refine GQ_sub (.cons (k := 4) rfl (.nil _)) ?_
        refine GQ_then ?_
        refine G_ret ?_
        refine GQ_block_ret ?_
        refine GQ_then_ret ?_
        refine GQ_then_ret ?_
        refine GQ_block_ret ?_
        refine GQ_then_ret ?_
        refine GQ_ret rfl (.tmp rfl .nil) ?_
        intro w1 hS; refine ⟨congrArg Value.bool ?_, hS.toKeep⟩; have := Line.ne_of_getD (d := []) (xs := xs) (ys := ys) (i := i.toNat) (by simpa using c3)
        simp [this]
      · skip
        have c3p := c3
        try simp only [decide_eq_true_eq, decide_eq_false_iff_not, Bool.not_eq_true', Bool.not_eq_false', Bool.or_eq_true, Bool.and_eq_true, Bool.or_eq_false_iff, Bool.and_eq_false_iff, Int.not_lt, Int.not_le] at c3p
        refine G_skip ?_
        refine GQ_sub (.cons (k := 0) rfl (.cons (k := 1) rfl (.cons (k := 5) rfl (.nil _)))) ?_
        refine GQ_block ?_
        refine GQ_then ?_
        refine G_region ?_
        refine GL_step rfl (PS_move rfl) ?_
        refine GL_step rfl (PS_add rfl rfl (IntWalk.i64_in _ (by omega))) ?_
        refine GL_step rfl (PS_assign rfl) ?_
        refine GL_nil ?_
        refine GQ_sub (.cons (k := 0) rfl (.cons (k := 1) rfl (.cons (k := 5) rfl (.nil _)))) ?_
        refine GQ_next1_ (i + 1) ?_ ?_ (.cons (k := 5) rfl (.cons (k := 0) rfl (.cons (k := 1) rfl (.nil _)))) (.refl _)
        · exact ⟨by omega, by omega, hI13, Line.take_next (d := []) hI11 hI13 (by omega) hI14 (by simpa using c3)⟩
        · omega
    · skip
      have c2p := c2
      try simp only [decide_eq_true_eq, decide_eq_false_iff_not, Bool.not_eq_true', Bool.not_eq_false', Bool.or_eq_true, Bool.and_eq_true, Bool.or_eq_false_iff, Bool.and_eq_false_iff, Int.not_lt, Int.not_le] at c2p
      refine G_exit ?_
      refine GQ_then_exit ?_
      refine GQ_then_exit ?_
      refine GQ_block_exit ?_
      refine GQ_sub (.nil _) ?_
      refine GQ_then ?_
      refine G_seq ?_
      refine G_region ?_
      refine GL_step rfl (PS_assign rfl) ?_
      refine GL_nil ?_
      refine GQ_then ?_
      refine G_ret ?_
      refine GQ_ret rfl (.tmp rfl .nil) ?_
      intro w1 hS; refine ⟨congrArg Value.bool ?_, hS.toKeep⟩; have := Line.pickE (xs := xs) (ys := ys) hI13 hI14 (by omega)
      simp [this]
theorem line_Next_spec {t0 : Nat} (l : LineV) (qs : List Str) (hb : qs.length ≤ 1048576) : CtrR Try.prog 23 #[.agg l.enc.toArray] [] (fun w => Rd w l.queue t0 1 (qs.flatMap encS) ∧ l.queue.len ≤ l.queue.cap) (fun v B => (qs = [] ∧ v = .tuple #[.agg l.enc.toArray, vstr [], .bool false] ∧ B = []) ∨ (∃ q r, qs = q :: r ∧ ∃ h' : Hd, v = .tuple #[.agg (LineV.enc ⟨l.now, l.long, l.ret, h'⟩).toArray, vstr q, .bool true] ∧ h'.len = r.length ∧ B = [Res.own h' 9 1 (r.flatMap encS)])) := by
  intro w hS0 hH
  obtain ⟨r0, k0⟩ := hH
  have hl0 := r0.len1 flS (by decide)
  refine Ret_body _ _ Try.func23 rfl rfl rfl (hS0) ?_
  refine G_seq ?_
  refine G_region ?_
  refine GL_box rfl rfl rfl (fun b1 => ?_)
  refine GL_alloc rfl zv25 rfl (fun b2 => ?_)
  refine GL_step rfl (PS_assign rfl) ?_
  refine GL_step rfl (PS_assign rfl) ?_
  refine GL_nil ?_
  refine GQ_sub (.cons (k := 1) rfl (.cons (k := 2) rfl (.nil _))) ?_
  refine GQ_then ?_
  refine G_seq ?_
  refine G_seq ?_
  refine G_region ?_
  refine GL_step rfl (PS_fieldAddr fa25_3 rfl) ?_
  refine GL_step rfl (PS_load rfl tys23 (.tail _ (.head _)) LineV.l3 rfl rfl) ?_
  refine GL_step rfl (PS_len_slice rfl Try.underlying23 rfl) ?_
  refine GL_step rfl (PS_eql rfl rfl) ?_
  refine GL_nil ?_
  refine GQ_sub (.cons (k := 1) rfl (.cons (k := 2) rfl (.cons (k := 9) rfl (.nil _)))) ?_
  refine GQ_then ?_
  refine G_cond rfl (fun c1 => ?_) (fun c1 => ?_)
  · skip
    have c1p := c1
    try simp only [decide_eq_true_eq, decide_eq_false_iff_not, Bool.not_eq_true', Bool.not_eq_false', Bool.or_eq_true, Bool.and_eq_true, Bool.or_eq_false_iff, Bool.and_eq_false_iff, Int.not_lt, Int.not_le] at c1p
    have hq : qs = [] := List.length_eq_zero_iff.1 (by omega)
    refine G_seq ?_
    refine G_region ?_
    refine GL_step rfl (PS_loadA rfl tya25 (.tail _ (.head _)) (Lens.id LineV.fl.len LineV.fl.one) rfl) ?_
    refine GL_unit (PU_store (Lens.id LineV.fl.len LineV.fl.one) rfl rfl rfl sz25 rfl .head) ?_
    refine GL_step rfl (PS_assign rfl) ?_
    refine GL_step rfl (PS_assign rfl) ?_
    refine GL_nil ?_
    refine GQ_sub (.cons (k := 2) rfl (.cons (k := 3) rfl (.cons (k := 4) rfl (.nil _)))) ?_
    refine GQ_then ?_
    refine G_ret ?_
    refine GQ_then_ret ?_
    refine GQ_ret rfl (.cell rfl (.head _) (.inl ⟨(by rw [LineV.fl.len]; exact tya25), rfl⟩) (.tmp rfl (.tmp rfl .nil))) ?_
    intro w1 hS
    have hS := (hS.perm (Pulls.perm .nil)).headL
    exact ⟨_, .inl ⟨hq, rfl, rfl⟩, hS⟩
  · skip
    have c1p := c1
    try simp only [decide_eq_true_eq, decide_eq_false_iff_not, Bool.not_eq_true', Bool.not_eq_false', Bool.or_eq_true, Bool.and_eq_true, Bool.or_eq_false_iff, Bool.and_eq_false_iff, Int.not_lt, Int.not_le] at c1p
    obtain ⟨q, r, rfl⟩ := Line.cons_of (qs := qs) (by omega)
    rw [List.length_cons] at hl0 hb
    refine G_skip ?_
    refine GQ_sub (.cons (k := 1) rfl (.cons (k := 2) rfl (.nil _))) ?_
    refine GQ_then ?_
    refine G_seq ?_
    refine G_region ?_
    refine GL_step rfl (PS_fieldAddr fa25_3 rfl) ?_
    refine GL_step rfl (PS_load rfl tys23 (.tail _ (.head _)) LineV.l3 rfl rfl) ?_
    refine GL_step rfl (PS_idxS is23 (by decide) (Kn.old r0) rfl rfl (by omega) (by omega)) ?_
    refine GL_step rfl (PS_ldStr rfl tys9 (Kn.old r0) (by simp)) ?_
    refine GL_step rfl (PS_assign rfl) ?_
    refine GL_nil ?_
    refine GQ_sub (.cons (k := 1) rfl (.cons (k := 2) rfl (.cons (k := 5) rfl (.nil _)))) ?_
    refine GQ_then ?_
    refine G_seq ?_
    refine G_region ?_
    refine GL_step rfl (PS_fieldAddr fa25_3 rfl) ?_
    refine GL_step rfl (PS_load rfl tys23 (.tail _ (.head _)) LineV.l3 rfl rfl) ?_
    refine GL_step rfl (PS_subHl Try.underlying23 sz9 rfl rfl (by decide) (by omega)) ?_
    refine GL_callR rfl cf49 (.cons rfl .nil) .nil (slices_Clone_string_string_spec _ r (by omega)) (fun w hS => by have h := (Kn.cut (l := 1) (r := l.queue.len) flS (Kn.old r0) (by omega) (Nat.le_refl _) (KnC.of k0)) w hS; rw [show (((q :: r).take l.queue.len).drop 1) = r from by rw [List.take_of_length_le (by simp; omega)]; rfl] at h; exact h) (fun v2 B hv => ?_)
    obtain ⟨y3, rfl, y4, rfl⟩ := hv
    refine GL_step rfl (PS_fieldAddr fa25_3 rfl) ?_
    refine GL_unit (PU_store LineV.l3 rfl rfl rfl sz23 rfl (.tail (.tail .head))) ?_
    refine GL_nil ?_
    refine GQ_sub (.cons (k := 1) rfl (.cons (k := 2) rfl (.cons (k := 5) rfl (.nil _)))) ?_
    refine GQ_then ?_
    refine G_seq ?_
    refine G_region ?_
    refine GL_step rfl (PS_loadA rfl tya25 (.tail _ (.tail _ (.head _))) (Lens.id LineV.fl.len LineV.fl.one) rfl) ?_
    refine GL_step rfl (PS_move rfl) ?_
    refine GL_unit (PU_store (Lens.id LineV.fl.len LineV.fl.one) rfl rfl rfl sz25 rfl (.tail .head)) ?_
    refine GL_step rfl (PS_assign rfl) ?_
    refine GL_step rfl (PS_assign rfl) ?_
    refine GL_nil ?_
    refine GQ_sub (.cons (k := 2) rfl (.cons (k := 3) rfl (.cons (k := 4) rfl (.nil _)))) ?_
    refine GQ_then ?_
    refine G_ret ?_
    refine GQ_ret rfl (.cell rfl (.tail _ (.head _)) (.inl ⟨(by rw [LineV.fl.len]; exact tya25), rfl⟩) (.tmp rfl (.tmp rfl .nil))) ?_
    intro w1 hS
    have hS := (hS.perm (Pulls.perm (.cons .head .nil))).headL
    exact ⟨_, .inr ⟨q, r, rfl, _, rfl, by assumption, rfl⟩, hS⟩
theorem keep_LineWhole_spec {t0 : Nat} (h : Hd) (xs : List Str) (e : Int) (hx : xs.length ≤ 9223372036854775807) (hs : ∀ s ∈ xs, s.length ≤ 9223372036854775807) (w : World) (r0 : Rd w h t0 1 (xs.flatMap encS)) : Ret Try.prog 7 #[h.val, .int .i64 e] w fun v w' => v = .bool true ∧ Keep w w' := by
  have hl0 := r0.len1 flS (by decide)
  have hp := Line.pick_rng (k := e) (n := 4) (by decide)
  have hwl := Line.way_len (Line.pick e 4)
  refine Ret_body [] [] Try.func7 rfl rfl rfl (St.start w []) ?_
  refine G_seq ?_
  refine G_region ?_
  refine GL_step rfl (PS_assign rfl) ?_
  refine GL_nil ?_
  refine GQ_sub (.cons (k := 0) rfl (.cons (k := 1) rfl (.nil _))) ?_
  refine GQ_then ?_
  refine G_seq ?_
  refine G_region ?_
  refine GL_step rfl (PS_buildA Try.underlying39 sz9 zv39 rfl (.cons (Lens.arr (n := 4) (i := 0) flS (by decide) (by decide)) rfl rfl rfl (.cons (Lens.arr (n := 4) (i := 1) flS (by decide) (by decide)) rfl rfl rfl (.cons (Lens.arr (n := 4) (i := 2) flS (by decide) (by decide)) rfl rfl rfl (.cons (Lens.arr (n := 4) (i := 3) flS (by decide) (by decide)) rfl rfl rfl .nil))))) ?_
  refine GL_step rfl (PS_move rfl) ?_
  refine GL_pure rfl cf18 (.cons rfl (.cons rfl .nil)) (fun w hS => keep_pick_spec _ _ (by first | assumption | omega) (by first | assumption | omega) w) ?_
  refine GL_step rfl (PS_conv (PS_indexA flS Try.underlying39 sz9 tys9 rfl rfl hp.1 hp.2 rfl) (Line.way_at hp.1 hp.2)) ?_
  refine GL_step rfl (PS_assign rfl) ?_
  refine GL_nil ?_
  refine GQ_sub (.cons (k := 0) rfl (.cons (k := 5) rfl (.nil _))) ?_
  refine GQ_then ?_
  refine G_seq ?_
  refine G_region ?_
  refine GL_step rfl (PS_assign rfl) ?_
  refine GL_nil ?_
  refine GQ_then ?_
  refine G_seq ?_
  refine G_region ?_
  refine GL_step rfl (PS_assign rfl) ?_
  refine GL_nil ?_
  refine GQ_then ?_
  refine G_seq ?_
  refine G_seq ?_
  refine G_region ?_
  refine GL_step rfl (PS_assign rfl) ?_
  refine GL_nil ?_
  refine GQ_then ?_
  refine G_block ?_
  refine G_subF (.cons (k := 6) rfl (.cons (k := 7) rfl (.cons (k := 8) rfl (.cons (k := 0) rfl (.cons (k := 5) rfl (.nil _)))))) ?_
  refine G_nilF encS 9 1 ?_
  refine G_loop4_ (fun (k : Int) (t : Str) (ws : List Str) (g : Hd) => 0 ≤ k ∧ k ≤ xs.length ∧ k ≤ 6 ∧ g.len = ws.length ∧ ws = xs.take k.toNat ∧ t = Line.typed (Line.way (Line.pick e 4)) ws ∧ (∀ s ∈ ws, Line.strOk s = true) ∧ ws.length = k.toNat) (fun (k : Int) (t : Str) (ws : List Str) (g : Hd) => ((xs.length : Int) - k).toNat) (fun (k : Int) (t : Str) (ws : List Str) (g : Hd) => [(6, vstr t), (7, g.val), (8, .int .i64 k)]) (fun (k : Int) (t : Str) (ws : List Str) (g : Hd) => [Res.own g 9 1 (ws.flatMap encS)]) (0) ([]) ([]) (_) ?_ rfl rfl (fun k t ws g hI1 => ?_)
  · exact ⟨by omega, by omega, by omega, rfl, rfl, rfl, fun s hs => by simp at hs, rfl⟩
  obtain ⟨hI11, hI12, hI13, hI14, hI15, hI16, hI17, hI18⟩ := hI1
  refine G_seq ?_
  refine G_seq ?_
  refine G_region ?_
  refine GL_step rfl (PS_move rfl) ?_
  refine GL_step rfl (PS_move rfl) ?_
  refine GL_step rfl (PS_len_slice rfl Try.underlying23 rfl) ?_
  refine GL_step rfl (PS_lss rfl rfl) ?_
  refine GL_step rfl (PS_move rfl) ?_
  refine GL_gt (t := 26) rfl rfl rfl (fun q => PS_move rfl) ?_
  refine GL_gt (t := 26) rfl rfl rfl (fun q => PS_lss (cvE rfl q) rfl) ?_
  refine GL_step rfl (PS_and rfl rfl (fun h => h)) ?_
  refine GL_nil ?_
  refine GQ_sub (.cons (k := 0) rfl (.cons (k := 5) rfl (.cons (k := 6) rfl (.cons (k := 7) rfl (.cons (k := 8) rfl (.cons (k := 29) rfl (.nil _))))))) ?_
  refine GQ_then ?_
  refine G_cond rfl (fun c1 => ?_) (fun c1 => ?_)
  · skip
    have c1p := c1
    try simp only [decide_eq_true_eq, decide_eq_false_iff_not, Bool.not_eq_true', Bool.not_eq_false', Bool.or_eq_true, Bool.and_eq_true, Bool.or_eq_false_iff, Bool.and_eq_false_iff, Int.not_lt, Int.not_le] at c1p
    have htl := Line.typed_len hwl ws hI17
    rw [← hI16] at htl
    have hk : k < 6 ∧ k < xs.length := by simp at c1; omega
    refine G_skip ?_
    refine GQ_sub (.cons (k := 0) rfl (.cons (k := 5) rfl (.cons (k := 6) rfl (.cons (k := 7) rfl (.cons (k := 8) rfl (.nil _)))))) ?_
    refine GQ_then ?_
    refine G_seq ?_
    refine G_block ?_
    refine G_seq ?_
    refine G_seq ?_
    refine G_region ?_
    refine GL_step rfl (PS_move rfl) ?_
    refine GL_step rfl (PS_move rfl) ?_
    refine GL_step rfl (PS_idxS is23 (by decide) (Kn.old r0) rfl rfl (by omega) (by omega)) ?_
    refine GL_step rfl (PS_ldStr rfl tys9 (Kn.old r0) (by omega)) ?_
    refine GL_pure rfl cf17 (.cons rfl .nil) (fun w hS => keep_clean_spec _ (Line.getD_le hs _) w) ?_
    refine GL_step rfl (PS_not rfl) ?_
    refine GL_nil ?_
    refine GQ_sub (.cons (k := 0) rfl (.cons (k := 5) rfl (.cons (k := 6) rfl (.cons (k := 7) rfl (.cons (k := 8) rfl (.cons (k := 37) rfl (.nil _))))))) ?_
    refine GQ_then ?_
    refine G_cond rfl (fun c2 => ?_) (fun c2 => ?_)
    · skip
      have c2p := c2
      try simp only [decide_eq_true_eq, decide_eq_false_iff_not, Bool.not_eq_true', Bool.not_eq_false', Bool.or_eq_true, Bool.and_eq_true, Bool.or_eq_false_iff, Bool.and_eq_false_iff, Int.not_lt, Int.not_le] at c2p
      refine G_seq ?_
      refine G_region ?_
      refine GL_pure rfl cf14 .nil (fun w hS => keep_reads_spec w) ?_
      refine GL_step rfl (PS_assign rfl) ?_
      refine GL_nil ?_
      refine GQ_sub (.cons (k := 4) rfl (.nil _)) ?_
      refine GQ_then ?_
      refine G_ret ?_
      refine GQ_then_ret ?_
      refine GQ_block_ret ?_
      refine GQ_then_ret ?_
      refine GQ_then_ret ?_
      refine GQ_block_ret ?_
      refine GQ_then_ret ?_
      refine GQ_ret rfl (.tmp rfl .nil) ?_
      intro w1 hS; refine ⟨?_, hS.toKeep⟩; rfl
    · skip
      have c2p := c2
      try simp only [decide_eq_true_eq, decide_eq_false_iff_not, Bool.not_eq_true', Bool.not_eq_false', Bool.or_eq_true, Bool.and_eq_true, Bool.or_eq_false_iff, Bool.and_eq_false_iff, Int.not_lt, Int.not_le] at c2p
      have hs2 : Line.strOk (xs.getD k.toNat []) = true := (Line.cleanK_iff _).1 (by simpa using c2)
      have hsl := ((Line.strOk_iff _).1 hs2).1
      refine G_skip ?_
      refine GQ_sub (.cons (k := 0) rfl (.cons (k := 5) rfl (.cons (k := 6) rfl (.cons (k := 7) rfl (.cons (k := 8) rfl (.nil _)))))) ?_
      refine GQ_then ?_
      refine G_seq ?_
      refine G_region ?_
      refine GL_step rfl (PS_move rfl) ?_
      refine GL_step rfl (PS_move rfl) ?_
      refine GL_step rfl (PS_move rfl) ?_
      refine GL_step rfl (PS_idxS is23 (by decide) (Kn.old r0) rfl rfl (by omega) (by omega)) ?_
      refine GL_step rfl (PS_ldStr rfl tys9 (Kn.old r0) (by omega)) ?_
      refine GL_bs1F encS flS rfl Try.underlying23 sz9 zv9 rfl (by decide) (by decide) rfl rfl (fun b1 => ?_)
      refine GL_appendF flS rfl Try.underlying23 sz9 zv9 rfl by9 (by decide) (by decide) rfl rfl (fun w hS => Src.sliceT Try.underlying23 ((Kn.own (.head _)) w hS)) (by (try dsimp only); omega) (fun _ => (.tail .head)) (fun h1 h1l h1z => ?_)
      refine GL_step rfl (PS_assign rfl) ?_
      refine GL_nil ?_
      refine GQ_sub (.cons (k := 0) rfl (.cons (k := 5) rfl (.cons (k := 6) rfl (.cons (k := 7) rfl (.cons (k := 8) rfl (.nil _)))))) ?_
      refine GQ_then ?_
      refine G_region ?_
      refine GL_step rfl (PS_move rfl) ?_
      refine GL_step rfl (PS_move rfl) ?_
      refine GL_step rfl (PS_move rfl) ?_
      refine GL_step rfl (PS_idxS is23 (by decide) (Kn.old r0) rfl rfl (by omega) (by omega)) ?_
      refine GL_step rfl (PS_ldStr rfl tys9 (Kn.old r0) (by omega)) ?_
      refine GL_step rfl (PS_move rfl) ?_
      refine GL_step rfl (PS_add_str rfl rfl (by first | omega | (simp only [List.length_append] <;> omega))) ?_
      refine GL_step rfl (PS_add_str rfl rfl (by first | omega | (simp only [List.length_append] <;> omega))) ?_
      refine GL_step rfl (PS_assign rfl) ?_
      refine GL_nil ?_
      refine GQ_sub (.cons (k := 0) rfl (.cons (k := 5) rfl (.cons (k := 6) rfl (.cons (k := 7) rfl (.cons (k := 8) rfl (.nil _)))))) ?_
      refine GQ_block ?_
      refine GQ_then ?_
      refine G_region ?_
      refine GL_step rfl (PS_move rfl) ?_
      refine GL_step rfl (PS_add rfl rfl (IntWalk.i64_in _ (by first | omega | (simp only [List.length_append] <;> omega)))) ?_
      refine GL_step rfl (PS_assign rfl) ?_
      refine GL_nil ?_
      refine GQ_sub (.cons (k := 0) rfl (.cons (k := 5) rfl (.cons (k := 6) rfl (.cons (k := 7) rfl (.cons (k := 8) rfl (.nil _)))))) ?_
      refine GQ_next4_ (k + 1) _ _ _ ?_ ?_ (.cons (k := 6) rfl (.cons (k := 7) rfl (.cons (k := 8) rfl (.cons (k := 0) rfl (.cons (k := 5) rfl (.nil _)))))) (.cons _ (.refl _))
      · refine ⟨by omega, by omega, by omega, (by (try dsimp only at *) <;> (try simp only [List.length_append, List.length_cons, List.length_nil]) <;> omega), by rw [Line.take_snoc hI11 hk.2, ← hI15], by rw [Line.typed_snoc, ← hI16], fun s hs => ?_, by simp only [List.length_append, List.length_cons, List.length_nil]; omega⟩
        rcases List.mem_append.1 hs with hs | hs
        · exact hI17 s hs
        · simp only [List.mem_singleton] at hs; rw [hs]; exact hs2
      · omega
  · skip
    have c1p := c1
    try simp only [decide_eq_true_eq, decide_eq_false_iff_not, Bool.not_eq_true', Bool.not_eq_false', Bool.or_eq_true, Bool.and_eq_true, Bool.or_eq_false_iff, Bool.and_eq_false_iff, Int.not_lt, Int.not_le] at c1p
    have htl := Line.typed_len hwl ws hI17
    rw [← hI16] at htl
    have hwt : Line.Wait (Line.way (Line.pick e 4)) (Line.feed (Line.start ⟨[], false, false, ⟨none, 0, 0⟩⟩ []) t) ws := by rw [hI16]; exact Line.whole (Line.way_ends (Line.pick e 4)) (by omega) hI17
    refine G_exit ?_
    refine GQ_then_exit ?_
    refine GQ_then_exit ?_
    refine GQ_block_exit ?_
    refine GQ_sub (.cons (k := 6) rfl (.cons (k := 7) rfl (.nil _))) ?_
    refine GQ_then ?_
    refine G_seq ?_
    refine G_region ?_
    refine GL_step rfl (PS_build pl25 zv25 rfl .nil) ?_
    refine GL_step rfl (PS_move rfl) ?_
    refine GL_callR rfl cf13 (.cons rfl (.cons rfl .nil)) .nil (line_Feed_spec (t0 := 0) ⟨[], false, false, ⟨none, 0, 0⟩⟩ [] _ (by omega)) (fun w hS => (fun w _ => Rd.nil w _ _) w hS) (fun v2 B hv => ?_)
    rcases hv with ⟨y3, rfl, rfl⟩ | ⟨y4, y5, rfl, y6, rfl⟩
    · exact absurd y3 (by decide)
    · skip
      refine GL_step rfl (PS_move rfl) ?_
      refine GL_step rfl (PS_extract rfl rfl) ?_
      refine GL_step rfl (PS_extract rfl rfl) ?_
      refine GL_step rfl (PS_extract rfl rfl) ?_
      refine GL_alloc rfl zv25 rfl (fun b2 => ?_)
      refine GL_unit (PU_store (Lens.id LineV.fl.len LineV.fl.one) rfl rfl rfl sz25 rfl .head) ?_
      refine GL_step rfl (PS_assign rfl) ?_
      refine GL_step rfl (PS_assign rfl) ?_
      refine GL_nil ?_
      refine GQ_sub (.cons (k := 7) rfl (.cons (k := 9) rfl (.cons (k := 10) rfl (.cons (k := 11) rfl (.nil _))))) ?_
      refine GQ_then ?_
      refine G_seq ?_
      refine G_seq ?_
      refine G_region ?_
      refine GL_step rfl (PS_move rfl) ?_
      refine GL_step rfl (PS_neq rfl rfl) ?_
      refine GL_step rfl (PS_move rfl) ?_
      refine GL_gf (t := 63) rfl rfl rfl (fun q => PS_move rfl) ?_
      refine GL_gf (t := 63) rfl rfl rfl (fun q => PS_neq (cvE rfl (by rw [q]; rfl)) rfl) ?_
      refine GL_step rfl (PS_or rfl rfl (fun h => by rw [h]; rfl)) ?_
      refine GL_step rfl (PS_move rfl) ?_
      refine GL_gf (t := 67) rfl rfl rfl (fun q => PS_fieldAddr fa25_3 rfl) ?_
      refine GL_gf (t := 67) rfl rfl rfl (fun q => PS_load (cvE rfl (by rw [q]; rfl)) tys23 (.head _) LineV.l3 rfl rfl) ?_
      refine GL_gf (t := 67) rfl rfl rfl (fun q => PS_move rfl) ?_
      refine GL_pgf (t := 67) rfl rfl rfl (fun q => by have q1 := q; (try simp at q1); exact PC_of cf26 (.cons (cvE rfl (by rw [q]; rfl)) (.cons (cvE rfl (by rw [q]; rfl)) .nil)) (fun w hS => keep_sameTexts_spec _ _ _ _ (by rw [hwt.queue]; omega) w ((Kn.own (.tail _ (.head _))) w hS) ((Kn.own (.tail _ (.tail _ (.head _)))) w hS))) ?_
      refine GL_gf (t := 67) rfl rfl rfl (fun q => PS_not (cvE rfl (by rw [q]; rfl))) ?_
      refine GL_step rfl (PS_or rfl rfl (fun h => by rw [h]; rfl)) ?_
      refine GL_step rfl (PS_move rfl) ?_
      refine GL_gf (t := 74) rfl rfl rfl (fun q => PS_fieldAddr fa25_0 rfl) ?_
      refine GL_gf (t := 74) rfl rfl rfl (fun q => PS_load (cvE rfl (by rw [q]; rfl)) tys9 (.head _) LineV.l0 rfl rfl) ?_
      refine GL_gf (t := 74) rfl rfl rfl (fun q => PS_neq_str (cvE rfl (by rw [q]; rfl)) rfl) ?_
      refine GL_step rfl (PS_or rfl rfl (fun h => by rw [h]; rfl)) ?_
      refine GL_step rfl (PS_move rfl) ?_
      refine GL_pgf (t := 79) rfl rfl rfl (fun q => PC_of cf14 .nil (fun w hS => keep_reads_spec w)) ?_
      refine GL_gf (t := 79) rfl rfl rfl (fun q => PS_not (cvE rfl (by rw [q]; rfl))) ?_
      refine GL_step rfl (PS_or rfl rfl (fun h => by rw [h]; rfl)) ?_
      refine GL_nil ?_
      refine GQ_sub (.cons (k := 7) rfl (.cons (k := 9) rfl (.cons (k := 82) rfl (.nil _)))) ?_
      refine GQ_then ?_
      refine G_false rfl (Line.whole_cond hwt) ?_
      refine G_skip ?_
      refine GQ_sub (.cons (k := 7) rfl (.cons (k := 9) rfl (.nil _))) ?_
      refine GQ_then ?_
      refine G_seq ?_
      refine G_seq ?_
      refine G_region ?_
      refine GL_step rfl (PS_move rfl) ?_
      refine GL_step rfl (PS_len_slice rfl Try.underlying23 rfl) ?_
      refine GL_step rfl (PS_move rfl) ?_
      refine GL_nil ?_
      refine GQ_sub (.cons (k := 7) rfl (.cons (k := 9) rfl (.cons (k := 84) rfl (.cons (k := 85) rfl (.nil _))))) ?_
      refine GQ_then ?_
      refine G_block ?_
      refine G_subF (.cons (k := 85) rfl (.cons (k := 7) rfl (.cons (k := 9) rfl (.cons (k := 84) rfl (.nil _))))) ?_
      refine G_pull (.tail .head) ?_
      refine G_pull (.tail .head) ?_
      refine G_loop3_ (fun (i : Int) (f : Hd) (rest : List Str) => 0 ≤ i ∧ i ≤ ws.length ∧ rest = ws.drop i.toNat ∧ f.len = rest.length ∧ rest.length ≤ 6) (fun (i : Int) (f : Hd) (rest : List Str) => ((ws.length : Int) - i).toNat) (fun (i : Int) (f : Hd) (rest : List Str) => [(85, .int .i64 i)]) (fun (i : Int) (f : Hd) (rest : List Str) => [Res.box b2 25 (LineV.enc ⟨(Line.feed (Line.start ⟨[], false, false, ⟨none, 0, 0⟩⟩ []) t).now, (Line.feed (Line.start ⟨[], false, false, ⟨none, 0, 0⟩⟩ []) t).long, (Line.feed (Line.start ⟨[], false, false, ⟨none, 0, 0⟩⟩ []) t).ret, f⟩), Res.own f 9 1 (rest.flatMap encS)]) (0) (_) (_) ?_ rfl rfl (fun i f rest hI2 => ?_)
      · exact ⟨by omega, by omega, hwt.queue, by assumption, by rw [hwt.queue]; omega⟩
      obtain ⟨hI21, hI22, hI23, hI24, hI25⟩ := hI2
      refine G_seq ?_
      refine G_region ?_
      refine GL_step rfl (PS_lss rfl rfl) ?_
      refine GL_nil ?_
      refine GQ_then ?_
      refine G_seq ?_
      refine G_cond rfl (fun c3 => ?_) (fun c3 => ?_)
      · skip
        have c3p := c3
        try simp only [decide_eq_true_eq, decide_eq_false_iff_not, Bool.not_eq_true', Bool.not_eq_false', Bool.or_eq_true, Bool.and_eq_true, Bool.or_eq_false_iff, Bool.and_eq_false_iff, Int.not_lt, Int.not_le] at c3p
        refine G_skip ?_
        refine GQ_sub (.cons (k := 7) rfl (.cons (k := 9) rfl (.cons (k := 84) rfl (.cons (k := 85) rfl (.nil _))))) ?_
        refine GQ_then ?_
        refine G_seq ?_
        refine G_block ?_
        refine G_seq ?_
        refine G_region ?_
        refine GL_step rfl (PS_move rfl) ?_
        refine GL_step rfl (PS_assign rfl) ?_
        refine GL_nil ?_
        refine GQ_sub (.cons (k := 7) rfl (.cons (k := 9) rfl (.cons (k := 12) rfl (.cons (k := 84) rfl (.cons (k := 85) rfl (.nil _)))))) ?_
        refine GQ_then ?_
        refine G_seq ?_
        refine G_region ?_
        refine GL_step rfl (PS_assign rfl) ?_
        refine GL_nil ?_
        refine GQ_sub (.cons (k := 7) rfl (.cons (k := 9) rfl (.cons (k := 12) rfl (.cons (k := 84) rfl (.cons (k := 85) rfl (.nil _)))))) ?_
        refine GQ_then ?_
        refine G_seq ?_
        refine G_region ?_
        refine GL_step rfl (PS_assign rfl) ?_
        refine GL_nil ?_
        refine GQ_sub (.cons (k := 7) rfl (.cons (k := 9) rfl (.cons (k := 12) rfl (.cons (k := 84) rfl (.cons (k := 85) rfl (.nil _)))))) ?_
        refine GQ_then ?_
        refine G_seq ?_
        refine G_region ?_
        refine GL_step rfl (PS_loadA rfl tya25 (.head _) (Lens.id LineV.fl.len LineV.fl.one) rfl) ?_
        refine GL_callR rfl cf23 (.cons rfl .nil) .nil (line_Next_spec _ rest (by omega)) (fun w hS => ⟨(Kn.own (.tail _ (.head _))) w hS, (KnC.own (.tail _ (.head _))) w hS⟩) (fun v8 B hv => ?_)
        rcases hv with ⟨y9, rfl, rfl⟩ | ⟨y10, y11, y12, y13, rfl, y14, rfl⟩
        · exact absurd y9 (by rw [hI23, Line.drop_cons hI21 (by omega)]; simp)
        · skip
          refine GL_step rfl (PS_move rfl) ?_
          refine GL_step rfl (PS_extract rfl rfl) ?_
          refine GL_step rfl (PS_extract rfl rfl) ?_
          refine GL_step rfl (PS_extract rfl rfl) ?_
          refine GL_unit (PU_store (Lens.id LineV.fl.len LineV.fl.one) rfl rfl rfl sz25 rfl (.tail .head)) ?_
          refine GL_step rfl (PS_assign rfl) ?_
          refine GL_step rfl (PS_assign rfl) ?_
          refine GL_nil ?_
          refine GQ_sub (.cons (k := 7) rfl (.cons (k := 9) rfl (.cons (k := 12) rfl (.cons (k := 13) rfl (.cons (k := 14) rfl (.cons (k := 84) rfl (.cons (k := 85) rfl (.nil _)))))))) ?_
          refine GQ_then ?_
          refine G_seq ?_
          refine G_region ?_
          refine GL_step rfl (PS_move rfl) ?_
          refine GL_step rfl (PS_not rfl) ?_
          refine GL_step rfl (PS_move rfl) ?_
          refine GL_gf (t := 96) rfl rfl rfl (fun q => PS_move rfl) ?_
          refine GL_gf (t := 96) rfl rfl rfl (fun q => PS_move rfl) ?_
          refine GL_gf (t := 96) rfl rfl rfl (fun q => PS_move rfl) ?_
          refine GL_gf (t := 96) rfl rfl rfl (fun q => by have q1 := q; (try simp at q1); exact PS_idxS is23 (by decide) (Kn.own (.tail _ (.tail _ (.tail _ (.head _))))) (cvE rfl (by rw [q]; rfl)) (cvE rfl (by rw [q]; rfl)) (by omega) (by omega)) ?_
          refine GL_gf (t := 96) rfl rfl rfl (fun q => by have q1 := q; (try simp at q1); exact PS_ldStr (cvE rfl (by rw [q]; rfl)) tys9 (Kn.own (.tail _ (.tail _ (.tail _ (.head _))))) (by omega)) ?_
          refine GL_gf (t := 96) rfl rfl rfl (fun q => PS_neq_str (cvE rfl (by rw [q]; rfl)) (cvE rfl (by rw [q]; rfl))) ?_
          refine GL_step rfl (PS_or rfl rfl (fun h => by rw [h]; rfl)) ?_
          refine GL_nil ?_
          refine GQ_sub (.cons (k := 7) rfl (.cons (k := 9) rfl (.cons (k := 84) rfl (.cons (k := 85) rfl (.cons (k := 103) rfl (.nil _)))))) ?_
          refine GQ_then ?_
          refine G_false rfl (by rw [← (Line.next_eq hI21 (by omega) hI23 y12).1]; simp) ?_
          refine G_skip ?_
          refine GQ_sub (.cons (k := 7) rfl (.cons (k := 9) rfl (.cons (k := 84) rfl (.cons (k := 85) rfl (.nil _))))) ?_
          refine GQ_block ?_
          refine GQ_then ?_
          refine G_region ?_
          refine GL_step rfl (PS_add rfl rfl (IntWalk.i64_in _ (by first | omega | (simp only [List.length_append] <;> omega)))) ?_
          refine GL_step rfl (PS_move rfl) ?_
          refine GL_nil ?_
          refine GQ_sub (.cons (k := 7) rfl (.cons (k := 9) rfl (.cons (k := 84) rfl (.cons (k := 85) rfl (.nil _))))) ?_
          refine GQ_pulls (.cons (.tail .head) (.cons .head (.cons (.tail .head) .nil))) ?_
          refine GQ_dropr ?_
          refine GQ_next3_ (i + 1) _ _ ?_ ?_ (.cons (k := 85) rfl (.cons (k := 7) rfl (.cons (k := 9) rfl (.cons (k := 84) rfl (.nil _))))) (.refl _)
          · exact ⟨by omega, by omega, (Line.next_eq hI21 (by omega) hI23 y12).2, by assumption, by rw [y12, List.length_cons] at hI25; omega⟩
          · omega
      · skip
        have c3p := c3
        try simp only [decide_eq_true_eq, decide_eq_false_iff_not, Bool.not_eq_true', Bool.not_eq_false', Bool.or_eq_true, Bool.and_eq_true, Bool.or_eq_false_iff, Bool.and_eq_false_iff, Int.not_lt, Int.not_le] at c3p
        refine G_exit ?_
        refine GQ_then_exit ?_
        refine GQ_then_exit ?_
        refine GQ_block_exit ?_
        refine GQ_sub (.cons (k := 9) rfl (.nil _)) ?_
        refine GQ_then ?_
        refine G_seq ?_
        refine G_region ?_
        refine GL_step rfl (PS_loadA rfl tya25 (.head _) (Lens.id LineV.fl.len LineV.fl.one) rfl) ?_
        refine GL_callR rfl cf23 (.cons rfl .nil) .nil (line_Next_spec _ rest (by omega)) (fun w hS => ⟨(Kn.own (.tail _ (.head _))) w hS, (KnC.own (.tail _ (.head _))) w hS⟩) (fun v16 B hv => ?_)
        rcases hv with ⟨y17, rfl, rfl⟩ | ⟨y18, y19, y20, y21, rfl, y22, rfl⟩
        · skip
          refine GL_step rfl (PS_move rfl) ?_
          refine GL_step rfl (PS_extract rfl rfl) ?_
          refine GL_step rfl (PS_extract rfl rfl) ?_
          refine GL_step rfl (PS_extract rfl rfl) ?_
          refine GL_alloc rfl zv25 rfl (fun b3 => ?_)
          refine GL_unit (PU_store (Lens.id LineV.fl.len LineV.fl.one) rfl rfl rfl sz25 rfl .head) ?_
          refine GL_step rfl (PS_assign rfl) ?_
          refine GL_step rfl (PS_assign rfl) ?_
          refine GL_nil ?_
          refine GQ_sub (.cons (k := 17) rfl (.nil _)) ?_
          refine GQ_then ?_
          refine G_seq ?_
          refine G_region ?_
          refine GL_step rfl (PS_move rfl) ?_
          refine GL_step rfl (PS_not rfl) ?_
          refine GL_step rfl (PS_assign rfl) ?_
          refine GL_nil ?_
          refine GQ_sub (.cons (k := 4) rfl (.nil _)) ?_
          refine GQ_then ?_
          refine G_ret ?_
          refine GQ_ret rfl (.tmp rfl .nil) ?_
          intro w1 hS; refine ⟨?_, hS.toKeep⟩; rfl
        · exact absurd y20 (by rw [hI23, List.drop_eq_nil_of_le (by omega)]; simp)
set_option maxRecDepth 100000 in
theorem lineWhole_lifted (os : Os) (started : os.Started) (H : Type) (enc : TypeId × Value → H) :
    ReturnsInHanded {} Try.checked os 7 .any (Rows.lineWholeSpec.pre6 enc Try.prog Try.f7 Rows.lineWholeRow.domain false) (Rows.lineWholeSpec.post enc Try.prog Try.f7 false true false false) := by
  refine returnsInHanded_of_change_sized (C := Try.checked) own started (by kernel_rfl) Try.func7
    (ChangeSpec.witness6 (enc := enc) (C := Try.checked) false ⟨#[], #[.slice none 0 0, .int .i64 0], []⟩ 8 (by kernel_rfl) (by kernel_rfl) (by kernel_rfl) (by kernel_rfl)) ?_
  intro W base args ds gs before hval hW _ hsz _
  refine law_post (B := 4) laidOut (by kernel_rfl) Try.underlying4 (by kernel_rfl) rfl (fun ds h => by rw [Try.params7] at h; match ds, h with | [d1, d2], _ => rfl) hW ?_
  obtain ⟨p, q, hA, hV, _, _, _⟩ := hW
  rw [Try.params7] at hA
  obtain ⟨v0, vs0, d0, ds0, p0, q0, hv0, rfl, rfl, hd0, hA⟩ := trodAll_cons hA
  obtain ⟨v1, vs1, d1, ds1, p1, q1, hv1, rfl, rfl, hd1, hA⟩ := trodAll_cons hA
  obtain ⟨hvn, rfl, rfl⟩ := trodAll_nil hA
  obtain rfl : args = #[v0, v1] := by cases args; simp_all
  obtain ⟨h, rfl, w0⟩ := open_sl Try.underlying23 (hval 0 _ _ rfl rfl) (by kernel_rfl) (by decide) flS dc9 hd0
  obtain ⟨e, rfl, rfl, rfl, w1⟩ := open_int Try.underlying3 (hval 1 _ _ rfl rfl) hd1
  have w1 := bounds_i64 w1
  obtain ⟨_, xs, r0, hl0, k0, hm0, hw0⟩ := w0
  exact keep_LineWhole_spec _ _ _ (by omega) (by exact hw0) W r0
theorem lineWhole_holds : Rows.LineWholeSaid :=
  OpenClaim.holds_of_wide 7 Try.f7 rfl rfl rfl rfl rfl rfl rfl ⟨rfl, rfl, rfl, rfl, rfl⟩ rfl rfl rfl rfl rfl (by kernel_rfl) Try.func7 (by kernel_rfl)
    (of_decide_eq_true (by kernel_rfl)) (by unfold Func.isWrapper; first | (rw [if_pos (by decide +kernel)]; kernel_rfl) | (rw [if_neg (by decide +kernel)]; exact ⟨rfl, rfl⟩))
    (fun os started H enc _ => lineWhole_lifted os started H enc)
end Go.Proofs.Ytnpbkbianmogoaa
