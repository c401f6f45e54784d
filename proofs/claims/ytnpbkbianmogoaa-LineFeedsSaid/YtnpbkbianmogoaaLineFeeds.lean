/- For every input the law LineFeeds returns true. No condition. -/
import Derived.Test.YtnpbkbianmogoaaRows
import Derived.Test.YtnpbkbianmogoaaEc2
import Derived.Test.YtnpbkbianmogoaaLineFeedsPlain
set_option linter.unusedSimpArgs false
set_option linter.unusedVariables false
set_option maxRecDepth 100000
namespace Go.Proofs.Ytnpbkbianmogoaa
open Go Go.Ing Go.RowKit Go.ChangeShapes Go.WideShapes Go.ChangeAt
theorem own : ownKnob Try.prog.godebug = none := by kernel_rfl
theorem laidOut : laidOutB Try.prog = true := by kernel_rfl
theorem zv25 : ZV Try.prog 25 (.agg (LineV.enc ⟨[], false, false, ⟨none, 0, 0⟩⟩).toArray) := ZV_of (by kernel_rfl)
theorem sz23 : Sz Try.prog 23 1 := Sz_of (by kernel_rfl)
theorem fa25_3 : FA Try.prog 25 3 3 := FA_of Try.underlying25 rfl sz23
theorem tys23 : TyS Try.prog 23 := TyS_of Try.underlying23 rfl
theorem sz9 : Sz Try.prog 9 1 := Sz_of (by kernel_rfl)
theorem zv9 : ZV Try.prog 9 (vstr []) := ZV_of (by kernel_rfl)
theorem by9 : BY Try.prog 9 16 := BY_of (by kernel_rfl)
theorem sz25 : Sz Try.prog 25 4 := Sz_of (by kernel_rfl)
theorem tya25 : TyA Try.prog 25 4 := TyA_of Try.underlying25 rfl sz25
theorem fa25_0 : FA Try.prog 25 0 0 := FA_of Try.underlying25 rfl sz9
theorem tys9 : TyS Try.prog 9 := TyS_of Try.underlying9 rfl
theorem sz4 : Sz Try.prog 4 1 := Sz_of (by kernel_rfl)
theorem fa25_1 : FA Try.prog 25 1 1 := FA_of Try.underlying25 rfl sz4
theorem tys4 : TyS Try.prog 4 := TyS_of Try.underlying4 rfl
theorem fa25_2 : FA Try.prog 25 2 2 := FA_of Try.underlying25 rfl sz4
theorem mix : Try.prog.follows .mixedOrders = true := by kernel_rfl
theorem cf49 : CF Try.prog 49 := Try.call49
theorem is23 : IS Try.prog 23 1 := IS_of Try.underlying23 sz9
theorem cf50 : CF Try.prog 50 := Try.call50
theorem cf16 : CF Try.prog 16 := Try.call16
theorem sz5 : Sz Try.prog 5 1 := Sz_of (by kernel_rfl)
theorem zv5 : ZV Try.prog 5 (.int .u8 0) := ZV_of (by kernel_rfl)
theorem by5 : BY Try.prog 5 1 := BY_of (by kernel_rfl)
theorem is72 : IS Try.prog 72 1 := IS_of Try.underlying72 sz5
theorem tys5 : TyS Try.prog 5 := TyS_of Try.underlying5 rfl
theorem cf54 : CF Try.prog 54 := Try.call54
theorem tys3 : TyS Try.prog 3 := TyS_of Try.underlying3 rfl
theorem sz3 : Sz Try.prog 3 1 := Sz_of (by kernel_rfl)
theorem is60 : IS Try.prog 60 1 := IS_of Try.underlying60 sz3
theorem cf22 : CF Try.prog 22 := Try.call22
theorem cf19 : CF Try.prog 19 := Try.call19
theorem zv3 : ZV Try.prog 3 (.int .i64 0) := ZV_of (by kernel_rfl)
theorem cf51 : CF Try.prog 51 := Try.call51
theorem cf52 : CF Try.prog 52 := Try.call52
theorem cf53 : CF Try.prog 53 := Try.call53
theorem pl25 : Places Try.prog 25 [(0, 1), (1, 1), (2, 1), (3, 1)] := ⟨_, Try.underlying25, fun w => by simp [sz9 w, sz4 w, sz23 w]⟩
theorem cf13 : CF Try.prog 13 := Try.call13
theorem cf20 : CF Try.prog 20 := Try.call20
theorem cf21 : CF Try.prog 21 := Try.call21
theorem cf23 : CF Try.prog 23 := Try.call23
theorem cf24 : CF Try.prog 24 := Try.call24
theorem cf25 : CF Try.prog 25 := Try.call25
theorem dc9 {H : Type} {enc : TypeId × Value → H} {w : World} : Dc H enc Try.prog w (encS) wfS 9 := Dc_string Try.underlying9
theorem dc4 {H : Type} {enc : TypeId × Value → H} {w : World} : Dc H enc Try.prog w (encB) wfB 4 := Dc_bool Try.underlying4
theorem dc23 {H : Type} {enc : TypeId × Value → H} {w : World} : Dc H enc Try.prog w (encH) (wfS2 w 1 (encS) wfS) 23 := Dc_slice Try.underlying23 (by kernel_rfl) (by decide) flS dc9
theorem dc25 {H : Type} {enc : TypeId × Value → H} {w : World} : Dc H enc Try.prog w (LineV.enc) (LineV.wf (wfS2 w 1 (encS) wfS)) 25 := LineV.dc Try.underlying25 (by kernel_rfl) rfl (by kernel_rfl) dc9 rfl (by kernel_rfl) dc4 rfl (by kernel_rfl) dc4 rfl (by kernel_rfl) dc23
theorem ref_CopyLine_spec {t0 : Nat} (l : LineV) (qs : List Str) (hb : qs.length ≤ 17592186044416) : CtrR Try.prog 19 #[.agg l.enc.toArray] [] (fun w => Rd w l.queue t0 1 (qs.flatMap encS)) (fun v B => ∃ h' : Hd, v = .agg (LineV.enc ⟨l.now, l.long, l.ret, h'⟩).toArray ∧ h'.len = qs.length ∧ B = [Res.own h' 9 1 (qs.flatMap encS)]) := by
  intro w hS0 hH
  have r0 := hH
  have hl := r0.len1 flS (by decide)
  refine Ret_body _ _ Try.func19 rfl rfl rfl (hS0) ?_
  refine G_seq ?_
  refine G_region ?_
  refine GL_box rfl rfl rfl (fun b1 => ?_)
  refine GL_alloc rfl zv25 rfl (fun b2 => ?_)
  refine GL_nil ?_
  refine GQ_sub (.cons (k := 1) rfl (.cons (k := 2) rfl (.nil _))) ?_
  refine GQ_then ?_
  refine G_seq ?_
  refine G_region ?_
  refine GL_step rfl (PS_fieldAddr fa25_3 rfl) ?_
  refine GL_step rfl (PS_load rfl tys23 (.tail _ (.head _)) LineV.l3 rfl rfl) ?_
  refine GL_nilF encS 9 1 ?_
  refine GL_append0 (e := encS) rfl Try.underlying23 sz9 zv9 rfl by9 (by decide) rfl rfl (fun w hS => Src.sliceT Try.underlying23 ((Kn.old r0) w hS)) rfl rfl (by omega) (fun _ => .head) (fun h1 h1l => ?_)
  refine GL_step rfl (PS_fieldAddr fa25_3 rfl) ?_
  refine GL_unit (PU_store LineV.l3 rfl rfl rfl sz23 rfl (.tail (.tail .head))) ?_
  refine GL_nil ?_
  refine GQ_sub (.cons (k := 1) rfl (.cons (k := 2) rfl (.nil _))) ?_
  refine GQ_then ?_
  refine G_seq ?_
  refine G_region ?_
  refine GL_step rfl (PS_loadA rfl tya25 (.tail _ (.tail _ (.head _))) (Lens.id LineV.fl.len LineV.fl.one) rfl) ?_
  refine GL_unit (PU_store (Lens.id LineV.fl.len LineV.fl.one) rfl rfl rfl sz25 rfl (.tail .head)) ?_
  refine GL_nil ?_
  refine GQ_sub (.cons (k := 2) rfl (.nil _)) ?_
  refine GQ_then ?_
  refine G_ret ?_
  refine GQ_ret rfl (.cell rfl (.tail _ (.head _)) (.inl ⟨(by rw [LineV.fl.len]; exact tya25), rfl⟩) .nil) ?_
  intro w1 hS
  have hS := (hS.perm (Pulls.perm (.cons .head .nil))).headL
  exact ⟨_, ⟨_, rfl, by omega, rfl⟩, hS⟩
theorem slices_Clone_string_string_spec {t0 : Nat} (h : Hd) (xs : List Str) (hb : xs.length ≤ 17592186044416) : CtrR Try.prog 49 #[h.val] [] (fun w => Rd w h t0 1 (xs.flatMap encS)) (fun v B => ∃ h' : Hd, v = h'.val ∧ h'.len = xs.length ∧ B = [Res.own h' 9 1 (xs.flatMap encS)]) := by
  intro w hS0 hH
  have r0 := hH
  have hl := r0.len1 flS (by decide)
  refine Ret_body _ _ Try.func49 rfl rfl rfl (hS0) ?_
  refine G_seq ?_
  refine G_region ?_
  refine GL_step rfl (PS_assign rfl) ?_
  refine GL_nil ?_
  refine GQ_sub (.cons (k := 0) rfl (.nil _)) ?_
  refine GQ_then ?_
  refine G_seq ?_
  refine G_seq ?_
  refine G_region ?_
  refine GL_step rfl (PS_move rfl) ?_
  refine GL_step rfl (PS_eqs_nil Try.underlying23 rfl) ?_
  refine GL_nil ?_
  refine GQ_sub (.cons (k := 0) rfl (.cons (k := 4) rfl (.nil _))) ?_
  refine GQ_then ?_
  refine G_cond rfl (fun c1 => ?_) (fun c1 => ?_)
  · skip
    have c1p := c1
    try simp only [decide_eq_true_eq, decide_eq_false_iff_not, Bool.not_eq_true', Bool.not_eq_false', Bool.or_eq_true, Bool.and_eq_true, Bool.or_eq_false_iff, Bool.and_eq_false_iff, Int.not_lt, Int.not_le] at c1p
    refine G_seq ?_
    refine G_region ?_
    refine GL_step rfl (PS_assign rfl) ?_
    refine GL_nil ?_
    refine GQ_sub (.cons (k := 2) rfl (.nil _)) ?_
    refine GQ_then ?_
    refine G_ret ?_
    refine GQ_then_ret ?_
    refine GQ_ret rfl (.tmp rfl .nil) ?_
    intro w1 hS
    have hS := (hS.perm (Pulls.perm .nil)).headL
    have hx : xs = [] := by
      rcases xs with _ | ⟨x, xs⟩
      · rfl
      · exfalso
        obtain ⟨b, o, C, fz, e1, _⟩ := r0.2 (by simp [encS])
        rw [e1] at c1
        cases c1
    subst hx
    exact ⟨_, ⟨⟨none, 0, 0⟩, rfl, rfl, rfl⟩, hS.own_nil _ _⟩
  · skip
    have c1p := c1
    try simp only [decide_eq_true_eq, decide_eq_false_iff_not, Bool.not_eq_true', Bool.not_eq_false', Bool.or_eq_true, Bool.and_eq_true, Bool.or_eq_false_iff, Bool.and_eq_false_iff, Int.not_lt, Int.not_le] at c1p
    refine G_skip ?_
    refine GQ_sub (.cons (k := 0) rfl (.nil _)) ?_
    refine GQ_then ?_
    refine G_seq ?_
    refine G_region ?_
    refine GL_bs0F encS rfl Try.underlying23 sz9 (fun b1 => ?_)
    refine GL_step rfl (PS_move rfl) ?_
    refine GL_append0 (e := encS) rfl Try.underlying23 sz9 zv9 rfl by9 (by decide) rfl rfl (fun w hS => Src.sliceT Try.underlying23 ((Kn.old r0) w hS)) rfl rfl (by omega) (fun _ => .head) (fun h1 h1l => ?_)
    refine GL_step rfl (PS_assign rfl) ?_
    refine GL_nil ?_
    refine GQ_sub (.cons (k := 2) rfl (.nil _)) ?_
    refine GQ_then ?_
    refine G_ret ?_
    refine GQ_ret rfl (.tmp rfl .nil) ?_
    intro w1 hS
    have hS := (hS.perm (Pulls.perm (.cons .head .nil))).headL
    exact ⟨_, ⟨_, rfl, by omega, rfl⟩, hS⟩
theorem line_plain_spec (b : UInt8) (w : World) : Ret Try.prog 50 #[.int .u8 (b.toNat : Int)] w fun v w' => v = .bool (Line.plainB b) ∧ Keep w w' := by
  refine Ret_body [] [] Try.func50 rfl rfl rfl (St.start w []) ?_
  refine G_seq ?_
  refine G_region ?_
  refine GL_step rfl (PS_assign rfl) ?_
  refine GL_nil ?_
  refine GQ_sub (.cons (k := 0) rfl (.nil _)) ?_
  refine GQ_then ?_
  refine G_seq ?_
  refine G_region ?_
  refine GL_step rfl (PS_move rfl) ?_
  refine GL_step rfl (PS_geq rfl rfl) ?_
  refine GL_step rfl (PS_move rfl) ?_
  refine GL_gt (t := 5) rfl rfl rfl (fun q => PS_move rfl) ?_
  refine GL_gt (t := 5) rfl rfl rfl (fun q => PS_lss (cvE rfl q) rfl) ?_
  refine GL_step rfl (PS_and rfl rfl (fun h => h)) ?_
  refine GL_step rfl (PS_assign rfl) ?_
  refine GL_nil ?_
  refine GQ_sub (.cons (k := 2) rfl (.nil _)) ?_
  refine GQ_then ?_
  refine G_ret ?_
  refine GQ_ret rfl (.tmp rfl .nil) ?_
  intro w1 hS; refine ⟨?_, hS.toKeep⟩; rfl
theorem line_Good_spec {t0 : Nat} (l : LineV) (qs : List Str) (w : World) (r0 : Rd w l.queue t0 1 (qs.flatMap encS)) : Ret Try.prog 16 #[.agg l.enc.toArray] w fun v w' => v = .bool (Line.good l qs) ∧ Keep w w' := by
  have hl := r0.len1 flS (by decide)
  refine Ret_body [] [] Try.func16 rfl rfl rfl (St.start w []) ?_
  refine G_seq ?_
  refine G_region ?_
  refine GL_box rfl rfl rfl (fun b1 => ?_)
  refine GL_step rfl (PS_assign rfl) ?_
  refine GL_nil ?_
  refine GQ_sub (.cons (k := 1) rfl (.nil _)) ?_
  refine GQ_then ?_
  refine G_seq ?_
  refine G_seq ?_
  refine G_region ?_
  refine GL_step rfl (PS_fieldAddr fa25_0 rfl) ?_
  refine GL_step rfl (PS_load rfl tys9 (.head _) LineV.l0 rfl rfl) ?_
  refine GL_step rfl (PS_len_str rfl Try.underlying9 rfl) ?_
  refine GL_step rfl (PS_gtr rfl rfl) ?_
  refine GL_step rfl (PS_move rfl) ?_
  refine GL_gf (t := 10) rfl rfl rfl (fun q => PS_fieldAddr fa25_3 rfl) ?_
  refine GL_gf (t := 10) rfl rfl rfl (fun q => PS_load (cvE rfl (by rw [q]; rfl)) tys23 (.head _) LineV.l3 rfl rfl) ?_
  refine GL_gf (t := 10) rfl rfl rfl (fun q => PS_len_slice rfl Try.underlying23 (cvE rfl (by rw [q]; rfl))) ?_
  refine GL_gf (t := 10) rfl rfl rfl (fun q => PS_gtr (cvE rfl (by rw [q]; rfl)) rfl) ?_
  refine GL_step rfl (PS_or rfl rfl (fun h => by rw [h]; rfl)) ?_
  refine GL_step rfl (PS_move rfl) ?_
  refine GL_gf (t := 16) rfl rfl rfl (fun q => PS_fieldAddr fa25_1 rfl) ?_
  refine GL_gf (t := 16) rfl rfl rfl (fun q => PS_load (cvE rfl (by rw [q]; rfl)) tys4 (.head _) LineV.l1 rfl rfl) ?_
  refine GL_gf (t := 16) rfl rfl rfl (fun q => PS_move (cvE rfl (by rw [q]; rfl))) ?_
  refine GL_gtc (t := 19) rfl rfl rfl (fun qc q => PS_fieldAddr fa25_0 rfl) ?_
  refine GL_gtc (t := 19) rfl rfl rfl (fun qc q => PS_load (cvE rfl (by rw [qc, q]; rfl)) tys9 (.head _) LineV.l0 rfl rfl) ?_
  refine GL_gtc (t := 19) rfl rfl rfl (fun qc q => PS_len_str rfl Try.underlying9 (cvE rfl (by rw [qc, q]; rfl))) ?_
  refine GL_gtc (t := 19) rfl rfl rfl (fun qc q => PS_gtr (cvE rfl (by rw [qc, q]; rfl)) rfl) ?_
  refine GL_gf (t := 16) rfl rfl rfl (fun q => PS_and (cvE rfl (by rw [q]; rfl)) rfl (fun h => by rw [q, h]; rfl)) ?_
  refine GL_step rfl (PS_or rfl rfl (fun h => by rw [h]; rfl)) ?_
  refine GL_step rfl (PS_move rfl) ?_
  refine GL_gf (t := 26) rfl rfl rfl (fun q => PS_fieldAddr fa25_2 rfl) ?_
  refine GL_gf (t := 26) rfl rfl rfl (fun q => PS_load (cvE rfl (by rw [q]; rfl)) tys4 (.head _) LineV.l2 rfl rfl) ?_
  refine GL_gf (t := 26) rfl rfl rfl (fun q => PS_move (cvE rfl (by rw [q]; rfl))) ?_
  refine GL_gtc (t := 29) rfl rfl rfl (fun qc q => PS_fieldAddr fa25_0 rfl) ?_
  refine GL_gtc (t := 29) rfl rfl rfl (fun qc q => PS_load (cvE rfl (by rw [qc, q]; rfl)) tys9 (.head _) LineV.l0 rfl rfl) ?_
  refine GL_gtc (t := 29) rfl rfl rfl (fun qc q => PS_neq_str (cvE rfl (by rw [qc, q]; rfl)) rfl) ?_
  refine GL_gtc (t := 29) rfl rfl rfl (fun qc q => PS_move (cvE rfl (by rw [qc, q]; rfl))) ?_
  refine GL_gfc (t := 33) rfl rfl rfl (fun qc q => PS_fieldAddr fa25_1 rfl) ?_
  refine GL_gfc (t := 33) rfl rfl rfl (fun qc q => PS_load (cvE rfl (by rw [qc, q]; rfl)) tys4 (.head _) LineV.l1 rfl rfl) ?_
  refine GL_gtc (t := 29) rfl rfl rfl (fun qc q => PS_or (cvE rfl (by rw [qc, q]; rfl)) rfl (fun h => by rw [qc, q, h]; rfl)) ?_
  refine GL_gf (t := 26) rfl rfl rfl (fun q => PS_and (cvE rfl (by rw [q]; rfl)) rfl (fun h => by rw [q, h]; rfl)) ?_
  refine GL_step rfl (PS_or rfl rfl (fun h => by rw [h]; rfl)) ?_
  refine GL_nil ?_
  refine GQ_sub (.cons (k := 1) rfl (.cons (k := 38) rfl (.nil _))) ?_
  refine GQ_then ?_
  refine G_cond rfl (fun c1 => ?_) (fun c1 => ?_)
  · skip
    have c1p := c1
    try simp only [decide_eq_true_eq, decide_eq_false_iff_not, Bool.not_eq_true', Bool.not_eq_false', Bool.or_eq_true, Bool.and_eq_true, Bool.or_eq_false_iff, Bool.and_eq_false_iff, Int.not_lt, Int.not_le] at c1p
    refine G_seq ?_
    refine G_region ?_
    refine GL_step rfl (PS_assign rfl) ?_
    refine GL_nil ?_
    refine GQ_sub (.cons (k := 2) rfl (.nil _)) ?_
    refine GQ_then ?_
    refine G_ret ?_
    refine GQ_then_ret ?_
    refine GQ_ret rfl (.tmp rfl .nil) ?_
    intro w1 hS; refine ⟨congrArg Value.bool ?_, hS.toKeep⟩; rw [Line.good, show Line.badHead l = true from c1]; rfl
  · skip
    have c1p := c1
    try simp only [decide_eq_true_eq, decide_eq_false_iff_not, Bool.not_eq_true', Bool.not_eq_false', Bool.or_eq_true, Bool.and_eq_true, Bool.or_eq_false_iff, Bool.and_eq_false_iff, Int.not_lt, Int.not_le] at c1p
    have hq : (l.queue.len : Int) ≤ 6 := by omega
    refine G_skip ?_
    refine GQ_sub (.cons (k := 1) rfl (.nil _)) ?_
    refine GQ_then ?_
    refine G_seq ?_
    refine G_seq ?_
    refine G_planN (N := 9) [0, 1, 3, 0, 8, 24, 63, 127, 0] mix (by kernel_rfl) rfl ?_
    refine Plan_float 0 rfl rfl (by kernel_rfl) (OK_s (EX_s (PS_fieldAddr fa25_3 rfl))) ?_
    refine Plan_float 1 rfl rfl (by kernel_rfl) (OK_s (EX_s (PS_load rfl tys23 (.head _) LineV.l3 rfl rfl))) ?_
    refine Plan_float 3 rfl rfl (by kernel_rfl) (OK_s (EX_s (PS_fieldAddr fa25_0 rfl))) ?_
    refine Plan_float 4 rfl rfl (by kernel_rfl) (OK_s (EX_s (PS_load rfl tys9 (.head _) LineV.l0 rfl rfl))) ?_
    refine Plan_float 8 rfl rfl (by kernel_rfl) (OK_s (EX_s (PS_move rfl))) ?_
    refine Plan_two 2 5 rfl rfl (by kernel_rfl) ?_ ?_
    · skip
      refine GL_callR rfl cf49 (.cons rfl .nil) .nil (slices_Clone_string_string_spec _ _ (by first | assumption | omega)) (fun w hS => (Kn.old r0) w hS) (fun v1 B hv => ?_)
      obtain ⟨y2, rfl, y3, rfl⟩ := hv
      refine GL_hand rfl ⟨?_, ?_⟩
      · exact (Pend_okv rfl (OK_s (EX_s (PS_move rfl))) rfl rfl (Pend_okv rfl (OK_s (EX_s (PS_load rfl tys9 (.tail _ (.head _)) LineV.l0 rfl rfl))) rfl rfl (Pend_okv rfl (OK_s (EX_s (PS_fieldAddr fa25_0 rfl))) rfl rfl (Pend_skip (by kernel_rfl) (Pend_skip (by kernel_rfl) Pend_nil)))))
      refine Plan_chain 5 rfl (by kernel_rfl) ?_
      refine GL_bs1F encS flS rfl Try.underlying23 sz9 zv9 rfl (by decide) (by decide) rfl rfl (fun b2 => ?_)
      refine GL_hand rfl ⟨?_, ?_⟩
      · exact (Pend_okv rfl (OK_s (EX_s (PS_move rfl))) rfl rfl (Pend_skip (by kernel_rfl) (Pend_skip (by kernel_rfl) (Pend_okv rfl (OK_s (EX_s (PS_load rfl tys23 (.tail _ (.tail _ (.head _))) LineV.l3 rfl rfl))) rfl rfl (Pend_okv rfl (OK_s (EX_s (PS_fieldAddr fa25_3 rfl))) rfl rfl Pend_nil)))))
      refine Plan_chain 6 rfl (by kernel_rfl) ?_
      refine GL_appendF flS rfl Try.underlying23 sz9 zv9 rfl by9 (by decide) (by decide) rfl rfl (fun w hS => Src.sliceT Try.underlying23 ((Kn.own (.head _)) w hS)) (by (try dsimp only); omega) (fun _ => (.tail .head)) (fun h5 h5l h5z => ?_)
      refine GL_hand rfl ⟨?_, ?_⟩
      · exact (Pend_okv rfl (OK_s (EX_s (PS_move rfl))) rfl rfl (Pend_skip (by kernel_rfl) (Pend_skip (by kernel_rfl) (Pend_skip (by kernel_rfl) (Pend_skip (by kernel_rfl) Pend_nil)))))
      refine Plan_float 7 rfl rfl (by kernel_rfl) (OK_s (EX_s (PS_len_slice rfl Try.underlying23 rfl))) ?_
      refine Plan_end (by kernel_rfl) ?_
      refine GQ_sub (.cons (k := 45) rfl (.cons (k := 46) rfl (.cons (k := 47) rfl (.nil _)))) ?_
      refine GQ_then ?_
      refine G_block ?_
      refine G_subF (.cons (k := 47) rfl (.cons (k := 45) rfl (.cons (k := 46) rfl (.nil _)))) ?_
      refine G_loop1_ (fun (k : Int) => 0 ≤ k ∧ k ≤ ((qs ++ [l.now]).length : Int) ∧ Line.good l qs = ((qs ++ [l.now]).drop k.toNat).all Line.strOk) (fun (k : Int) => (((qs ++ [l.now]).length : Int) - k).toNat) (fun (k : Int) => [(47, .int .i64 k)]) (fun (k : Int) => []) (0) ?_ rfl rfl (fun k hI1 => ?_)
      · exact ⟨by omega, by omega, by rw [Line.good, show Line.badHead l = false from c1]; rfl⟩
      obtain ⟨hI11, hI12, hI13⟩ := hI1
      refine G_seq ?_
      refine G_region ?_
      refine GL_step rfl (PS_lss rfl rfl) ?_
      refine GL_nil ?_
      refine GQ_then ?_
      refine G_seq ?_
      refine G_cond rfl (fun c2 => ?_) (fun c2 => ?_)
      · skip
        have c2p := c2
        try simp only [decide_eq_true_eq, decide_eq_false_iff_not, Bool.not_eq_true', Bool.not_eq_false', Bool.or_eq_true, Bool.and_eq_true, Bool.or_eq_false_iff, Bool.and_eq_false_iff, Int.not_lt, Int.not_le] at c2p
        have hk : k < ((qs ++ [l.now]).length : Int) := by simp only [List.length_append, List.length_cons, List.length_nil] at *; omega
        have hk7 : ((qs ++ [l.now]).length : Int) ≤ 7 := by simp only [List.length_append, List.length_cons, List.length_nil] at *; omega
        refine G_skip ?_
        refine GQ_sub (.cons (k := 45) rfl (.cons (k := 46) rfl (.cons (k := 47) rfl (.nil _)))) ?_
        refine GQ_then ?_
        refine G_seq ?_
        refine G_block ?_
        refine G_seq ?_
        refine G_region ?_
        refine GL_step rfl (PS_idxS is23 (by decide) (Kn.own (.tail _ (.head _))) rfl rfl (by omega) (by simp only [List.length_append, List.length_cons, List.length_nil] at *; omega)) ?_
        refine GL_step rfl (PS_ldStr rfl tys9 (Kn.own (.tail _ (.head _))) (by omega)) ?_
        refine GL_step rfl (PS_assign rfl) ?_
        refine GL_nil ?_
        refine GQ_sub (.cons (k := 4) rfl (.cons (k := 45) rfl (.cons (k := 46) rfl (.cons (k := 47) rfl (.nil _))))) ?_
        refine GQ_then ?_
        refine G_seq ?_
        refine G_seq ?_
        refine G_region ?_
        refine GL_step rfl (PS_move rfl) ?_
        refine GL_step rfl (PS_len_str rfl Try.underlying9 rfl) ?_
        refine GL_step rfl (PS_gtr rfl rfl) ?_
        refine GL_nil ?_
        refine GQ_sub (.cons (k := 4) rfl (.cons (k := 45) rfl (.cons (k := 46) rfl (.cons (k := 47) rfl (.cons (k := 53) rfl (.nil _)))))) ?_
        refine GQ_then ?_
        refine G_cond rfl (fun c3 => ?_) (fun c3 => ?_)
        · skip
          have c3p := c3
          try simp only [decide_eq_true_eq, decide_eq_false_iff_not, Bool.not_eq_true', Bool.not_eq_false', Bool.or_eq_true, Bool.and_eq_true, Bool.or_eq_false_iff, Bool.and_eq_false_iff, Int.not_lt, Int.not_le] at c3p
          refine G_seq ?_
          refine G_region ?_
          refine GL_step rfl (PS_assign rfl) ?_
          refine GL_nil ?_
          refine GQ_sub (.cons (k := 2) rfl (.nil _)) ?_
          refine GQ_then ?_
          refine G_ret ?_
          refine GQ_then_ret ?_
          refine GQ_block_ret ?_
          refine GQ_then_ret ?_
          refine GQ_then_ret ?_
          refine GQ_block_ret ?_
          refine GQ_then_ret ?_
          refine GQ_ret rfl (.tmp rfl .nil) ?_
          intro w1 hS; refine ⟨congrArg Value.bool ?_, hS.toKeep⟩; rw [hI13, Line.all_drop (d := []) hI11 hk, Line.strOk, c3]; rfl
        · skip
          have c3p := c3
          try simp only [decide_eq_true_eq, decide_eq_false_iff_not, Bool.not_eq_true', Bool.not_eq_false', Bool.or_eq_true, Bool.and_eq_true, Bool.or_eq_false_iff, Bool.and_eq_false_iff, Int.not_lt, Int.not_le] at c3p
          refine G_skip ?_
          refine GQ_sub (.cons (k := 4) rfl (.cons (k := 45) rfl (.cons (k := 46) rfl (.cons (k := 47) rfl (.nil _))))) ?_
          refine GQ_then ?_
          refine G_seq ?_
          refine G_region ?_
          refine GL_step rfl (PS_move rfl) ?_
          refine GL_step rfl (PS_len_str rfl Try.underlying9 rfl) ?_
          refine GL_step rfl (PS_move rfl) ?_
          refine GL_nil ?_
          refine GQ_sub (.cons (k := 4) rfl (.cons (k := 45) rfl (.cons (k := 46) rfl (.cons (k := 47) rfl (.cons (k := 55) rfl (.cons (k := 56) rfl (.nil _))))))) ?_
          refine GQ_then ?_
          refine G_block ?_
          refine G_subF (.cons (k := 56) rfl (.cons (k := 4) rfl (.cons (k := 45) rfl (.cons (k := 46) rfl (.cons (k := 47) rfl (.cons (k := 55) rfl (.nil _))))))) ?_
          refine G_loop1_ (fun (i : Int) => 0 ≤ i ∧ i ≤ (((qs ++ [l.now]).getD k.toNat []).length : Int) ∧ Line.strOk ((qs ++ [l.now]).getD k.toNat []) = (((qs ++ [l.now]).getD k.toNat []).drop i.toNat).all Line.plainB) (fun (i : Int) => ((((qs ++ [l.now]).getD k.toNat []).length : Int) - i).toNat) (fun (i : Int) => [(56, .int .i64 i)]) (fun (i : Int) => []) (0) ?_ rfl rfl (fun i hI2 => ?_)
          · exact ⟨by omega, by omega, by rw [Line.strOk, c3]; rfl⟩
          obtain ⟨hI21, hI22, hI23⟩ := hI2
          refine G_seq ?_
          refine G_region ?_
          refine GL_step rfl (PS_lss rfl rfl) ?_
          refine GL_nil ?_
          refine GQ_then ?_
          refine G_seq ?_
          refine G_cond rfl (fun c4 => ?_) (fun c4 => ?_)
          · skip
            have c4p := c4
            try simp only [decide_eq_true_eq, decide_eq_false_iff_not, Bool.not_eq_true', Bool.not_eq_false', Bool.or_eq_true, Bool.and_eq_true, Bool.or_eq_false_iff, Bool.and_eq_false_iff, Int.not_lt, Int.not_le] at c4p
            refine G_skip ?_
            refine GQ_sub (.cons (k := 4) rfl (.cons (k := 45) rfl (.cons (k := 46) rfl (.cons (k := 47) rfl (.cons (k := 55) rfl (.cons (k := 56) rfl (.nil _))))))) ?_
            refine GQ_then ?_
            refine G_seq ?_
            refine G_block ?_
            refine G_seq ?_
            refine G_region ?_
            refine GL_step rfl (PS_move rfl) ?_
            refine GL_step rfl (PS_assign rfl) ?_
            refine GL_nil ?_
            refine GQ_sub (.cons (k := 4) rfl (.cons (k := 5) rfl (.cons (k := 45) rfl (.cons (k := 46) rfl (.cons (k := 47) rfl (.cons (k := 55) rfl (.cons (k := 56) rfl (.nil _)))))))) ?_
            refine GQ_then ?_
            refine G_seq ?_
            refine G_region ?_
            refine GL_step rfl (PS_move rfl) ?_
            refine GL_step rfl (PS_move rfl) ?_
            refine GL_step rfl (PS_index_str Try.underlying9 rfl rfl (by omega) (by omega)) ?_
            refine GL_pure rfl cf50 (.cons rfl .nil) (fun w hS => line_plain_spec _ w) ?_
            refine GL_step rfl (PS_not rfl) ?_
            refine GL_nil ?_
            refine GQ_sub (.cons (k := 4) rfl (.cons (k := 45) rfl (.cons (k := 46) rfl (.cons (k := 47) rfl (.cons (k := 55) rfl (.cons (k := 56) rfl (.cons (k := 63) rfl (.nil _)))))))) ?_
            refine GQ_then ?_
            refine G_cond rfl (fun c5 => ?_) (fun c5 => ?_)
            · skip
              have c5p := c5
              try simp only [decide_eq_true_eq, decide_eq_false_iff_not, Bool.not_eq_true', Bool.not_eq_false', Bool.or_eq_true, Bool.and_eq_true, Bool.or_eq_false_iff, Bool.and_eq_false_iff, Int.not_lt, Int.not_le] at c5p
              refine G_seq ?_
              refine G_region ?_
              refine GL_step rfl (PS_assign rfl) ?_
              refine GL_nil ?_
              refine GQ_sub (.cons (k := 2) rfl (.nil _)) ?_
              refine GQ_then ?_
              refine G_ret ?_
              refine GQ_block_ret ?_
              refine GQ_then_ret ?_
              refine GQ_then_ret ?_
              refine GQ_block_ret ?_
              refine GQ_block_ret ?_
              refine GQ_then_ret ?_
              refine GQ_then_ret ?_
              refine GQ_block_ret ?_
              refine GQ_then_ret ?_
              refine GQ_ret rfl (.tmp rfl .nil) ?_
              intro w1 hS; refine ⟨congrArg Value.bool ?_, hS.toKeep⟩; rw [hI13, Line.all_drop (d := []) hI11 hk, hI23, Line.all_drop (d := 0) hI21 (by omega), show Line.plainB _ = false from by simpa using c5]; rfl
            · skip
              have c5p := c5
              try simp only [decide_eq_true_eq, decide_eq_false_iff_not, Bool.not_eq_true', Bool.not_eq_false', Bool.or_eq_true, Bool.and_eq_true, Bool.or_eq_false_iff, Bool.and_eq_false_iff, Int.not_lt, Int.not_le] at c5p
              refine G_skip ?_
              refine GQ_sub (.cons (k := 4) rfl (.cons (k := 45) rfl (.cons (k := 46) rfl (.cons (k := 47) rfl (.cons (k := 55) rfl (.cons (k := 56) rfl (.nil _))))))) ?_
              refine GQ_block ?_
              refine GQ_then ?_
              refine G_region ?_
              refine GL_step rfl (PS_add rfl rfl (IntWalk.i64_in _ (by omega))) ?_
              refine GL_step rfl (PS_move rfl) ?_
              refine GL_nil ?_
              refine GQ_sub (.cons (k := 4) rfl (.cons (k := 45) rfl (.cons (k := 46) rfl (.cons (k := 47) rfl (.cons (k := 55) rfl (.cons (k := 56) rfl (.nil _))))))) ?_
              refine GQ_next1_ (i + 1) ?_ ?_ (.cons (k := 56) rfl (.cons (k := 4) rfl (.cons (k := 45) rfl (.cons (k := 46) rfl (.cons (k := 47) rfl (.cons (k := 55) rfl (.nil _))))))) (.refl _)
              · exact ⟨by omega, by omega, by rw [hI23, Line.all_drop (d := 0) hI21 (by omega), show Line.plainB _ = true from by simpa using c5]; rfl⟩
              · omega
          · skip
            have c4p := c4
            try simp only [decide_eq_true_eq, decide_eq_false_iff_not, Bool.not_eq_true', Bool.not_eq_false', Bool.or_eq_true, Bool.and_eq_true, Bool.or_eq_false_iff, Bool.and_eq_false_iff, Int.not_lt, Int.not_le] at c4p
            refine G_exit ?_
            refine GQ_then_exit ?_
            refine GQ_then_exit ?_
            refine GQ_block_exit ?_
            refine GQ_sub (.cons (k := 45) rfl (.cons (k := 46) rfl (.cons (k := 47) rfl (.nil _)))) ?_
            refine GQ_block ?_
            refine GQ_then ?_
            refine G_region ?_
            refine GL_step rfl (PS_add rfl rfl (IntWalk.i64_in _ (by omega))) ?_
            refine GL_step rfl (PS_move rfl) ?_
            refine GL_nil ?_
            refine GQ_sub (.cons (k := 45) rfl (.cons (k := 46) rfl (.cons (k := 47) rfl (.nil _)))) ?_
            refine GQ_next1_ (k + 1) ?_ ?_ (.cons (k := 47) rfl (.cons (k := 45) rfl (.cons (k := 46) rfl (.nil _)))) (.refl _)
            · exact ⟨by omega, by omega, by rw [hI13, Line.all_drop (d := []) hI11 hk, hI23, show i.toNat = ((qs ++ [l.now]).getD k.toNat []).length from by omega, List.drop_length]; rfl⟩
            · omega
      · skip
        have c2p := c2
        try simp only [decide_eq_true_eq, decide_eq_false_iff_not, Bool.not_eq_true', Bool.not_eq_false', Bool.or_eq_true, Bool.and_eq_true, Bool.or_eq_false_iff, Bool.and_eq_false_iff, Int.not_lt, Int.not_le] at c2p
        have hk : ¬ k < ((qs ++ [l.now]).length : Int) := by simp only [List.length_append, List.length_cons, List.length_nil] at *; omega
        refine G_exit ?_
        refine GQ_then_exit ?_
        refine GQ_then_exit ?_
        refine GQ_block_exit ?_
        refine GQ_sub (.nil _) ?_
        refine GQ_then ?_
        refine G_seq ?_
        refine G_region ?_
        refine GL_step rfl (PS_assign rfl) ?_
        refine GL_nil ?_
        refine GQ_then ?_
        refine G_ret ?_
        refine GQ_ret rfl (.tmp rfl .nil) ?_
        intro w1 hS; refine ⟨congrArg Value.bool ?_, hS.toKeep⟩; rw [hI13, show k.toNat = (qs ++ [l.now]).length from by omega, List.drop_length]; rfl
    · skip
      refine GL_bs1F encS flS rfl Try.underlying23 sz9 zv9 rfl (by decide) (by decide) rfl rfl (fun b3 => ?_)
      refine GL_hand rfl ⟨?_, ?_⟩
      · exact (Pend_okv rfl (OK_s (EX_s (PS_move rfl))) rfl rfl (Pend_skip (by kernel_rfl) (Pend_skip (by kernel_rfl) (Pend_okv rfl (OK_s (EX_s (PS_load rfl tys23 (.tail _ (.head _)) LineV.l3 rfl rfl))) rfl rfl (Pend_okv rfl (OK_s (EX_s (PS_fieldAddr fa25_3 rfl))) rfl rfl Pend_nil)))))
      refine Plan_chain 2 rfl (by kernel_rfl) ?_
      refine GL_callR rfl cf49 (.cons rfl .nil) .nil (slices_Clone_string_string_spec _ _ (by first | assumption | omega)) (fun w hS => (Kn.old r0) w hS) (fun v6 B hv => ?_)
      obtain ⟨y7, rfl, y8, rfl⟩ := hv
      refine GL_hand rfl ⟨?_, ?_⟩
      · exact (Pend_okv rfl (OK_s (EX_s (PS_move rfl))) rfl rfl (Pend_okv rfl (OK_s (EX_s (PS_load rfl tys9 (.tail _ (.tail _ (.head _))) LineV.l0 rfl rfl))) rfl rfl (Pend_okv rfl (OK_s (EX_s (PS_fieldAddr fa25_0 rfl))) rfl rfl (Pend_skip (by kernel_rfl) (Pend_skip (by kernel_rfl) Pend_nil)))))
      refine Plan_chain 6 rfl (by kernel_rfl) ?_
      refine GL_appendF flS rfl Try.underlying23 sz9 zv9 rfl by9 (by decide) (by decide) rfl rfl (fun w hS => Src.sliceT Try.underlying23 ((Kn.own (.tail _ (.head _))) w hS)) (by (try dsimp only); omega) (fun _ => .head) (fun h10 h10l h10z => ?_)
      refine GL_hand rfl ⟨?_, ?_⟩
      · exact (Pend_okv rfl (OK_s (EX_s (PS_move rfl))) rfl rfl (Pend_skip (by kernel_rfl) (Pend_skip (by kernel_rfl) (Pend_skip (by kernel_rfl) (Pend_skip (by kernel_rfl) Pend_nil)))))
      refine Plan_float 7 rfl rfl (by kernel_rfl) (OK_s (EX_s (PS_len_slice rfl Try.underlying23 rfl))) ?_
      refine Plan_end (by kernel_rfl) ?_
      refine GQ_sub (.cons (k := 45) rfl (.cons (k := 46) rfl (.cons (k := 47) rfl (.nil _)))) ?_
      refine GQ_then ?_
      refine G_block ?_
      refine G_subF (.cons (k := 47) rfl (.cons (k := 45) rfl (.cons (k := 46) rfl (.nil _)))) ?_
      refine G_loop1_ (fun (k : Int) => 0 ≤ k ∧ k ≤ ((qs ++ [l.now]).length : Int) ∧ Line.good l qs = ((qs ++ [l.now]).drop k.toNat).all Line.strOk) (fun (k : Int) => (((qs ++ [l.now]).length : Int) - k).toNat) (fun (k : Int) => [(47, .int .i64 k)]) (fun (k : Int) => []) (0) ?_ rfl rfl (fun k hI1 => ?_)
      · exact ⟨by omega, by omega, by rw [Line.good, show Line.badHead l = false from c1]; rfl⟩
      obtain ⟨hI11, hI12, hI13⟩ := hI1
      refine G_seq ?_
      refine G_region ?_
      refine GL_step rfl (PS_lss rfl rfl) ?_
      refine GL_nil ?_
      refine GQ_then ?_
      refine G_seq ?_
      refine G_cond rfl (fun c6 => ?_) (fun c6 => ?_)
      · skip
        have c6p := c6
        try simp only [decide_eq_true_eq, decide_eq_false_iff_not, Bool.not_eq_true', Bool.not_eq_false', Bool.or_eq_true, Bool.and_eq_true, Bool.or_eq_false_iff, Bool.and_eq_false_iff, Int.not_lt, Int.not_le] at c6p
        have hk : k < ((qs ++ [l.now]).length : Int) := by simp only [List.length_append, List.length_cons, List.length_nil] at *; omega
        have hk7 : ((qs ++ [l.now]).length : Int) ≤ 7 := by simp only [List.length_append, List.length_cons, List.length_nil] at *; omega
        refine G_skip ?_
        refine GQ_sub (.cons (k := 45) rfl (.cons (k := 46) rfl (.cons (k := 47) rfl (.nil _)))) ?_
        refine GQ_then ?_
        refine G_seq ?_
        refine G_block ?_
        refine G_seq ?_
        refine G_region ?_
        refine GL_step rfl (PS_idxS is23 (by decide) (Kn.own (.head _)) rfl rfl (by omega) (by simp only [List.length_append, List.length_cons, List.length_nil] at *; omega)) ?_
        refine GL_step rfl (PS_ldStr rfl tys9 (Kn.own (.head _)) (by omega)) ?_
        refine GL_step rfl (PS_assign rfl) ?_
        refine GL_nil ?_
        refine GQ_sub (.cons (k := 4) rfl (.cons (k := 45) rfl (.cons (k := 46) rfl (.cons (k := 47) rfl (.nil _))))) ?_
        refine GQ_then ?_
        refine G_seq ?_
        refine G_seq ?_
        refine G_region ?_
        refine GL_step rfl (PS_move rfl) ?_
        refine GL_step rfl (PS_len_str rfl Try.underlying9 rfl) ?_
        refine GL_step rfl (PS_gtr rfl rfl) ?_
        refine GL_nil ?_
        refine GQ_sub (.cons (k := 4) rfl (.cons (k := 45) rfl (.cons (k := 46) rfl (.cons (k := 47) rfl (.cons (k := 53) rfl (.nil _)))))) ?_
        refine GQ_then ?_
        refine G_cond rfl (fun c7 => ?_) (fun c7 => ?_)
        · skip
          have c7p := c7
          try simp only [decide_eq_true_eq, decide_eq_false_iff_not, Bool.not_eq_true', Bool.not_eq_false', Bool.or_eq_true, Bool.and_eq_true, Bool.or_eq_false_iff, Bool.and_eq_false_iff, Int.not_lt, Int.not_le] at c7p
          refine G_seq ?_
          refine G_region ?_
          refine GL_step rfl (PS_assign rfl) ?_
          refine GL_nil ?_
          refine GQ_sub (.cons (k := 2) rfl (.nil _)) ?_
          refine GQ_then ?_
          refine G_ret ?_
          refine GQ_then_ret ?_
          refine GQ_block_ret ?_
          refine GQ_then_ret ?_
          refine GQ_then_ret ?_
          refine GQ_block_ret ?_
          refine GQ_then_ret ?_
          refine GQ_ret rfl (.tmp rfl .nil) ?_
          intro w1 hS; refine ⟨congrArg Value.bool ?_, hS.toKeep⟩; rw [hI13, Line.all_drop (d := []) hI11 hk, Line.strOk, c7]; rfl
        · skip
          have c7p := c7
          try simp only [decide_eq_true_eq, decide_eq_false_iff_not, Bool.not_eq_true', Bool.not_eq_false', Bool.or_eq_true, Bool.and_eq_true, Bool.or_eq_false_iff, Bool.and_eq_false_iff, Int.not_lt, Int.not_le] at c7p
          refine G_skip ?_
          refine GQ_sub (.cons (k := 4) rfl (.cons (k := 45) rfl (.cons (k := 46) rfl (.cons (k := 47) rfl (.nil _))))) ?_
          refine GQ_then ?_
          refine G_seq ?_
          refine G_region ?_
          refine GL_step rfl (PS_move rfl) ?_
          refine GL_step rfl (PS_len_str rfl Try.underlying9 rfl) ?_
          refine GL_step rfl (PS_move rfl) ?_
          refine GL_nil ?_
          refine GQ_sub (.cons (k := 4) rfl (.cons (k := 45) rfl (.cons (k := 46) rfl (.cons (k := 47) rfl (.cons (k := 55) rfl (.cons (k := 56) rfl (.nil _))))))) ?_
          refine GQ_then ?_
          refine G_block ?_
          refine G_subF (.cons (k := 56) rfl (.cons (k := 4) rfl (.cons (k := 45) rfl (.cons (k := 46) rfl (.cons (k := 47) rfl (.cons (k := 55) rfl (.nil _))))))) ?_
          refine G_loop1_ (fun (i : Int) => 0 ≤ i ∧ i ≤ (((qs ++ [l.now]).getD k.toNat []).length : Int) ∧ Line.strOk ((qs ++ [l.now]).getD k.toNat []) = (((qs ++ [l.now]).getD k.toNat []).drop i.toNat).all Line.plainB) (fun (i : Int) => ((((qs ++ [l.now]).getD k.toNat []).length : Int) - i).toNat) (fun (i : Int) => [(56, .int .i64 i)]) (fun (i : Int) => []) (0) ?_ rfl rfl (fun i hI2 => ?_)
          · exact ⟨by omega, by omega, by rw [Line.strOk, c7]; rfl⟩
          obtain ⟨hI21, hI22, hI23⟩ := hI2
          refine G_seq ?_
          refine G_region ?_
          refine GL_step rfl (PS_lss rfl rfl) ?_
          refine GL_nil ?_
          refine GQ_then ?_
          refine G_seq ?_
          refine G_cond rfl (fun c8 => ?_) (fun c8 => ?_)
          · skip
            have c8p := c8
            try simp only [decide_eq_true_eq, decide_eq_false_iff_not, Bool.not_eq_true', Bool.not_eq_false', Bool.or_eq_true, Bool.and_eq_true, Bool.or_eq_false_iff, Bool.and_eq_false_iff, Int.not_lt, Int.not_le] at c8p
            refine G_skip ?_
            refine GQ_sub (.cons (k := 4) rfl (.cons (k := 45) rfl (.cons (k := 46) rfl (.cons (k := 47) rfl (.cons (k := 55) rfl (.cons (k := 56) rfl (.nil _))))))) ?_
            refine GQ_then ?_
            refine G_seq ?_
            refine G_block ?_
            refine G_seq ?_
            refine G_region ?_
            refine GL_step rfl (PS_move rfl) ?_
            refine GL_step rfl (PS_assign rfl) ?_
            refine GL_nil ?_
            refine GQ_sub (.cons (k := 4) rfl (.cons (k := 5) rfl (.cons (k := 45) rfl (.cons (k := 46) rfl (.cons (k := 47) rfl (.cons (k := 55) rfl (.cons (k := 56) rfl (.nil _)))))))) ?_
            refine GQ_then ?_
            refine G_seq ?_
            refine G_region ?_
            refine GL_step rfl (PS_move rfl) ?_
            refine GL_step rfl (PS_move rfl) ?_
            refine GL_step rfl (PS_index_str Try.underlying9 rfl rfl (by omega) (by omega)) ?_
            refine GL_pure rfl cf50 (.cons rfl .nil) (fun w hS => line_plain_spec _ w) ?_
            refine GL_step rfl (PS_not rfl) ?_
            refine GL_nil ?_
            refine GQ_sub (.cons (k := 4) rfl (.cons (k := 45) rfl (.cons (k := 46) rfl (.cons (k := 47) rfl (.cons (k := 55) rfl (.cons (k := 56) rfl (.cons (k := 63) rfl (.nil _)))))))) ?_
            refine GQ_then ?_
            refine G_cond rfl (fun c9 => ?_) (fun c9 => ?_)
            · skip
              have c9p := c9
              try simp only [decide_eq_true_eq, decide_eq_false_iff_not, Bool.not_eq_true', Bool.not_eq_false', Bool.or_eq_true, Bool.and_eq_true, Bool.or_eq_false_iff, Bool.and_eq_false_iff, Int.not_lt, Int.not_le] at c9p
              refine G_seq ?_
              refine G_region ?_
              refine GL_step rfl (PS_assign rfl) ?_
              refine GL_nil ?_
              refine GQ_sub (.cons (k := 2) rfl (.nil _)) ?_
              refine GQ_then ?_
              refine G_ret ?_
              refine GQ_block_ret ?_
              refine GQ_then_ret ?_
              refine GQ_then_ret ?_
              refine GQ_block_ret ?_
              refine GQ_block_ret ?_
              refine GQ_then_ret ?_
              refine GQ_then_ret ?_
              refine GQ_block_ret ?_
              refine GQ_then_ret ?_
              refine GQ_ret rfl (.tmp rfl .nil) ?_
              intro w1 hS; refine ⟨congrArg Value.bool ?_, hS.toKeep⟩; rw [hI13, Line.all_drop (d := []) hI11 hk, hI23, Line.all_drop (d := 0) hI21 (by omega), show Line.plainB _ = false from by simpa using c9]; rfl
            · skip
              have c9p := c9
              try simp only [decide_eq_true_eq, decide_eq_false_iff_not, Bool.not_eq_true', Bool.not_eq_false', Bool.or_eq_true, Bool.and_eq_true, Bool.or_eq_false_iff, Bool.and_eq_false_iff, Int.not_lt, Int.not_le] at c9p
              refine G_skip ?_
              refine GQ_sub (.cons (k := 4) rfl (.cons (k := 45) rfl (.cons (k := 46) rfl (.cons (k := 47) rfl (.cons (k := 55) rfl (.cons (k := 56) rfl (.nil _))))))) ?_
              refine GQ_block ?_
              refine GQ_then ?_
              refine G_region ?_
              refine GL_step rfl (PS_add rfl rfl (IntWalk.i64_in _ (by omega))) ?_
              refine GL_step rfl (PS_move rfl) ?_
              refine GL_nil ?_
              refine GQ_sub (.cons (k := 4) rfl (.cons (k := 45) rfl (.cons (k := 46) rfl (.cons (k := 47) rfl (.cons (k := 55) rfl (.cons (k := 56) rfl (.nil _))))))) ?_
              refine GQ_next1_ (i + 1) ?_ ?_ (.cons (k := 56) rfl (.cons (k := 4) rfl (.cons (k := 45) rfl (.cons (k := 46) rfl (.cons (k := 47) rfl (.cons (k := 55) rfl (.nil _))))))) (.refl _)
              · exact ⟨by omega, by omega, by rw [hI23, Line.all_drop (d := 0) hI21 (by omega), show Line.plainB _ = true from by simpa using c9]; rfl⟩
              · omega
          · skip
            have c8p := c8
            try simp only [decide_eq_true_eq, decide_eq_false_iff_not, Bool.not_eq_true', Bool.not_eq_false', Bool.or_eq_true, Bool.and_eq_true, Bool.or_eq_false_iff, Bool.and_eq_false_iff, Int.not_lt, Int.not_le] at c8p
            refine G_exit ?_
            refine GQ_then_exit ?_
            refine GQ_then_exit ?_
            refine GQ_block_exit ?_
            refine GQ_sub (.cons (k := 45) rfl (.cons (k := 46) rfl (.cons (k := 47) rfl (.nil _)))) ?_
            refine GQ_block ?_
            refine GQ_then ?_
            refine G_region ?_
            refine GL_step rfl (PS_add rfl rfl (IntWalk.i64_in _ (by omega))) ?_
            refine GL_step rfl (PS_move rfl) ?_
            refine GL_nil ?_
            refine GQ_sub (.cons (k := 45) rfl (.cons (k := 46) rfl (.cons (k := 47) rfl (.nil _)))) ?_
            refine GQ_next1_ (k + 1) ?_ ?_ (.cons (k := 47) rfl (.cons (k := 45) rfl (.cons (k := 46) rfl (.nil _)))) (.refl _)
            · exact ⟨by omega, by omega, by rw [hI13, Line.all_drop (d := []) hI11 hk, hI23, show i.toNat = ((qs ++ [l.now]).getD k.toNat []).length from by omega, List.drop_length]; rfl⟩
            · omega
      · skip
        have c6p := c6
        try simp only [decide_eq_true_eq, decide_eq_false_iff_not, Bool.not_eq_true', Bool.not_eq_false', Bool.or_eq_true, Bool.and_eq_true, Bool.or_eq_false_iff, Bool.and_eq_false_iff, Int.not_lt, Int.not_le] at c6p
        have hk : ¬ k < ((qs ++ [l.now]).length : Int) := by simp only [List.length_append, List.length_cons, List.length_nil] at *; omega
        refine G_exit ?_
        refine GQ_then_exit ?_
        refine GQ_then_exit ?_
        refine GQ_block_exit ?_
        refine GQ_sub (.nil _) ?_
        refine GQ_then ?_
        refine G_seq ?_
        refine G_region ?_
        refine GL_step rfl (PS_assign rfl) ?_
        refine GL_nil ?_
        refine GQ_then ?_
        refine G_ret ?_
        refine GQ_ret rfl (.tmp rfl .nil) ?_
        intro w1 hS; refine ⟨congrArg Value.bool ?_, hS.toKeep⟩; rw [hI13, show k.toNat = (qs ++ [l.now]).length from by omega, List.drop_length]; rfl
theorem line_Feed_spec {t0 : Nat} (l : LineV) (qs : List Str) (u : Str) (hu : u.length ≤ 9000000000000000000) : CtrR Try.prog 13 #[.agg l.enc.toArray, vstr u] [] (fun w => Rd w l.queue t0 1 (qs.flatMap encS)) (fun v B => (Line.good l qs = false ∧ v = .tuple #[.agg l.enc.toArray, .int .i64 0, .int .i64 2] ∧ B = []) ∨ (Line.good l qs = true ∧ ∃ h' : Hd, v = .tuple #[.agg (LineV.enc ⟨(Line.feed (Line.start l qs) u).now, (Line.feed (Line.start l qs) u).long, (Line.feed (Line.start l qs) u).ret, h'⟩).toArray, .int .i64 (Line.feed (Line.start l qs) u).lost, .int .i64 0] ∧ h'.len = (Line.feed (Line.start l qs) u).queue.length ∧ B = [Res.own h' 9 1 ((Line.feed (Line.start l qs) u).queue.flatMap encS)])) := by
  intro w hS0 hH
  have r0 := hH
  have hl0 := r0.len1 flS (by decide)
  refine Ret_body _ _ Try.func13 rfl rfl rfl (hS0) ?_
  refine G_seq ?_
  refine G_region ?_
  refine GL_box rfl rfl rfl (fun b1 => ?_)
  refine GL_alloc rfl zv25 rfl (fun b2 => ?_)
  refine GL_step rfl (PS_assign rfl) ?_
  refine GL_step rfl (PS_assign rfl) ?_
  refine GL_nil ?_
  refine GQ_sub (.cons (k := 1) rfl (.cons (k := 2) rfl (.cons (k := 4) rfl (.nil _)))) ?_
  refine GQ_then ?_
  refine G_seq ?_
  refine G_seq ?_
  refine G_region ?_
  refine GL_step rfl (PS_loadA rfl tya25 (.tail _ (.head _)) (Lens.id LineV.fl.len LineV.fl.one) rfl) ?_
  refine GL_pure rfl cf16 (.cons rfl .nil) (fun w hS => line_Good_spec _ _ w ((Kn.old r0) w hS)) ?_
  refine GL_step rfl (PS_not rfl) ?_
  refine GL_nil ?_
  refine GQ_sub (.cons (k := 1) rfl (.cons (k := 2) rfl (.cons (k := 4) rfl (.cons (k := 14) rfl (.nil _))))) ?_
  refine GQ_then ?_
  refine G_cond rfl (fun c1 => ?_) (fun c1 => ?_)
  · skip
    have c1p := c1
    try simp only [decide_eq_true_eq, decide_eq_false_iff_not, Bool.not_eq_true', Bool.not_eq_false', Bool.or_eq_true, Bool.and_eq_true, Bool.or_eq_false_iff, Bool.and_eq_false_iff, Int.not_lt, Int.not_le] at c1p
    refine G_seq ?_
    refine G_region ?_
    refine GL_step rfl (PS_loadA rfl tya25 (.tail _ (.head _)) (Lens.id LineV.fl.len LineV.fl.one) rfl) ?_
    refine GL_unit (PU_store (Lens.id LineV.fl.len LineV.fl.one) rfl rfl rfl sz25 rfl .head) ?_
    refine GL_step rfl (PS_assign rfl) ?_
    refine GL_step rfl (PS_assign rfl) ?_
    refine GL_nil ?_
    refine GQ_sub (.cons (k := 4) rfl (.cons (k := 5) rfl (.cons (k := 6) rfl (.nil _)))) ?_
    refine GQ_then ?_
    refine G_ret ?_
    refine GQ_then_ret ?_
    refine GQ_ret rfl (.cell rfl (.head _) (.inl ⟨(by rw [LineV.fl.len]; exact tya25), rfl⟩) (.tmp rfl (.tmp rfl .nil))) ?_
    intro w1 hS
    have hS := (hS.perm (Pulls.perm .nil)).headL
    exact ⟨_, .inl ⟨by simpa using c1, rfl, rfl⟩, hS⟩
  · skip
    have c1p := c1
    try simp only [decide_eq_true_eq, decide_eq_false_iff_not, Bool.not_eq_true', Bool.not_eq_false', Bool.or_eq_true, Bool.and_eq_true, Bool.or_eq_false_iff, Bool.and_eq_false_iff, Int.not_lt, Int.not_le] at c1p
    have hgd : Line.good l qs = true := by simpa using c1
    have hh := Line.good_head hgd
    have hq6 : qs.length ≤ 17592186044416 := by omega
    refine G_skip ?_
    refine GQ_sub (.cons (k := 1) rfl (.cons (k := 2) rfl (.cons (k := 4) rfl (.nil _)))) ?_
    refine GQ_then ?_
    refine G_seq ?_
    refine G_region ?_
    refine GL_step rfl (PS_fieldAddr fa25_3 rfl) ?_
    refine GL_step rfl (PS_load rfl tys23 (.tail _ (.head _)) LineV.l3 rfl rfl) ?_
    refine GL_callR rfl cf49 (.cons rfl .nil) .nil (slices_Clone_string_string_spec _ _ (by first | assumption | omega)) (fun w hS => (Kn.old r0) w hS) (fun v1 B hv => ?_)
    obtain ⟨y2, rfl, y3, rfl⟩ := hv
    refine GL_step rfl (PS_fieldAddr fa25_3 rfl) ?_
    refine GL_unit (PU_store LineV.l3 rfl rfl rfl sz23 rfl (.tail (.tail .head))) ?_
    refine GL_nil ?_
    refine GQ_sub (.cons (k := 1) rfl (.cons (k := 2) rfl (.cons (k := 4) rfl (.nil _)))) ?_
    refine GQ_then ?_
    refine G_seq ?_
    refine G_region ?_
    refine GL_step rfl (PS_assign rfl) ?_
    refine GL_nil ?_
    refine GQ_then ?_
    refine G_seq ?_
    refine G_region ?_
    refine GL_step rfl (PS_fieldAddr fa25_0 rfl) ?_
    refine GL_step rfl (PS_load rfl tys9 (.tail _ (.tail _ (.head _))) LineV.l0 rfl rfl) ?_
    refine GL_bytes rfl Try.underlying9 Try.underlying72 Try.underlying5 rfl (fun h5 h5l => ?_)
    refine GL_step rfl (PS_assign rfl) ?_
    refine GL_nil ?_
    refine GQ_sub (.cons (k := 1) rfl (.cons (k := 2) rfl (.cons (k := 4) rfl (.cons (k := 7) rfl (.cons (k := 8) rfl (.nil _)))))) ?_
    refine GQ_then ?_
    refine G_seq ?_
    refine G_seq ?_
    refine G_region ?_
    refine GL_step rfl (PS_move rfl) ?_
    refine GL_step rfl (PS_len_str rfl Try.underlying9 rfl) ?_
    refine GL_step rfl (PS_move rfl) ?_
    refine GL_nil ?_
    refine GQ_sub (.cons (k := 1) rfl (.cons (k := 2) rfl (.cons (k := 4) rfl (.cons (k := 7) rfl (.cons (k := 8) rfl (.cons (k := 24) rfl (.cons (k := 25) rfl (.nil _)))))))) ?_
    refine GQ_then ?_
    refine G_block ?_
    refine G_subF (.cons (k := 7) rfl (.cons (k := 8) rfl (.cons (k := 25) rfl (.cons (k := 1) rfl (.cons (k := 2) rfl (.cons (k := 4) rfl (.cons (k := 24) rfl (.nil _)))))))) ?_
    refine G_pull (.tail (.tail (.tail .head))) ?_
    refine G_pull (.tail (.tail .head)) ?_
    refine G_pull (.tail (.tail .head)) ?_
    refine G_loop8_ (fun (k : Int) (now : Str) (long : Bool) (ret : Bool) (queue : List Str) (lost : Int) (h : Hd) (g : Hd) => Line.I (Line.start l qs) u k ⟨now, long, ret, queue, lost⟩ ∧ h.len = now.length ∧ g.len = queue.length) (fun (k : Int) (now : Str) (long : Bool) (ret : Bool) (queue : List Str) (lost : Int) (h : Hd) (g : Hd) => ((u.length : Int) - k).toNat) (fun (k : Int) (now : Str) (long : Bool) (ret : Bool) (queue : List Str) (lost : Int) (h : Hd) (g : Hd) => [(7, .int .i64 lost), (8, h.val), (25, .int .i64 k)]) (fun (k : Int) (now : Str) (long : Bool) (ret : Bool) (queue : List Str) (lost : Int) (h : Hd) (g : Hd) => [Res.own h 5 1 (now.flatMap encY), Res.own g 9 1 (queue.flatMap encS), Res.box b1 25 (LineV.enc ⟨l.now, long, ret, g⟩)]) (0) (l.now) (l.long) (l.ret) (qs) (0) (_) (_) ?_ rfl rfl (fun k now long ret queue lost h g hI1 => ?_)
    · exact ⟨Line.I.start hh.1 (show qs.length ≤ 6 by omega) rfl, by assumption, by assumption⟩
    obtain ⟨hI11, hl, hg⟩ := hI1; have hk0 := hI11.k0; have hk1 := hI11.k1; have hn : now.length ≤ 60 := hI11.now; have hq : queue.length ≤ 6 := hI11.queue; have hlo : 0 ≤ lost ∧ lost ≤ k := hI11.lost
    refine G_seq ?_
    refine G_region ?_
    refine GL_step rfl (PS_lss rfl rfl) ?_
    refine GL_nil ?_
    refine GQ_then ?_
    refine G_seq ?_
    refine G_cond rfl (fun c2 => ?_) (fun c2 => ?_)
    · skip
      have c2p := c2
      try simp only [decide_eq_true_eq, decide_eq_false_iff_not, Bool.not_eq_true', Bool.not_eq_false', Bool.or_eq_true, Bool.and_eq_true, Bool.or_eq_false_iff, Bool.and_eq_false_iff, Int.not_lt, Int.not_le] at c2p
      refine G_skip ?_
      refine GQ_sub (.cons (k := 1) rfl (.cons (k := 2) rfl (.cons (k := 4) rfl (.cons (k := 7) rfl (.cons (k := 8) rfl (.cons (k := 24) rfl (.cons (k := 25) rfl (.nil _)))))))) ?_
      refine GQ_then ?_
      refine G_seq ?_
      refine G_block ?_
      refine G_seq ?_
      refine G_region ?_
      refine GL_step rfl (PS_move rfl) ?_
      refine GL_step rfl (PS_assign rfl) ?_
      refine GL_nil ?_
      refine GQ_sub (.cons (k := 1) rfl (.cons (k := 2) rfl (.cons (k := 4) rfl (.cons (k := 7) rfl (.cons (k := 8) rfl (.cons (k := 9) rfl (.cons (k := 24) rfl (.cons (k := 25) rfl (.nil _))))))))) ?_
      refine GQ_then ?_
      refine G_seq ?_
      refine G_region ?_
      refine GL_step rfl (PS_move rfl) ?_
      refine GL_step rfl (PS_move rfl) ?_
      refine GL_step rfl (PS_index_str Try.underlying9 rfl rfl (by omega) (by omega)) ?_
      refine GL_step rfl (PS_assign rfl) ?_
      refine GL_nil ?_
      refine GQ_sub (.cons (k := 1) rfl (.cons (k := 2) rfl (.cons (k := 4) rfl (.cons (k := 7) rfl (.cons (k := 8) rfl (.cons (k := 10) rfl (.cons (k := 24) rfl (.cons (k := 25) rfl (.nil _))))))))) ?_
      refine GQ_then ?_
      refine G_seq ?_
      refine G_region ?_
      refine GL_step rfl (PS_fieldAddr fa25_2 rfl) ?_
      refine GL_step rfl (PS_load rfl tys4 (.tail _ (.tail _ (.head _))) LineV.l2 rfl rfl) ?_
      refine GL_step rfl (PS_assign rfl) ?_
      refine GL_nil ?_
      refine GQ_sub (.cons (k := 1) rfl (.cons (k := 2) rfl (.cons (k := 4) rfl (.cons (k := 7) rfl (.cons (k := 8) rfl (.cons (k := 10) rfl (.cons (k := 11) rfl (.cons (k := 24) rfl (.cons (k := 25) rfl (.nil _)))))))))) ?_
      refine GQ_then ?_
      refine G_seq ?_
      refine G_region ?_
      refine GL_step rfl (PS_fieldAddr fa25_2 rfl) ?_
      refine GL_unit (PU_store LineV.l2 rfl rfl rfl sz4 rfl (.tail (.tail .head))) ?_
      refine GL_nil ?_
      refine GQ_sub (.cons (k := 1) rfl (.cons (k := 2) rfl (.cons (k := 4) rfl (.cons (k := 7) rfl (.cons (k := 8) rfl (.cons (k := 10) rfl (.cons (k := 11) rfl (.cons (k := 24) rfl (.cons (k := 25) rfl (.nil _)))))))))) ?_
      refine GQ_then ?_
      refine G_block ?_
      refine G_seq ?_
      refine G_region ?_
      refine GL_step rfl (PS_move rfl) ?_
      refine GL_step rfl (PS_move rfl) ?_
      refine GL_gt (t := 40) rfl rfl rfl (fun q => PS_move rfl) ?_
      refine GL_gt (t := 40) rfl rfl rfl (fun q => PS_eql (cvE rfl q) rfl) ?_
      refine GL_gt (t := 40) rfl rfl rfl (fun q => PS_move (cvE rfl q)) ?_
      refine GL_gfc (t := 43) rfl rfl rfl (fun qc q => PS_move rfl) ?_
      refine GL_gfc (t := 43) rfl rfl rfl (fun qc q => PS_eql (cvE rfl (by rw [qc, q]; rfl)) rfl) ?_
      refine GL_gt (t := 40) rfl rfl rfl (fun q => PS_or (cvE rfl q) rfl (fun h => by rw [q, h]; rfl)) ?_
      refine GL_step rfl (PS_and rfl rfl (fun h => h)) ?_
      refine GL_step rfl (PS_assign rfl) ?_
      refine GL_nil ?_
      refine GQ_sub (.cons (k := 1) rfl (.cons (k := 2) rfl (.cons (k := 4) rfl (.cons (k := 7) rfl (.cons (k := 8) rfl (.cons (k := 10) rfl (.cons (k := 24) rfl (.cons (k := 25) rfl (.cons (k := 38) rfl (.nil _)))))))))) ?_
      refine GQ_then ?_
      refine G_cond rfl (fun c3 => ?_) (fun c3 => ?_)
      · skip
        have c3p := c3
        try simp only [decide_eq_true_eq, decide_eq_false_iff_not, Bool.not_eq_true', Bool.not_eq_false', Bool.or_eq_true, Bool.and_eq_true, Bool.or_eq_false_iff, Bool.and_eq_false_iff, Int.not_lt, Int.not_le] at c3p
        refine G_skip ?_
        refine GQ_sub (.cons (k := 1) rfl (.cons (k := 2) rfl (.cons (k := 4) rfl (.cons (k := 7) rfl (.cons (k := 8) rfl (.cons (k := 24) rfl (.cons (k := 25) rfl (.nil _)))))))) ?_
        refine GQ_block ?_
        refine GQ_block ?_
        refine GQ_then ?_
        refine G_region ?_
        refine GL_step rfl (PS_add rfl rfl (IntWalk.i64_in _ (by omega))) ?_
        refine GL_step rfl (PS_move rfl) ?_
        refine GL_nil ?_
        refine GQ_sub (.cons (k := 1) rfl (.cons (k := 2) rfl (.cons (k := 4) rfl (.cons (k := 7) rfl (.cons (k := 8) rfl (.cons (k := 24) rfl (.cons (k := 25) rfl (.nil _)))))))) ?_
        refine GQ_next8_ (k + 1) _ _ _ _ _ _ _ ?_ ?_ (.cons (k := 7) rfl (.cons (k := 8) rfl (.cons (k := 25) rfl (.cons (k := 1) rfl (.cons (k := 2) rfl (.cons (k := 4) rfl (.cons (k := 24) rfl (.nil _)))))))) (.refl _)
        · exact ⟨hI11.next (by omega) (by simp only [Line.step, hl, c1, c2, c3, ↓reduceIte, Bool.false_eq_true]), (by (try dsimp only at *) <;> (try simp only [List.length_append, List.length_take, List.length_cons, List.length_nil]) <;> omega), (by (try dsimp only at *) <;> (try simp only [List.length_append, List.length_cons, List.length_nil]) <;> omega)⟩
        · omega
      · skip
        have c3p := c3
        try simp only [decide_eq_true_eq, decide_eq_false_iff_not, Bool.not_eq_true', Bool.not_eq_false', Bool.or_eq_true, Bool.and_eq_true, Bool.or_eq_false_iff, Bool.and_eq_false_iff, Int.not_lt, Int.not_le] at c3p
        refine G_seq ?_
        refine G_region ?_
        refine GL_step rfl (PS_move rfl) ?_
        refine GL_step rfl (PS_eql rfl rfl) ?_
        refine GL_step rfl (PS_move rfl) ?_
        refine GL_gf (t := 51) rfl rfl rfl (fun q => PS_move rfl) ?_
        refine GL_gf (t := 51) rfl rfl rfl (fun q => PS_eql (cvE rfl (by rw [q]; rfl)) rfl) ?_
        refine GL_step rfl (PS_or rfl rfl (fun h => by rw [h]; rfl)) ?_
        refine GL_step rfl (PS_assign rfl) ?_
        refine GL_nil ?_
        refine GQ_sub (.cons (k := 1) rfl (.cons (k := 2) rfl (.cons (k := 4) rfl (.cons (k := 7) rfl (.cons (k := 8) rfl (.cons (k := 10) rfl (.cons (k := 24) rfl (.cons (k := 25) rfl (.cons (k := 48) rfl (.nil _)))))))))) ?_
        refine GQ_then ?_
        refine G_cond rfl (fun c4 => ?_) (fun c4 => ?_)
        · skip
          have c4p := c4
          try simp only [decide_eq_true_eq, decide_eq_false_iff_not, Bool.not_eq_true', Bool.not_eq_false', Bool.or_eq_true, Bool.and_eq_true, Bool.or_eq_false_iff, Bool.and_eq_false_iff, Int.not_lt, Int.not_le] at c4p
          refine G_seq ?_
          refine G_seq ?_
          refine G_region ?_
          refine GL_step rfl (PS_fieldAddr fa25_3 rfl) ?_
          refine GL_step rfl (PS_load rfl tys23 (.tail _ (.tail _ (.head _))) LineV.l3 rfl rfl) ?_
          refine GL_step rfl (PS_len_slice rfl Try.underlying23 rfl) ?_
          refine GL_step rfl (PS_lss rfl rfl) ?_
          refine GL_nil ?_
          refine GQ_sub (.cons (k := 1) rfl (.cons (k := 2) rfl (.cons (k := 4) rfl (.cons (k := 7) rfl (.cons (k := 8) rfl (.cons (k := 10) rfl (.cons (k := 24) rfl (.cons (k := 25) rfl (.cons (k := 58) rfl (.nil _)))))))))) ?_
          refine GQ_then ?_
          refine G_cond rfl (fun c5 => ?_) (fun c5 => ?_)
          · skip
            have c5p := c5
            try simp only [decide_eq_true_eq, decide_eq_false_iff_not, Bool.not_eq_true', Bool.not_eq_false', Bool.or_eq_true, Bool.and_eq_true, Bool.or_eq_false_iff, Bool.and_eq_false_iff, Int.not_lt, Int.not_le] at c5p
            rw [hg] at c5
            refine G_region ?_
            refine GL_step rfl (PS_fieldAddr fa25_3 rfl) ?_
            refine GL_step rfl (PS_load rfl tys23 (.tail _ (.tail _ (.head _))) LineV.l3 rfl rfl) ?_
            refine GL_step rfl (PS_move rfl) ?_
            refine GL_step rfl (PS_string Try.underlying72 Try.underlying9 Try.underlying5 rfl (Kn.own (.head _))) ?_
            refine GL_bs1F encS flS rfl Try.underlying23 sz9 zv9 rfl (by decide) (by decide) rfl rfl (fun b3 => ?_)
            refine GL_appendF flS rfl Try.underlying23 sz9 zv9 rfl by9 (by decide) (by decide) rfl rfl (fun w hS => Src.sliceT Try.underlying23 ((Kn.own (.head _)) w hS)) (by (try dsimp only); omega) (fun _ => (.tail (.tail .head))) (fun h6 h6l h6z => ?_)
            refine GL_step rfl (PS_fieldAddr fa25_3 rfl) ?_
            refine GL_unit (PU_store LineV.l3 rfl rfl rfl sz23 rfl (.tail (.tail (.tail .head)))) ?_
            refine GL_nil ?_
            refine GQ_sub (.cons (k := 1) rfl (.cons (k := 2) rfl (.cons (k := 4) rfl (.cons (k := 7) rfl (.cons (k := 10) rfl (.cons (k := 24) rfl (.cons (k := 25) rfl (.nil _)))))))) ?_
            refine GQ_then ?_
            refine G_region ?_
            refine GL_step rfl (PS_move rfl) ?_
            refine GL_step rfl (PS_eql rfl rfl) ?_
            refine GL_step rfl (PS_assign rfl) ?_
            refine GL_step rfl (PS_fieldAddr fa25_1 rfl) ?_
            refine GL_unit (PU_store LineV.l1 rfl rfl rfl sz4 rfl (.tail (.tail (.tail .head)))) ?_
            refine GL_step rfl (PS_fieldAddr fa25_2 rfl) ?_
            refine GL_unit (PU_store LineV.l2 rfl rfl rfl sz4 rfl (.tail (.tail (.tail .head)))) ?_
            refine GL_nil ?_
            refine GQ_sub (.cons (k := 1) rfl (.cons (k := 2) rfl (.cons (k := 4) rfl (.cons (k := 7) rfl (.cons (k := 8) rfl (.cons (k := 24) rfl (.cons (k := 25) rfl (.nil _)))))))) ?_
            refine GQ_block ?_
            refine GQ_block ?_
            refine GQ_then ?_
            refine G_region ?_
            refine GL_step rfl (PS_add rfl rfl (IntWalk.i64_in _ (by omega))) ?_
            refine GL_step rfl (PS_move rfl) ?_
            refine GL_nil ?_
            refine GQ_sub (.cons (k := 1) rfl (.cons (k := 2) rfl (.cons (k := 4) rfl (.cons (k := 7) rfl (.cons (k := 8) rfl (.cons (k := 24) rfl (.cons (k := 25) rfl (.nil _)))))))) ?_
            refine GQ_nilF encY 5 1 ?_
            refine GQ_pulls (.cons .head (.cons (.tail (.tail .head)) (.cons (.tail (.tail .head)) (.cons (.tail (.tail .head)) .nil)))) ?_
            refine GQ_dropr ?_
            refine GQ_next8_ (k + 1) _ _ _ _ _ _ _ ?_ ?_ (.cons (k := 7) rfl (.cons (k := 8) rfl (.cons (k := 25) rfl (.cons (k := 1) rfl (.cons (k := 2) rfl (.cons (k := 4) rfl (.cons (k := 24) rfl (.nil _)))))))) (.refl _)
            · exact ⟨hI11.next (by omega) (by simp only [Line.step, hl, c1, c2, c3, c4, c5, ↓reduceIte, Bool.false_eq_true]), (by (try dsimp only at *) <;> (try simp only [List.length_append, List.length_take, List.length_cons, List.length_nil]) <;> omega), (by (try dsimp only at *) <;> (try simp only [List.length_append, List.length_cons, List.length_nil]) <;> omega)⟩
            · omega
          · skip
            have c5p := c5
            try simp only [decide_eq_true_eq, decide_eq_false_iff_not, Bool.not_eq_true', Bool.not_eq_false', Bool.or_eq_true, Bool.and_eq_true, Bool.or_eq_false_iff, Bool.and_eq_false_iff, Int.not_lt, Int.not_le] at c5p
            rw [hg] at c5
            refine G_region ?_
            refine GL_step rfl (PS_move rfl) ?_
            refine GL_step rfl (PS_add rfl rfl (IntWalk.i64_in _ (by omega))) ?_
            refine GL_step rfl (PS_assign rfl) ?_
            refine GL_nil ?_
            refine GQ_sub (.cons (k := 1) rfl (.cons (k := 2) rfl (.cons (k := 4) rfl (.cons (k := 7) rfl (.cons (k := 10) rfl (.cons (k := 24) rfl (.cons (k := 25) rfl (.nil _)))))))) ?_
            refine GQ_then ?_
            refine G_region ?_
            refine GL_step rfl (PS_move rfl) ?_
            refine GL_step rfl (PS_eql rfl rfl) ?_
            refine GL_step rfl (PS_assign rfl) ?_
            refine GL_step rfl (PS_fieldAddr fa25_1 rfl) ?_
            refine GL_unit (PU_store LineV.l1 rfl rfl rfl sz4 rfl (.tail (.tail .head))) ?_
            refine GL_step rfl (PS_fieldAddr fa25_2 rfl) ?_
            refine GL_unit (PU_store LineV.l2 rfl rfl rfl sz4 rfl (.tail (.tail .head))) ?_
            refine GL_nil ?_
            refine GQ_sub (.cons (k := 1) rfl (.cons (k := 2) rfl (.cons (k := 4) rfl (.cons (k := 7) rfl (.cons (k := 8) rfl (.cons (k := 24) rfl (.cons (k := 25) rfl (.nil _)))))))) ?_
            refine GQ_block ?_
            refine GQ_block ?_
            refine GQ_then ?_
            refine G_region ?_
            refine GL_step rfl (PS_add rfl rfl (IntWalk.i64_in _ (by omega))) ?_
            refine GL_step rfl (PS_move rfl) ?_
            refine GL_nil ?_
            refine GQ_sub (.cons (k := 1) rfl (.cons (k := 2) rfl (.cons (k := 4) rfl (.cons (k := 7) rfl (.cons (k := 8) rfl (.cons (k := 24) rfl (.cons (k := 25) rfl (.nil _)))))))) ?_
            refine GQ_nilF encY 5 1 ?_
            refine GQ_pulls (.cons .head (.cons (.tail .head) (.cons (.tail .head) (.cons (.tail .head) .nil)))) ?_
            refine GQ_dropr ?_
            refine GQ_next8_ (k + 1) _ _ _ _ _ _ _ ?_ ?_ (.cons (k := 7) rfl (.cons (k := 8) rfl (.cons (k := 25) rfl (.cons (k := 1) rfl (.cons (k := 2) rfl (.cons (k := 4) rfl (.cons (k := 24) rfl (.nil _)))))))) (.refl _)
            · exact ⟨hI11.next (by omega) (by simp only [Line.step, hl, c1, c2, c3, c4, c5, ↓reduceIte, Bool.false_eq_true]), (by (try dsimp only at *) <;> (try simp only [List.length_append, List.length_take, List.length_cons, List.length_nil]) <;> omega), (by (try dsimp only at *) <;> (try simp only [List.length_append, List.length_cons, List.length_nil]) <;> omega)⟩
            · omega
        · skip
          have c4p := c4
          try simp only [decide_eq_true_eq, decide_eq_false_iff_not, Bool.not_eq_true', Bool.not_eq_false', Bool.or_eq_true, Bool.and_eq_true, Bool.or_eq_false_iff, Bool.and_eq_false_iff, Int.not_lt, Int.not_le] at c4p
          refine G_seq ?_
          refine G_region ?_
          refine GL_step rfl (PS_move rfl) ?_
          refine GL_step rfl (PS_eql rfl rfl) ?_
          refine GL_step rfl (PS_move rfl) ?_
          refine GL_gf (t := 75) rfl rfl rfl (fun q => PS_move rfl) ?_
          refine GL_gf (t := 75) rfl rfl rfl (fun q => PS_eql (cvE rfl (by rw [q]; rfl)) rfl) ?_
          refine GL_step rfl (PS_or rfl rfl (fun h => by rw [h]; rfl)) ?_
          refine GL_step rfl (PS_assign rfl) ?_
          refine GL_nil ?_
          refine GQ_sub (.cons (k := 1) rfl (.cons (k := 2) rfl (.cons (k := 4) rfl (.cons (k := 7) rfl (.cons (k := 8) rfl (.cons (k := 10) rfl (.cons (k := 24) rfl (.cons (k := 25) rfl (.cons (k := 72) rfl (.nil _)))))))))) ?_
          refine GQ_then ?_
          refine G_cond rfl (fun c6 => ?_) (fun c6 => ?_)
          · skip
            have c6p := c6
            try simp only [decide_eq_true_eq, decide_eq_false_iff_not, Bool.not_eq_true', Bool.not_eq_false', Bool.or_eq_true, Bool.and_eq_true, Bool.or_eq_false_iff, Bool.and_eq_false_iff, Int.not_lt, Int.not_le] at c6p
            refine G_seq ?_
            refine G_region ?_
            refine GL_step rfl (PS_move rfl) ?_
            refine GL_step rfl (PS_len_slice rfl Try.underlying72 rfl) ?_
            refine GL_step rfl (PS_gtr rfl rfl) ?_
            refine GL_nil ?_
            refine GQ_sub (.cons (k := 1) rfl (.cons (k := 2) rfl (.cons (k := 4) rfl (.cons (k := 7) rfl (.cons (k := 8) rfl (.cons (k := 24) rfl (.cons (k := 25) rfl (.cons (k := 81) rfl (.nil _))))))))) ?_
            refine GQ_then ?_
            refine G_cond rfl (fun c7 => ?_) (fun c7 => ?_)
            · skip
              have c7p := c7
              try simp only [decide_eq_true_eq, decide_eq_false_iff_not, Bool.not_eq_true', Bool.not_eq_false', Bool.or_eq_true, Bool.and_eq_true, Bool.or_eq_false_iff, Bool.and_eq_false_iff, Int.not_lt, Int.not_le] at c7p
              rw [hl] at c7
              refine G_region ?_
              refine GL_step rfl (PS_move rfl) ?_
              refine GL_step rfl (PS_move rfl) ?_
              refine GL_step rfl (PS_len_slice rfl Try.underlying72 rfl) ?_
              refine GL_step rfl (PS_sub rfl rfl (IntWalk.i64_in _ (by omega))) ?_
              refine GL_cutToF flY rfl Try.underlying72 sz5 rfl rfl (by omega) (by omega) (fun _ => .head) ?_
              refine GL_step rfl (PS_assign rfl) ?_
              refine GL_nil ?_
              refine GQ_sub (.cons (k := 1) rfl (.cons (k := 2) rfl (.cons (k := 4) rfl (.cons (k := 7) rfl (.cons (k := 8) rfl (.cons (k := 24) rfl (.cons (k := 25) rfl (.nil _)))))))) ?_
              refine GQ_block ?_
              refine GQ_block ?_
              refine GQ_then ?_
              refine G_region ?_
              refine GL_step rfl (PS_add rfl rfl (IntWalk.i64_in _ (by omega))) ?_
              refine GL_step rfl (PS_move rfl) ?_
              refine GL_nil ?_
              refine GQ_sub (.cons (k := 1) rfl (.cons (k := 2) rfl (.cons (k := 4) rfl (.cons (k := 7) rfl (.cons (k := 8) rfl (.cons (k := 24) rfl (.cons (k := 25) rfl (.nil _)))))))) ?_
              refine GQ_next8_ (k + 1) _ _ _ _ _ _ _ ?_ ?_ (.cons (k := 7) rfl (.cons (k := 8) rfl (.cons (k := 25) rfl (.cons (k := 1) rfl (.cons (k := 2) rfl (.cons (k := 4) rfl (.cons (k := 24) rfl (.nil _)))))))) (.refl _)
              · exact ⟨hI11.next (by omega) (by simp only [Line.step, hl, c1, c2, c3, c4, c6, c7, ↓reduceIte, Bool.false_eq_true]), (by (try dsimp only at *) <;> (try simp only [List.length_append, List.length_take, List.length_cons, List.length_nil]) <;> omega), (by (try dsimp only at *) <;> (try simp only [List.length_append, List.length_cons, List.length_nil]) <;> omega)⟩
              · omega
            · skip
              have c7p := c7
              try simp only [decide_eq_true_eq, decide_eq_false_iff_not, Bool.not_eq_true', Bool.not_eq_false', Bool.or_eq_true, Bool.and_eq_true, Bool.or_eq_false_iff, Bool.and_eq_false_iff, Int.not_lt, Int.not_le] at c7p
              rw [hl] at c7
              refine G_skip ?_
              refine GQ_sub (.cons (k := 1) rfl (.cons (k := 2) rfl (.cons (k := 4) rfl (.cons (k := 7) rfl (.cons (k := 8) rfl (.cons (k := 24) rfl (.cons (k := 25) rfl (.nil _)))))))) ?_
              refine GQ_block ?_
              refine GQ_block ?_
              refine GQ_then ?_
              refine G_region ?_
              refine GL_step rfl (PS_add rfl rfl (IntWalk.i64_in _ (by omega))) ?_
              refine GL_step rfl (PS_move rfl) ?_
              refine GL_nil ?_
              refine GQ_sub (.cons (k := 1) rfl (.cons (k := 2) rfl (.cons (k := 4) rfl (.cons (k := 7) rfl (.cons (k := 8) rfl (.cons (k := 24) rfl (.cons (k := 25) rfl (.nil _)))))))) ?_
              refine GQ_next8_ (k + 1) _ _ _ _ _ _ _ ?_ ?_ (.cons (k := 7) rfl (.cons (k := 8) rfl (.cons (k := 25) rfl (.cons (k := 1) rfl (.cons (k := 2) rfl (.cons (k := 4) rfl (.cons (k := 24) rfl (.nil _)))))))) (.refl _)
              · exact ⟨hI11.next (by omega) (by simp only [Line.step, hl, c1, c2, c3, c4, c6, c7, ↓reduceIte, Bool.false_eq_true]), (by (try dsimp only at *) <;> (try simp only [List.length_append, List.length_take, List.length_cons, List.length_nil]) <;> omega), (by (try dsimp only at *) <;> (try simp only [List.length_append, List.length_cons, List.length_nil]) <;> omega)⟩
              · omega
          · skip
            have c6p := c6
            try simp only [decide_eq_true_eq, decide_eq_false_iff_not, Bool.not_eq_true', Bool.not_eq_false', Bool.or_eq_true, Bool.and_eq_true, Bool.or_eq_false_iff, Bool.and_eq_false_iff, Int.not_lt, Int.not_le] at c6p
            refine G_seq ?_
            refine G_region ?_
            refine GL_step rfl (PS_move rfl) ?_
            refine GL_pure rfl cf50 (.cons rfl .nil) (fun w hS => line_plain_spec _ w) ?_
            refine GL_step rfl (PS_not rfl) ?_
            refine GL_step rfl (PS_assign rfl) ?_
            refine GL_nil ?_
            refine GQ_sub (.cons (k := 1) rfl (.cons (k := 2) rfl (.cons (k := 4) rfl (.cons (k := 7) rfl (.cons (k := 8) rfl (.cons (k := 10) rfl (.cons (k := 24) rfl (.cons (k := 25) rfl (.cons (k := 87) rfl (.nil _)))))))))) ?_
            refine GQ_then ?_
            refine G_cond rfl (fun c8 => ?_) (fun c8 => ?_)
            · skip
              have c8p := c8
              try simp only [decide_eq_true_eq, decide_eq_false_iff_not, Bool.not_eq_true', Bool.not_eq_false', Bool.or_eq_true, Bool.and_eq_true, Bool.or_eq_false_iff, Bool.and_eq_false_iff, Int.not_lt, Int.not_le] at c8p
              refine G_skip ?_
              refine GQ_sub (.cons (k := 1) rfl (.cons (k := 2) rfl (.cons (k := 4) rfl (.cons (k := 7) rfl (.cons (k := 8) rfl (.cons (k := 24) rfl (.cons (k := 25) rfl (.nil _)))))))) ?_
              refine GQ_block ?_
              refine GQ_block ?_
              refine GQ_then ?_
              refine G_region ?_
              refine GL_step rfl (PS_add rfl rfl (IntWalk.i64_in _ (by omega))) ?_
              refine GL_step rfl (PS_move rfl) ?_
              refine GL_nil ?_
              refine GQ_sub (.cons (k := 1) rfl (.cons (k := 2) rfl (.cons (k := 4) rfl (.cons (k := 7) rfl (.cons (k := 8) rfl (.cons (k := 24) rfl (.cons (k := 25) rfl (.nil _)))))))) ?_
              refine GQ_next8_ (k + 1) _ _ _ _ _ _ _ ?_ ?_ (.cons (k := 7) rfl (.cons (k := 8) rfl (.cons (k := 25) rfl (.cons (k := 1) rfl (.cons (k := 2) rfl (.cons (k := 4) rfl (.cons (k := 24) rfl (.nil _)))))))) (.refl _)
              · exact ⟨hI11.next (by omega) (by simp only [Line.step, hl, c1, c2, c3, c4, c6, c8, ↓reduceIte, Bool.false_eq_true]), (by (try dsimp only at *) <;> (try simp only [List.length_append, List.length_take, List.length_cons, List.length_nil]) <;> omega), (by (try dsimp only at *) <;> (try simp only [List.length_append, List.length_cons, List.length_nil]) <;> omega)⟩
              · omega
            · skip
              have c8p := c8
              try simp only [decide_eq_true_eq, decide_eq_false_iff_not, Bool.not_eq_true', Bool.not_eq_false', Bool.or_eq_true, Bool.and_eq_true, Bool.or_eq_false_iff, Bool.and_eq_false_iff, Int.not_lt, Int.not_le] at c8p
              refine G_seq ?_
              refine G_region ?_
              refine GL_step rfl (PS_move rfl) ?_
              refine GL_step rfl (PS_len_slice rfl Try.underlying72 rfl) ?_
              refine GL_step rfl (PS_geq rfl rfl) ?_
              refine GL_step rfl (PS_assign rfl) ?_
              refine GL_nil ?_
              refine GQ_sub (.cons (k := 1) rfl (.cons (k := 2) rfl (.cons (k := 4) rfl (.cons (k := 7) rfl (.cons (k := 8) rfl (.cons (k := 10) rfl (.cons (k := 24) rfl (.cons (k := 25) rfl (.cons (k := 91) rfl (.nil _)))))))))) ?_
              refine GQ_then ?_
              refine G_cond rfl (fun c9 => ?_) (fun c9 => ?_)
              · skip
                have c9p := c9
                try simp only [decide_eq_true_eq, decide_eq_false_iff_not, Bool.not_eq_true', Bool.not_eq_false', Bool.or_eq_true, Bool.and_eq_true, Bool.or_eq_false_iff, Bool.and_eq_false_iff, Int.not_lt, Int.not_le] at c9p
                rw [hl] at c9
                refine G_region ?_
                refine GL_step rfl (PS_fieldAddr fa25_1 rfl) ?_
                refine GL_unit (PU_store LineV.l1 rfl rfl rfl sz4 rfl (.tail (.tail .head))) ?_
                refine GL_nil ?_
                refine GQ_sub (.cons (k := 1) rfl (.cons (k := 2) rfl (.cons (k := 4) rfl (.cons (k := 7) rfl (.cons (k := 8) rfl (.cons (k := 24) rfl (.cons (k := 25) rfl (.nil _)))))))) ?_
                refine GQ_block ?_
                refine GQ_block ?_
                refine GQ_then ?_
                refine G_region ?_
                refine GL_step rfl (PS_add rfl rfl (IntWalk.i64_in _ (by omega))) ?_
                refine GL_step rfl (PS_move rfl) ?_
                refine GL_nil ?_
                refine GQ_sub (.cons (k := 1) rfl (.cons (k := 2) rfl (.cons (k := 4) rfl (.cons (k := 7) rfl (.cons (k := 8) rfl (.cons (k := 24) rfl (.cons (k := 25) rfl (.nil _)))))))) ?_
                refine GQ_next8_ (k + 1) _ _ _ _ _ _ _ ?_ ?_ (.cons (k := 7) rfl (.cons (k := 8) rfl (.cons (k := 25) rfl (.cons (k := 1) rfl (.cons (k := 2) rfl (.cons (k := 4) rfl (.cons (k := 24) rfl (.nil _)))))))) (.refl _)
                · exact ⟨hI11.next (by omega) (by simp only [Line.step, hl, c1, c2, c3, c4, c6, c8, c9, ↓reduceIte, Bool.false_eq_true]), (by (try dsimp only at *) <;> (try simp only [List.length_append, List.length_take, List.length_cons, List.length_nil]) <;> omega), (by (try dsimp only at *) <;> (try simp only [List.length_append, List.length_cons, List.length_nil]) <;> omega)⟩
                · omega
              · skip
                have c9p := c9
                try simp only [decide_eq_true_eq, decide_eq_false_iff_not, Bool.not_eq_true', Bool.not_eq_false', Bool.or_eq_true, Bool.and_eq_true, Bool.or_eq_false_iff, Bool.and_eq_false_iff, Int.not_lt, Int.not_le] at c9p
                rw [hl] at c9
                refine G_region ?_
                refine GL_step rfl (PS_move rfl) ?_
                refine GL_step rfl (PS_move rfl) ?_
                refine GL_bs1F encY flY rfl Try.underlying72 sz5 zv5 rfl (by decide) (by decide) rfl rfl (fun b4 => ?_)
                refine GL_appendF flY rfl Try.underlying72 sz5 zv5 rfl by5 (by decide) (by decide) rfl rfl (fun w hS => Src.sliceT Try.underlying72 ((Kn.own (.head _)) w hS)) (by (try dsimp only); omega) (fun _ => (.tail .head)) (fun h9 h9l h9z => ?_)
                refine GL_step rfl (PS_assign rfl) ?_
                refine GL_nil ?_
                refine GQ_sub (.cons (k := 1) rfl (.cons (k := 2) rfl (.cons (k := 4) rfl (.cons (k := 7) rfl (.cons (k := 8) rfl (.cons (k := 24) rfl (.cons (k := 25) rfl (.nil _)))))))) ?_
                refine GQ_block ?_
                refine GQ_block ?_
                refine GQ_then ?_
                refine G_region ?_
                refine GL_step rfl (PS_add rfl rfl (IntWalk.i64_in _ (by omega))) ?_
                refine GL_step rfl (PS_move rfl) ?_
                refine GL_nil ?_
                refine GQ_sub (.cons (k := 1) rfl (.cons (k := 2) rfl (.cons (k := 4) rfl (.cons (k := 7) rfl (.cons (k := 8) rfl (.cons (k := 24) rfl (.cons (k := 25) rfl (.nil _)))))))) ?_
                refine GQ_next8_ (k + 1) _ _ _ _ _ _ _ ?_ ?_ (.cons (k := 7) rfl (.cons (k := 8) rfl (.cons (k := 25) rfl (.cons (k := 1) rfl (.cons (k := 2) rfl (.cons (k := 4) rfl (.cons (k := 24) rfl (.nil _)))))))) (.cons _ (.refl _))
                · exact ⟨hI11.next (by omega) (by simp only [Line.step, hl, c1, c2, c3, c4, c6, c8, c9, ↓reduceIte, Bool.false_eq_true]), (by (try dsimp only at *) <;> (try simp only [List.length_append, List.length_take, List.length_cons, List.length_nil]) <;> omega), (by (try dsimp only at *) <;> (try simp only [List.length_append, List.length_cons, List.length_nil]) <;> omega)⟩
                · omega
    · skip
      have c2p := c2
      try simp only [decide_eq_true_eq, decide_eq_false_iff_not, Bool.not_eq_true', Bool.not_eq_false', Bool.or_eq_true, Bool.and_eq_true, Bool.or_eq_false_iff, Bool.and_eq_false_iff, Int.not_lt, Int.not_le] at c2p
      refine G_exit ?_
      refine GQ_then_exit ?_
      refine GQ_then_exit ?_
      refine GQ_block_exit ?_
      refine GQ_sub (.cons (k := 2) rfl (.cons (k := 4) rfl (.cons (k := 7) rfl (.cons (k := 8) rfl (.nil _))))) ?_
      refine GQ_then ?_
      refine G_seq ?_
      refine G_region ?_
      refine GL_step rfl (PS_move rfl) ?_
      refine GL_step rfl (PS_string Try.underlying72 Try.underlying9 Try.underlying5 rfl (Kn.own (.head _))) ?_
      refine GL_step rfl (PS_fieldAddr fa25_0 rfl) ?_
      refine GL_unit (PU_store LineV.l0 rfl rfl rfl sz9 rfl (.tail (.tail .head))) ?_
      refine GL_nil ?_
      refine GQ_sub (.cons (k := 2) rfl (.cons (k := 4) rfl (.cons (k := 7) rfl (.nil _)))) ?_
      refine GQ_then ?_
      refine G_seq ?_
      refine G_region ?_
      refine GL_step rfl (PS_loadA rfl tya25 (.tail _ (.tail _ (.head _))) (Lens.id LineV.fl.len LineV.fl.one) rfl) ?_
      refine GL_step rfl (PS_move rfl) ?_
      refine GL_unit (PU_store (Lens.id LineV.fl.len LineV.fl.one) rfl rfl rfl sz25 rfl (.tail (.tail (.tail .head)))) ?_
      refine GL_step rfl (PS_assign rfl) ?_
      refine GL_step rfl (PS_assign rfl) ?_
      refine GL_nil ?_
      refine GQ_sub (.cons (k := 4) rfl (.cons (k := 5) rfl (.cons (k := 6) rfl (.nil _)))) ?_
      refine GQ_then ?_
      refine G_ret ?_
      refine GQ_ret rfl (.cell rfl (.tail _ (.tail _ (.tail _ (.head _)))) (.inl ⟨(by rw [LineV.fl.len]; exact tya25), rfl⟩) (.tmp rfl (.tmp rfl .nil))) ?_
      intro w1 hS
      have hS := (hS.perm (Pulls.perm (.cons (.tail .head) .nil))).headL
      have e := hI11.done (by omega)
      exact ⟨_, .inr ⟨hgd, _, by rw [e]; rfl, by rw [e]; exact hg, by rw [e]⟩, hS⟩
theorem ref_clean_spec (s : Str) (hs : s.length ≤ 9223372036854775807) (w : World) : Ret Try.prog 54 #[vstr s] w fun v w' => v = .bool (Line.cleanK s) ∧ Keep w w' := by
  refine Ret_body [] [] Try.func54 rfl rfl rfl (St.start w []) ?_
  refine G_seq ?_
  refine G_region ?_
  refine GL_step rfl (PS_assign rfl) ?_
  refine GL_nil ?_
  refine GQ_sub (.cons (k := 0) rfl (.nil _)) ?_
  refine GQ_then ?_
  refine G_seq ?_
  refine G_seq ?_
  refine G_region ?_
  refine GL_step rfl (PS_move rfl) ?_
  refine GL_bytes rfl Try.underlying9 Try.underlying72 Try.underlying5 rfl (fun h1 h1l => ?_)
  refine GL_step rfl (PS_len_slice rfl Try.underlying72 rfl) ?_
  refine GL_step rfl (PS_move rfl) ?_
  refine GL_nil ?_
  refine GQ_sub (.cons (k := 0) rfl (.cons (k := 6) rfl (.cons (k := 7) rfl (.cons (k := 8) rfl (.nil _))))) ?_
  refine GQ_then ?_
  refine G_block ?_
  refine G_subF (.cons (k := 8) rfl (.cons (k := 0) rfl (.cons (k := 6) rfl (.cons (k := 7) rfl (.nil _))))) ?_
  refine G_loop1_ (fun (i : Int) => 0 ≤ i ∧ i ≤ s.length ∧ Line.cleanK s = ((s.drop i.toNat).all Line.plainK && decide ((s.length : Int) ≤ 60))) (fun (i : Int) => ((s.length : Int) - i).toNat) (fun (i : Int) => [(8, .int .i64 i)]) (fun (i : Int) => []) (0) ?_ rfl rfl (fun i hI1 => ?_)
  · exact ⟨by omega, by omega, rfl⟩
  obtain ⟨hI11, hI12, hI13⟩ := hI1
  refine G_seq ?_
  refine G_region ?_
  refine GL_step rfl (PS_lss rfl rfl) ?_
  refine GL_nil ?_
  refine GQ_then ?_
  refine G_seq ?_
  refine G_cond rfl (fun c1 => ?_) (fun c1 => ?_)
  · skip
    have c1p := c1
    try simp only [decide_eq_true_eq, decide_eq_false_iff_not, Bool.not_eq_true', Bool.not_eq_false', Bool.or_eq_true, Bool.and_eq_true, Bool.or_eq_false_iff, Bool.and_eq_false_iff, Int.not_lt, Int.not_le] at c1p
    refine G_skip ?_
    refine GQ_sub (.cons (k := 0) rfl (.cons (k := 6) rfl (.cons (k := 7) rfl (.cons (k := 8) rfl (.nil _))))) ?_
    refine GQ_then ?_
    refine G_seq ?_
    refine G_block ?_
    refine G_seq ?_
    refine G_region ?_
    refine GL_step rfl (PS_idxS is72 (by decide) (Kn.own (.head _)) rfl rfl (by omega) (by omega)) ?_
    refine GL_step rfl (PS_ldY rfl tys5 (Kn.own (.head _)) (by omega)) ?_
    refine GL_step rfl (PS_assign rfl) ?_
    refine GL_nil ?_
    refine GQ_sub (.cons (k := 0) rfl (.cons (k := 4) rfl (.cons (k := 6) rfl (.cons (k := 7) rfl (.cons (k := 8) rfl (.nil _)))))) ?_
    refine GQ_then ?_
    refine G_seq ?_
    refine G_region ?_
    refine GL_step rfl (PS_move rfl) ?_
    refine GL_step rfl (PS_lss rfl rfl) ?_
    refine GL_step rfl (PS_move rfl) ?_
    refine GL_gf (t := 14) rfl rfl rfl (fun q => PS_move rfl) ?_
    refine GL_gf (t := 14) rfl rfl rfl (fun q => PS_gtr (cvE rfl (by rw [q]; rfl)) rfl) ?_
    refine GL_step rfl (PS_or rfl rfl (fun h => by rw [h]; rfl)) ?_
    refine GL_nil ?_
    refine GQ_sub (.cons (k := 0) rfl (.cons (k := 6) rfl (.cons (k := 7) rfl (.cons (k := 8) rfl (.cons (k := 17) rfl (.nil _)))))) ?_
    refine GQ_then ?_
    refine G_cond rfl (fun c2 => ?_) (fun c2 => ?_)
    · skip
      have c2p := c2
      try simp only [decide_eq_true_eq, decide_eq_false_iff_not, Bool.not_eq_true', Bool.not_eq_false', Bool.or_eq_true, Bool.and_eq_true, Bool.or_eq_false_iff, Bool.and_eq_false_iff, Int.not_lt, Int.not_le] at c2p
      refine G_seq ?_
      refine G_region ?_
      refine GL_step rfl (PS_assign rfl) ?_
      refine GL_nil ?_
      refine GQ_sub (.cons (k := 2) rfl (.nil _)) ?_
      refine GQ_then ?_
      refine G_ret ?_
      refine GQ_block_ret ?_
      refine GQ_then_ret ?_
      refine GQ_then_ret ?_
      refine GQ_block_ret ?_
      refine GQ_then_ret ?_
      refine GQ_ret rfl (.tmp rfl .nil) ?_
      intro w1 hS; refine ⟨congrArg Value.bool ?_, hS.toKeep⟩; rw [hI13, Line.all_drop (d := 0) hI11 (by omega), show Line.plainK _ = false from by simp only [Line.plainK, c2]; rfl]; rfl
    · skip
      have c2p := c2
      try simp only [decide_eq_true_eq, decide_eq_false_iff_not, Bool.not_eq_true', Bool.not_eq_false', Bool.or_eq_true, Bool.and_eq_true, Bool.or_eq_false_iff, Bool.and_eq_false_iff, Int.not_lt, Int.not_le] at c2p
      refine G_skip ?_
      refine GQ_sub (.cons (k := 0) rfl (.cons (k := 6) rfl (.cons (k := 7) rfl (.cons (k := 8) rfl (.nil _))))) ?_
      refine GQ_block ?_
      refine GQ_then ?_
      refine G_region ?_
      refine GL_step rfl (PS_add rfl rfl (IntWalk.i64_in _ (by omega))) ?_
      refine GL_step rfl (PS_move rfl) ?_
      refine GL_nil ?_
      refine GQ_sub (.cons (k := 0) rfl (.cons (k := 6) rfl (.cons (k := 7) rfl (.cons (k := 8) rfl (.nil _))))) ?_
      refine GQ_next1_ (i + 1) ?_ ?_ (.cons (k := 8) rfl (.cons (k := 0) rfl (.cons (k := 6) rfl (.cons (k := 7) rfl (.nil _))))) (.refl _)
      · exact ⟨by omega, by omega, by rw [hI13, Line.all_drop (d := 0) hI11 (by omega), show Line.plainK _ = true from by simp only [Line.plainK, c2]; rfl]; rfl⟩
      · omega
  · skip
    have c1p := c1
    try simp only [decide_eq_true_eq, decide_eq_false_iff_not, Bool.not_eq_true', Bool.not_eq_false', Bool.or_eq_true, Bool.and_eq_true, Bool.or_eq_false_iff, Bool.and_eq_false_iff, Int.not_lt, Int.not_le] at c1p
    refine G_exit ?_
    refine GQ_then_exit ?_
    refine GQ_then_exit ?_
    refine GQ_block_exit ?_
    refine GQ_sub (.cons (k := 0) rfl (.nil _)) ?_
    refine GQ_then ?_
    refine G_seq ?_
    refine G_region ?_
    refine GL_step rfl (PS_move rfl) ?_
    refine GL_step rfl (PS_len_str rfl Try.underlying9 rfl) ?_
    refine GL_step rfl (PS_leq rfl rfl) ?_
    refine GL_step rfl (PS_assign rfl) ?_
    refine GL_nil ?_
    refine GQ_sub (.cons (k := 2) rfl (.nil _)) ?_
    refine GQ_then ?_
    refine G_ret ?_
    refine GQ_ret rfl (.tmp rfl .nil) ?_
    intro w1 hS; refine ⟨congrArg Value.bool ?_, hS.toKeep⟩; rw [hI13, show i.toNat = s.length from by omega, List.drop_length]; rfl
theorem ref_GoodLine_spec {t0 : Nat} (l : LineV) (qs : List Str) (hs : ∀ s ∈ qs, s.length ≤ 9223372036854775807) (hn : l.now.length ≤ 9223372036854775807) (hx : qs.length ≤ 9223372036854775807) (w : World) (r0 : Rd w l.queue t0 1 (qs.flatMap encS)) : Ret Try.prog 22 #[.agg l.enc.toArray] w fun v w' => v = .bool (Line.refGood l qs) ∧ Keep w w' := by
  have hl := r0.len1 flS (by decide)
  refine Ret_body [] [] Try.func22 rfl rfl rfl (St.start w []) ?_
  refine G_seq ?_
  refine G_region ?_
  refine GL_box rfl rfl rfl (fun b1 => ?_)
  refine GL_step rfl (PS_assign rfl) ?_
  refine GL_nil ?_
  refine GQ_sub (.cons (k := 1) rfl (.nil _)) ?_
  refine GQ_then ?_
  refine G_seq ?_
  refine G_seq ?_
  refine G_region ?_
  refine GL_step rfl (PS_fieldAddr fa25_3 rfl) ?_
  refine GL_step rfl (PS_load rfl tys23 (.head _) LineV.l3 rfl rfl) ?_
  refine GL_step rfl (PS_len_slice rfl Try.underlying23 rfl) ?_
  refine GL_step rfl (PS_move rfl) ?_
  refine GL_nil ?_
  refine GQ_sub (.cons (k := 1) rfl (.cons (k := 6) rfl (.cons (k := 7) rfl (.cons (k := 8) rfl (.nil _))))) ?_
  refine GQ_then ?_
  refine G_block ?_
  refine G_subF (.cons (k := 8) rfl (.cons (k := 1) rfl (.cons (k := 6) rfl (.cons (k := 7) rfl (.nil _))))) ?_
  refine G_loop1_ (fun (i : Int) => 0 ≤ i ∧ i ≤ qs.length ∧ qs.all Line.cleanK = (qs.drop i.toNat).all Line.cleanK) (fun (i : Int) => ((qs.length : Int) - i).toNat) (fun (i : Int) => [(8, .int .i64 i)]) (fun (i : Int) => []) (0) ?_ rfl rfl (fun i hI1 => ?_)
  · exact ⟨by omega, by omega, rfl⟩
  obtain ⟨hI11, hI12, hI13⟩ := hI1
  refine G_seq ?_
  refine G_region ?_
  refine GL_step rfl (PS_lss rfl rfl) ?_
  refine GL_nil ?_
  refine GQ_then ?_
  refine G_seq ?_
  refine G_cond rfl (fun c1 => ?_) (fun c1 => ?_)
  · skip
    have c1p := c1
    try simp only [decide_eq_true_eq, decide_eq_false_iff_not, Bool.not_eq_true', Bool.not_eq_false', Bool.or_eq_true, Bool.and_eq_true, Bool.or_eq_false_iff, Bool.and_eq_false_iff, Int.not_lt, Int.not_le] at c1p
    refine G_skip ?_
    refine GQ_sub (.cons (k := 1) rfl (.cons (k := 6) rfl (.cons (k := 7) rfl (.cons (k := 8) rfl (.nil _))))) ?_
    refine GQ_then ?_
    refine G_seq ?_
    refine G_block ?_
    refine G_seq ?_
    refine G_region ?_
    refine GL_step rfl (PS_idxS is23 (by decide) (Kn.old r0) rfl rfl (by omega) (by omega)) ?_
    refine GL_step rfl (PS_ldStr rfl tys9 (Kn.old r0) (by omega)) ?_
    refine GL_step rfl (PS_assign rfl) ?_
    refine GL_nil ?_
    refine GQ_sub (.cons (k := 1) rfl (.cons (k := 4) rfl (.cons (k := 6) rfl (.cons (k := 7) rfl (.cons (k := 8) rfl (.nil _)))))) ?_
    refine GQ_then ?_
    refine G_seq ?_
    refine G_region ?_
    refine GL_step rfl (PS_move rfl) ?_
    refine GL_pure rfl cf54 (.cons rfl .nil) (fun w hS => ref_clean_spec _ (Line.getD_le hs _) w) ?_
    refine GL_step rfl (PS_not rfl) ?_
    refine GL_nil ?_
    refine GQ_sub (.cons (k := 1) rfl (.cons (k := 6) rfl (.cons (k := 7) rfl (.cons (k := 8) rfl (.cons (k := 14) rfl (.nil _)))))) ?_
    refine GQ_then ?_
    refine G_cond rfl (fun c2 => ?_) (fun c2 => ?_)
    · skip
      have c2p := c2
      try simp only [decide_eq_true_eq, decide_eq_false_iff_not, Bool.not_eq_true', Bool.not_eq_false', Bool.or_eq_true, Bool.and_eq_true, Bool.or_eq_false_iff, Bool.and_eq_false_iff, Int.not_lt, Int.not_le] at c2p
      refine G_seq ?_
      refine G_region ?_
      refine GL_step rfl (PS_assign rfl) ?_
      refine GL_nil ?_
      refine GQ_sub (.cons (k := 2) rfl (.nil _)) ?_
      refine GQ_then ?_
      refine G_ret ?_
      refine GQ_block_ret ?_
      refine GQ_then_ret ?_
      refine GQ_then_ret ?_
      refine GQ_block_ret ?_
      refine GQ_then_ret ?_
      refine GQ_ret rfl (.tmp rfl .nil) ?_
      intro w1 hS; refine ⟨congrArg Value.bool ?_, hS.toKeep⟩; rw [Line.refGood, hI13, Line.all_drop (d := []) hI11 (by omega), show Line.cleanK _ = false from by simpa using c2]; rfl
    · skip
      have c2p := c2
      try simp only [decide_eq_true_eq, decide_eq_false_iff_not, Bool.not_eq_true', Bool.not_eq_false', Bool.or_eq_true, Bool.and_eq_true, Bool.or_eq_false_iff, Bool.and_eq_false_iff, Int.not_lt, Int.not_le] at c2p
      refine G_skip ?_
      refine GQ_sub (.cons (k := 1) rfl (.cons (k := 6) rfl (.cons (k := 7) rfl (.cons (k := 8) rfl (.nil _))))) ?_
      refine GQ_block ?_
      refine GQ_then ?_
      refine G_region ?_
      refine GL_step rfl (PS_add rfl rfl (IntWalk.i64_in _ (by omega))) ?_
      refine GL_step rfl (PS_move rfl) ?_
      refine GL_nil ?_
      refine GQ_sub (.cons (k := 1) rfl (.cons (k := 6) rfl (.cons (k := 7) rfl (.cons (k := 8) rfl (.nil _))))) ?_
      refine GQ_next1_ (i + 1) ?_ ?_ (.cons (k := 8) rfl (.cons (k := 1) rfl (.cons (k := 6) rfl (.cons (k := 7) rfl (.nil _))))) (.refl _)
      · exact ⟨by omega, by omega, by rw [hI13, Line.all_drop (d := []) hI11 (by omega), show Line.cleanK _ = true from by simpa using c2]; rfl⟩
      · omega
  · skip
    have c1p := c1
    try simp only [decide_eq_true_eq, decide_eq_false_iff_not, Bool.not_eq_true', Bool.not_eq_false', Bool.or_eq_true, Bool.and_eq_true, Bool.or_eq_false_iff, Bool.and_eq_false_iff, Int.not_lt, Int.not_le] at c1p
    refine G_exit ?_
    refine GQ_then_exit ?_
    refine GQ_then_exit ?_
    refine GQ_block_exit ?_
    refine GQ_sub (.cons (k := 1) rfl (.nil _)) ?_
    refine GQ_then ?_
    refine G_seq ?_
    refine G_region ?_
    refine GL_step rfl (PS_fieldAddr fa25_0 rfl) ?_
    refine GL_step rfl (PS_load rfl tys9 (.head _) LineV.l0 rfl rfl) ?_
    refine GL_pure rfl cf54 (.cons rfl .nil) (fun w hS => ref_clean_spec _ hn w) ?_
    refine GL_step rfl (PS_move rfl) ?_
    refine GL_gt (t := 19) rfl rfl rfl (fun q => PS_fieldAddr fa25_3 rfl) ?_
    refine GL_gt (t := 19) rfl rfl rfl (fun q => PS_load (cvE rfl q) tys23 (.head _) LineV.l3 rfl rfl) ?_
    refine GL_gt (t := 19) rfl rfl rfl (fun q => PS_len_slice rfl Try.underlying23 (cvE rfl q)) ?_
    refine GL_gt (t := 19) rfl rfl rfl (fun q => PS_leq (cvE rfl q) rfl) ?_
    refine GL_step rfl (PS_and rfl rfl (fun h => h)) ?_
    refine GL_step rfl (PS_move rfl) ?_
    refine GL_gt (t := 25) rfl rfl rfl (fun q => PS_fieldAddr fa25_2 rfl) ?_
    refine GL_gt (t := 25) rfl rfl rfl (fun q => PS_load (cvE rfl q) tys4 (.head _) LineV.l2 rfl rfl) ?_
    refine GL_gt (t := 25) rfl rfl rfl (fun q => PS_not (cvE rfl q)) ?_
    refine GL_gt (t := 25) rfl rfl rfl (fun q => PS_move (cvE rfl q)) ?_
    refine GL_gfc (t := 29) rfl rfl rfl (fun qc q => PS_fieldAddr fa25_0 rfl) ?_
    refine GL_gfc (t := 29) rfl rfl rfl (fun qc q => PS_load (cvE rfl (by rw [qc, q]; rfl)) tys9 (.head _) LineV.l0 rfl rfl) ?_
    refine GL_gfc (t := 29) rfl rfl rfl (fun qc q => PS_eql_str (cvE rfl (by rw [qc, q]; rfl)) rfl) ?_
    refine GL_gfc (t := 29) rfl rfl rfl (fun qc q => PS_move (cvE rfl (by rw [qc, q]; rfl))) ?_
    refine GL_gtc (t := 33) rfl rfl rfl (fun qc q => PS_fieldAddr fa25_1 rfl) ?_
    refine GL_gtc (t := 33) rfl rfl rfl (fun qc q => PS_load (cvE rfl (by rw [qc, q]; rfl)) tys4 (.head _) LineV.l1 rfl rfl) ?_
    refine GL_gtc (t := 33) rfl rfl rfl (fun qc q => PS_not (cvE rfl (by rw [qc, q]; rfl))) ?_
    refine GL_gfc (t := 29) rfl rfl rfl (fun qc q => PS_and (cvE rfl (by rw [qc, q]; rfl)) rfl (fun h => by rw [qc, q, h]; rfl)) ?_
    refine GL_gt (t := 25) rfl rfl rfl (fun q => PS_or (cvE rfl q) rfl (fun h => by rw [q, h]; rfl)) ?_
    refine GL_step rfl (PS_and rfl rfl (fun h => h)) ?_
    refine GL_step rfl (PS_assign rfl) ?_
    refine GL_nil ?_
    refine GQ_sub (.cons (k := 2) rfl (.nil _)) ?_
    refine GQ_then ?_
    refine G_ret ?_
    refine GQ_ret rfl (.tmp rfl .nil) ?_
    intro w1 hS; refine ⟨congrArg Value.bool ?_, hS.toKeep⟩; rw [Line.refGood, hI13, show i.toNat = qs.length from by omega, List.drop_length]; rfl
theorem ref_FeedText_1_spec (b c : Nat) (now : Str) (long ret : Bool) (queue : List Str) (g : Hd) (lost : Int) (hg : g.len = queue.length) (hq : queue.length ≤ 6) (hl : 0 ≤ lost ∧ lost ≤ 9000000000000000000) : Ctr Try.prog 51 #[.pointer (some ⟨b, 0, none⟩), .pointer (some ⟨c, 0, none⟩)] [Res.box b 25 (LineV.enc ⟨now, long, ret, g⟩), Res.own g 9 1 (queue.flatMap encS), Res.box c 3 [.int .i64 lost]] (fun v B => ∃ g' : Hd, v = .tuple #[] ∧ g'.len = (if decide ((queue.length : Int) = 6) = true then queue else queue ++ [now]).length ∧ B = [Res.box b 25 (LineV.enc ⟨[], false, ret, g'⟩), Res.own g' 9 1 ((if decide ((queue.length : Int) = 6) = true then queue else queue ++ [now]).flatMap encS), Res.box c 3 [.int .i64 (if decide ((queue.length : Int) = 6) = true then lost + 1 else lost)]]) := by
  intro w hS0
  refine Ret_body _ _ Try.func51 rfl rfl rfl (hS0) ?_
  refine G_seq ?_
  refine G_seq ?_
  refine G_region ?_
  refine GL_step rfl (PS_fieldAddr fa25_3 rfl) ?_
  refine GL_step rfl (PS_load rfl tys23 (.head _) LineV.l3 rfl rfl) ?_
  refine GL_step rfl (PS_len_slice rfl Try.underlying23 rfl) ?_
  refine GL_step rfl (PS_eql rfl rfl) ?_
  refine GL_nil ?_
  refine GQ_sub (.cons (k := 0) rfl (.cons (k := 1) rfl (.cons (k := 5) rfl (.nil _)))) ?_
  refine GQ_then ?_
  refine G_cond rfl (fun c1 => ?_) (fun c1 => ?_)
  · skip
    have c1p := c1
    try simp only [decide_eq_true_eq, decide_eq_false_iff_not, Bool.not_eq_true', Bool.not_eq_false', Bool.or_eq_true, Bool.and_eq_true, Bool.or_eq_false_iff, Bool.and_eq_false_iff, Int.not_lt, Int.not_le] at c1p
    refine G_region ?_
    refine GL_step rfl (PS_load1 rfl tys3 (.tail _ (.tail _ (.head _)))) ?_
    refine GL_step rfl (PS_add rfl rfl (IntWalk.i64_in _ (by omega))) ?_
    refine GL_unit (PU_store1 rfl rfl rfl rfl sz3 (.tail (.tail .head))) ?_
    refine GL_nil ?_
    refine GQ_sub (.cons (k := 0) rfl (.nil _)) ?_
    refine GQ_then ?_
    refine G_region ?_
    refine GL_step rfl (PS_fieldAddr fa25_0 rfl) ?_
    refine GL_unit (PU_store LineV.l0 rfl rfl rfl sz9 rfl .head) ?_
    refine GL_step rfl (PS_fieldAddr fa25_1 rfl) ?_
    refine GL_unit (PU_store LineV.l1 rfl rfl rfl sz4 rfl .head) ?_
    refine GL_nil ?_
    refine GQ_end rfl .nil ?_
    intro w1 hS
    have hS := (hS.perm (Pulls.perm (.cons .head (.cons .head (.cons .head .nil))))).headL
    rw [hg] at c1
    exact ⟨_, ⟨_, rfl, by rw [if_t c1]; exact hg, by rw [if_t c1, if_t c1]⟩, hS⟩
  · skip
    have c1p := c1
    try simp only [decide_eq_true_eq, decide_eq_false_iff_not, Bool.not_eq_true', Bool.not_eq_false', Bool.or_eq_true, Bool.and_eq_true, Bool.or_eq_false_iff, Bool.and_eq_false_iff, Int.not_lt, Int.not_le] at c1p
    refine G_region ?_
    refine GL_step rfl (PS_fieldAddr fa25_3 rfl) ?_
    refine GL_step rfl (PS_load rfl tys23 (.head _) LineV.l3 rfl rfl) ?_
    refine GL_step rfl (PS_fieldAddr fa25_0 rfl) ?_
    refine GL_step rfl (PS_load rfl tys9 (.head _) LineV.l0 rfl rfl) ?_
    refine GL_bs1F encS flS rfl Try.underlying23 sz9 zv9 rfl (by decide) (by decide) rfl rfl (fun b1 => ?_)
    refine GL_appendF flS rfl Try.underlying23 sz9 zv9 rfl by9 (by decide) (by decide) rfl rfl (fun w hS => Src.sliceT Try.underlying23 ((Kn.own (.head _)) w hS)) (by (try dsimp only); omega) (fun _ => (.tail (.tail .head))) (fun h1 h1l h1z => ?_)
    refine GL_step rfl (PS_fieldAddr fa25_3 rfl) ?_
    refine GL_unit (PU_store LineV.l3 rfl rfl rfl sz23 rfl (.tail .head)) ?_
    refine GL_nil ?_
    refine GQ_sub (.cons (k := 0) rfl (.nil _)) ?_
    refine GQ_then ?_
    refine G_region ?_
    refine GL_step rfl (PS_fieldAddr fa25_0 rfl) ?_
    refine GL_unit (PU_store LineV.l0 rfl rfl rfl sz9 rfl (.tail .head)) ?_
    refine GL_step rfl (PS_fieldAddr fa25_1 rfl) ?_
    refine GL_unit (PU_store LineV.l1 rfl rfl rfl sz4 rfl (.tail .head)) ?_
    refine GL_nil ?_
    refine GQ_end rfl .nil ?_
    intro w1 hS
    have hS := (hS.perm (Pulls.perm (.cons (.tail .head) (.cons (.tail .head) (.cons (.tail .head) .nil))))).headL
    rw [hg] at c1
    exact ⟨_, ⟨h1, rfl, by rw [if_f c1, List.length_append, List.length_singleton]; (try dsimp only at *); omega, by rw [if_f c1, if_f c1]⟩, hS⟩
theorem ref_bytesOf_spec {t0 : Nat} (h : Hd) (xs : List Int) (h9 : ∀ x ∈ xs, 0 ≤ x ∧ x ≤ 255) (hn : xs.length ≤ 1000000) (w : World) (r0 : Rd w h t0 1 (xs.flatMap encI)) : Ret Try.prog 52 #[h.val] w fun v w' => v = vstr (Telnet.bytesOf xs) ∧ Keep w w' := by
  have hl := r0.len1 flI (by decide)
  refine Ret_body [] [] Try.func52 rfl rfl rfl (St.start w []) ?_
  refine G_seq ?_
  refine G_region ?_
  refine GL_step rfl (PS_assign rfl) ?_
  refine GL_nil ?_
  refine GQ_sub (.cons (k := 0) rfl (.nil _)) ?_
  refine GQ_then ?_
  refine G_seq ?_
  refine G_region ?_
  refine GL_step rfl (PS_assign rfl) ?_
  refine GL_nil ?_
  refine GQ_then ?_
  refine G_seq ?_
  refine G_seq ?_
  refine G_region ?_
  refine GL_step rfl (PS_move rfl) ?_
  refine GL_step rfl (PS_len_slice rfl Try.underlying60 rfl) ?_
  refine GL_step rfl (PS_move rfl) ?_
  refine GL_nil ?_
  refine GQ_sub (.cons (k := 3) rfl (.cons (k := 6) rfl (.cons (k := 7) rfl (.cons (k := 8) rfl (.nil _))))) ?_
  refine GQ_then ?_
  refine G_block ?_
  refine G_subF (.cons (k := 3) rfl (.cons (k := 8) rfl (.cons (k := 6) rfl (.cons (k := 7) rfl (.nil _))))) ?_
  refine G_loop2_ (fun (k : Int) (s : Str) => 0 ≤ k ∧ k ≤ xs.length ∧ Telnet.bytesOf xs = s ++ Telnet.bytesOf (xs.drop k.toNat) ∧ s.length = k.toNat) (fun (k : Int) (s : Str) => ((xs.length : Int) - k).toNat) (fun (k : Int) (s : Str) => [(3, vstr s), (8, .int .i64 k)]) (fun (k : Int) (s : Str) => []) (0) ([]) ?_ rfl rfl (fun k s hI1 => ?_)
  · exact ⟨by omega, by omega, rfl, rfl⟩
  obtain ⟨hI11, hI12, hI13, hI14⟩ := hI1
  refine G_seq ?_
  refine G_region ?_
  refine GL_step rfl (PS_lss rfl rfl) ?_
  refine GL_nil ?_
  refine GQ_then ?_
  refine G_seq ?_
  refine G_cond rfl (fun c1 => ?_) (fun c1 => ?_)
  · skip
    have c1p := c1
    try simp only [decide_eq_true_eq, decide_eq_false_iff_not, Bool.not_eq_true', Bool.not_eq_false', Bool.or_eq_true, Bool.and_eq_true, Bool.or_eq_false_iff, Bool.and_eq_false_iff, Int.not_lt, Int.not_le] at c1p
    have hx := h9 (xs.getD k.toNat 0) (Telnet.getD_mem (by omega))
    refine G_skip ?_
    refine GQ_sub (.cons (k := 3) rfl (.cons (k := 6) rfl (.cons (k := 7) rfl (.cons (k := 8) rfl (.nil _))))) ?_
    refine GQ_then ?_
    refine G_seq ?_
    refine G_block ?_
    refine G_seq ?_
    refine G_region ?_
    refine GL_step rfl (PS_idxS is60 (by decide) (Kn.old r0) rfl rfl (by omega) (by omega)) ?_
    refine GL_step rfl (PS_ldInt rfl tys3 (Kn.old r0) (by omega)) ?_
    refine GL_step rfl (PS_assign rfl) ?_
    refine GL_nil ?_
    refine GQ_sub (.cons (k := 3) rfl (.cons (k := 5) rfl (.cons (k := 6) rfl (.cons (k := 7) rfl (.cons (k := 8) rfl (.nil _)))))) ?_
    refine GQ_then ?_
    refine G_region ?_
    refine GL_step rfl (PS_move rfl) ?_
    refine GL_step rfl (PS_move rfl) ?_
    refine GL_step rfl (PS_toInt Try.underlying5 Try.underlying3 rfl (IntWalk.u8_in _ (by first | omega | (simp only [List.length_cons, List.length_nil]; omega)))) ?_
    refine GL_bs1 rfl Try.underlying72 sz5 zv5 rfl (by decide) (by decide) rfl rfl rfl (fun b1 => ?_)
    refine GL_step rfl (PS_stringE (s := [u8 (xs.getD k.toNat 0)]) (by show [_] = encY _ ++ []; simp only [encY, u8_val hx.1 hx.2, List.append_nil]) Try.underlying72 Try.underlying9 Try.underlying5 rfl (Kn.own (.head _))) ?_
    refine GL_step rfl (PS_add_str rfl rfl (by first | omega | (simp only [List.length_cons, List.length_nil]; omega))) ?_
    refine GL_step rfl (PS_assign rfl) ?_
    refine GL_nil ?_
    refine GQ_sub (.cons (k := 3) rfl (.cons (k := 6) rfl (.cons (k := 7) rfl (.cons (k := 8) rfl (.nil _))))) ?_
    refine GQ_block ?_
    refine GQ_then ?_
    refine G_region ?_
    refine GL_step rfl (PS_add rfl rfl (IntWalk.i64_in _ (by first | omega | (simp only [List.length_cons, List.length_nil]; omega)))) ?_
    refine GL_step rfl (PS_move rfl) ?_
    refine GL_nil ?_
    refine GQ_sub (.cons (k := 3) rfl (.cons (k := 6) rfl (.cons (k := 7) rfl (.cons (k := 8) rfl (.nil _))))) ?_
    refine GQ_next2_ _ _ ?_ ?_ (.cons (k := 3) rfl (.cons (k := 8) rfl (.cons (k := 6) rfl (.cons (k := 7) rfl (.nil _))))) (.cons _ (.refl _))
    · exact ⟨by omega, by omega, by rw [hI13, Telnet.bytesOf_drop hI11 (by omega), List.append_assoc], by simp only [List.length_append, List.length_cons, List.length_nil]; omega⟩
    · omega
  · skip
    have c1p := c1
    try simp only [decide_eq_true_eq, decide_eq_false_iff_not, Bool.not_eq_true', Bool.not_eq_false', Bool.or_eq_true, Bool.and_eq_true, Bool.or_eq_false_iff, Bool.and_eq_false_iff, Int.not_lt, Int.not_le] at c1p
    refine G_exit ?_
    refine GQ_then_exit ?_
    refine GQ_then_exit ?_
    refine GQ_block_exit ?_
    refine GQ_sub (.cons (k := 3) rfl (.nil _)) ?_
    refine GQ_then ?_
    refine G_seq ?_
    refine G_region ?_
    refine GL_step rfl (PS_move rfl) ?_
    refine GL_step rfl (PS_assign rfl) ?_
    refine GL_nil ?_
    refine GQ_sub (.cons (k := 2) rfl (.nil _)) ?_
    refine GQ_then ?_
    refine G_ret ?_
    refine GQ_ret rfl (.tmp rfl .nil) ?_
    intro w1 hS; refine ⟨?_, hS.toKeep⟩; obtain rfl : k = xs.length := by omega
    rw [hI13]; simp [tup, Telnet.bytesOf]
theorem ref_FeedText_spec {t0 : Nat} (l : LineV) (qs : List Str) (u : Str) (hu : u.length ≤ 9000000000000000000) (hs : ∀ s ∈ qs, s.length ≤ 9223372036854775807) (hn : l.now.length ≤ 9223372036854775807) (hx : qs.length ≤ 9223372036854775807) : CtrR Try.prog 20 #[.agg l.enc.toArray, vstr u] [] (fun w => Rd w l.queue t0 1 (qs.flatMap encS)) (fun v B => (Line.good l qs = false ∧ v = .tuple #[.agg l.enc.toArray, .int .i64 0, .int .i64 2] ∧ B = []) ∨ (Line.good l qs = true ∧ ∃ h' : Hd, v = .tuple #[.agg (LineV.enc ⟨(Line.feed (Line.start l qs) u).now, (Line.feed (Line.start l qs) u).long, (Line.feed (Line.start l qs) u).ret, h'⟩).toArray, .int .i64 (Line.feed (Line.start l qs) u).lost, .int .i64 0] ∧ h'.len = (Line.feed (Line.start l qs) u).queue.length ∧ B = [Res.own h' 9 1 ((Line.feed (Line.start l qs) u).queue.flatMap encS)])) := by
  intro w hS0 hH
  have r0 := hH
  have hl0 := r0.len1 flS (by decide)
  refine Ret_body _ _ Try.func20 rfl rfl rfl (hS0) ?_
  refine G_seq ?_
  refine G_region ?_
  refine GL_box rfl rfl rfl (fun b1 => ?_)
  refine GL_alloc rfl zv25 rfl (fun b2 => ?_)
  refine GL_step rfl (PS_assign rfl) ?_
  refine GL_step rfl (PS_assign rfl) ?_
  refine GL_nil ?_
  refine GQ_sub (.cons (k := 1) rfl (.cons (k := 2) rfl (.cons (k := 4) rfl (.nil _)))) ?_
  refine GQ_then ?_
  refine G_seq ?_
  refine G_seq ?_
  refine G_region ?_
  refine GL_step rfl (PS_loadA rfl tya25 (.tail _ (.head _)) (Lens.id LineV.fl.len LineV.fl.one) rfl) ?_
  refine GL_pure rfl cf22 (.cons rfl .nil) (fun w hS => ref_GoodLine_spec _ _ hs hn hx w ((Kn.old r0) w hS)) ?_
  refine GL_step rfl (PS_not rfl) ?_
  refine GL_nil ?_
  refine GQ_sub (.cons (k := 1) rfl (.cons (k := 2) rfl (.cons (k := 4) rfl (.cons (k := 13) rfl (.nil _))))) ?_
  refine GQ_then ?_
  refine G_cond rfl (fun c1 => ?_) (fun c1 => ?_)
  · skip
    have c1p := c1
    try simp only [decide_eq_true_eq, decide_eq_false_iff_not, Bool.not_eq_true', Bool.not_eq_false', Bool.or_eq_true, Bool.and_eq_true, Bool.or_eq_false_iff, Bool.and_eq_false_iff, Int.not_lt, Int.not_le] at c1p
    refine G_seq ?_
    refine G_region ?_
    refine GL_step rfl (PS_loadA rfl tya25 (.tail _ (.head _)) (Lens.id LineV.fl.len LineV.fl.one) rfl) ?_
    refine GL_unit (PU_store (Lens.id LineV.fl.len LineV.fl.one) rfl rfl rfl sz25 rfl .head) ?_
    refine GL_step rfl (PS_assign rfl) ?_
    refine GL_step rfl (PS_assign rfl) ?_
    refine GL_nil ?_
    refine GQ_sub (.cons (k := 4) rfl (.cons (k := 5) rfl (.cons (k := 6) rfl (.nil _)))) ?_
    refine GQ_then ?_
    refine G_ret ?_
    refine GQ_then_ret ?_
    refine GQ_ret rfl (.cell rfl (.head _) (.inl ⟨(by rw [LineV.fl.len]; exact tya25), rfl⟩) (.tmp rfl (.tmp rfl .nil))) ?_
    intro w1 hS
    have hS := (hS.perm (Pulls.perm .nil)).headL
    exact ⟨_, .inl ⟨by rw [← Line.refGood_eq]; simpa using c1, rfl, rfl⟩, hS⟩
  · skip
    have c1p := c1
    try simp only [decide_eq_true_eq, decide_eq_false_iff_not, Bool.not_eq_true', Bool.not_eq_false', Bool.or_eq_true, Bool.and_eq_true, Bool.or_eq_false_iff, Bool.and_eq_false_iff, Int.not_lt, Int.not_le] at c1p
    have hgd : Line.good l qs = true := by rw [← Line.refGood_eq]; simpa using c1
    have hok := Line.start_ok hgd hl0
    have hq6 : qs.length ≤ 6 := hok.len
    refine G_skip ?_
    refine GQ_sub (.cons (k := 1) rfl (.cons (k := 2) rfl (.cons (k := 4) rfl (.nil _)))) ?_
    refine GQ_then ?_
    refine G_seq ?_
    refine G_region ?_
    refine GL_step rfl (PS_loadA rfl tya25 (.tail _ (.head _)) (Lens.id LineV.fl.len LineV.fl.one) rfl) ?_
    refine GL_callR rfl cf19 (.cons rfl .nil) .nil (ref_CopyLine_spec _ _ (by omega)) (fun w hS => (Kn.old r0) w hS) (fun v1 B hv => ?_)
    obtain ⟨y2, rfl, y3, rfl⟩ := hv
    refine GL_unit (PU_store (Lens.id LineV.fl.len LineV.fl.one) rfl rfl rfl sz25 rfl (.tail (.tail .head))) ?_
    refine GL_nil ?_
    refine GQ_sub (.cons (k := 1) rfl (.cons (k := 2) rfl (.cons (k := 4) rfl (.nil _)))) ?_
    refine GQ_then ?_
    refine G_seq ?_
    refine G_region ?_
    refine GL_alloc rfl zv3 rfl (fun b3 => ?_)
    refine GL_unit (PU_store1 rfl rfl rfl rfl sz3 .head) ?_
    refine GL_nil ?_
    refine GQ_then ?_
    refine G_seq ?_
    refine G_region ?_
    refine GL_step rfl (PS_makeFunc (.cons rfl (.cons rfl .nil))) ?_
    refine GL_step rfl (PS_assign rfl) ?_
    refine GL_nil ?_
    refine GQ_sub (.cons (k := 1) rfl (.cons (k := 2) rfl (.cons (k := 4) rfl (.cons (k := 7) rfl (.cons (k := 8) rfl (.nil _)))))) ?_
    refine GQ_then ?_
    refine G_seq ?_
    refine G_seq ?_
    refine G_region ?_
    refine GL_step rfl (PS_assign rfl) ?_
    refine GL_nil ?_
    refine GQ_then ?_
    refine G_block ?_
    refine G_subF (.cons (k := 9) rfl (.cons (k := 1) rfl (.cons (k := 2) rfl (.cons (k := 4) rfl (.cons (k := 7) rfl (.cons (k := 8) rfl (.nil _))))))) ?_
    refine G_pull (.tail (.tail (.tail .head))) ?_
    refine G_pull (.tail (.tail .head)) ?_
    refine G_pull (.tail (.tail .head)) ?_
    refine G_loop7_ (fun (k : Int) (now : Str) (long : Bool) (ret : Bool) (queue : List Str) (lost : Int) (g : Hd) => Line.RI (Line.start l qs) u k ⟨now, long, ret, queue, lost⟩ ∧ g.len = queue.length) (fun (k : Int) (now : Str) (long : Bool) (ret : Bool) (queue : List Str) (lost : Int) (g : Hd) => ((u.length : Int) - k).toNat) (fun (k : Int) (now : Str) (long : Bool) (ret : Bool) (queue : List Str) (lost : Int) (g : Hd) => [(9, .int .i64 k)]) (fun (k : Int) (now : Str) (long : Bool) (ret : Bool) (queue : List Str) (lost : Int) (g : Hd) => [Res.box b3 3 [.int .i64 lost], Res.own g 9 1 (queue.flatMap encS), Res.box b1 25 (LineV.enc ⟨now, long, ret, g⟩)]) (0) (l.now) (l.long) (l.ret) (qs) (0) (_) ?_ rfl rfl (fun k now long ret queue lost g hI1 => ?_)
    · exact ⟨Line.RI.start hok rfl, by assumption⟩
    obtain ⟨hI11, hg⟩ := hI1; have hk0 := hI11.k0; have hk1 := hI11.k1; have hn6 : now.length ≤ 60 := ((Line.strOk_iff _).1 hI11.ok.now).1; have hq : queue.length ≤ 6 := hI11.ok.len; have hlo : 0 ≤ lost ∧ lost ≤ k := hI11.lost; have hc8 := (u.getD k.toNat 0).toNat_lt
    refine G_seq ?_
    refine G_seq ?_
    refine G_region ?_
    refine GL_step rfl (PS_move rfl) ?_
    refine GL_step rfl (PS_move rfl) ?_
    refine GL_step rfl (PS_len_str rfl Try.underlying9 rfl) ?_
    refine GL_step rfl (PS_lss rfl rfl) ?_
    refine GL_nil ?_
    refine GQ_sub (.cons (k := 1) rfl (.cons (k := 2) rfl (.cons (k := 4) rfl (.cons (k := 7) rfl (.cons (k := 8) rfl (.cons (k := 9) rfl (.cons (k := 21) rfl (.nil _)))))))) ?_
    refine GQ_then ?_
    refine G_cond rfl (fun c2 => ?_) (fun c2 => ?_)
    · skip
      have c2p := c2
      try simp only [decide_eq_true_eq, decide_eq_false_iff_not, Bool.not_eq_true', Bool.not_eq_false', Bool.or_eq_true, Bool.and_eq_true, Bool.or_eq_false_iff, Bool.and_eq_false_iff, Int.not_lt, Int.not_le] at c2p
      refine G_skip ?_
      refine GQ_sub (.cons (k := 1) rfl (.cons (k := 2) rfl (.cons (k := 4) rfl (.cons (k := 7) rfl (.cons (k := 8) rfl (.cons (k := 9) rfl (.nil _))))))) ?_
      refine GQ_then ?_
      refine G_seq ?_
      refine G_block ?_
      refine G_seq ?_
      refine G_region ?_
      refine GL_step rfl (PS_move rfl) ?_
      refine GL_step rfl (PS_move rfl) ?_
      refine GL_step rfl (PS_index_str Try.underlying9 rfl rfl (by first | omega | (simp only [Line.bytes1, List.length_cons, List.length_nil]; omega)) (by first | omega | (simp only [Line.bytes1, List.length_cons, List.length_nil]; omega))) ?_
      refine GL_step rfl (PS_assign rfl) ?_
      refine GL_nil ?_
      refine GQ_sub (.cons (k := 1) rfl (.cons (k := 2) rfl (.cons (k := 4) rfl (.cons (k := 7) rfl (.cons (k := 8) rfl (.cons (k := 9) rfl (.cons (k := 10) rfl (.nil _)))))))) ?_
      refine GQ_then ?_
      refine G_seq ?_
      refine G_seq ?_
      refine G_region ?_
      refine GL_step rfl (PS_fieldAddr fa25_2 rfl) ?_
      refine GL_step rfl (PS_load rfl tys4 (.tail _ (.tail _ (.head _))) LineV.l2 rfl rfl) ?_
      refine GL_nil ?_
      refine GQ_sub (.cons (k := 1) rfl (.cons (k := 2) rfl (.cons (k := 4) rfl (.cons (k := 7) rfl (.cons (k := 8) rfl (.cons (k := 9) rfl (.cons (k := 10) rfl (.cons (k := 28) rfl (.nil _))))))))) ?_
      refine GQ_then ?_
      refine G_cond rfl (fun c3 => ?_) (fun c3 => ?_)
      · skip
        have c3p := c3
        try simp only [decide_eq_true_eq, decide_eq_false_iff_not, Bool.not_eq_true', Bool.not_eq_false', Bool.or_eq_true, Bool.and_eq_true, Bool.or_eq_false_iff, Bool.and_eq_false_iff, Int.not_lt, Int.not_le] at c3p
        dsimp only at c3
        refine G_seq ?_
        refine G_region ?_
        refine GL_step rfl (PS_fieldAddr fa25_2 rfl) ?_
        refine GL_unit (PU_store LineV.l2 rfl rfl rfl sz4 rfl (.tail (.tail .head))) ?_
        refine GL_nil ?_
        refine GQ_sub (.cons (k := 1) rfl (.cons (k := 2) rfl (.cons (k := 4) rfl (.cons (k := 7) rfl (.cons (k := 8) rfl (.cons (k := 9) rfl (.cons (k := 10) rfl (.nil _)))))))) ?_
        refine GQ_then ?_
        refine G_seq ?_
        refine G_region ?_
        refine GL_step rfl (PS_move rfl) ?_
        refine GL_step rfl (PS_eql rfl rfl) ?_
        refine GL_step rfl (PS_move rfl) ?_
        refine GL_gf (t := 32) rfl rfl rfl (fun q => PS_move rfl) ?_
        refine GL_gf (t := 32) rfl rfl rfl (fun q => PS_eql (cvE rfl (by rw [q]; rfl)) rfl) ?_
        refine GL_step rfl (PS_or rfl rfl (fun h => by rw [h]; rfl)) ?_
        refine GL_nil ?_
        refine GQ_sub (.cons (k := 1) rfl (.cons (k := 2) rfl (.cons (k := 4) rfl (.cons (k := 7) rfl (.cons (k := 8) rfl (.cons (k := 9) rfl (.cons (k := 10) rfl (.cons (k := 35) rfl (.nil _))))))))) ?_
        refine GQ_then ?_
        refine G_cond rfl (fun c4 => ?_) (fun c4 => ?_)
        · skip
          have c4p := c4
          try simp only [decide_eq_true_eq, decide_eq_false_iff_not, Bool.not_eq_true', Bool.not_eq_false', Bool.or_eq_true, Bool.and_eq_true, Bool.or_eq_false_iff, Bool.and_eq_false_iff, Int.not_lt, Int.not_le] at c4p
          refine G_exit ?_
          refine GQ_then_exit ?_
          refine GQ_block_exit ?_
          refine GQ_sub (.cons (k := 1) rfl (.cons (k := 2) rfl (.cons (k := 4) rfl (.cons (k := 7) rfl (.cons (k := 8) rfl (.cons (k := 9) rfl (.nil _))))))) ?_
          refine GQ_then ?_
          refine G_region ?_
          refine GL_step rfl (PS_move rfl) ?_
          refine GL_step rfl (PS_add rfl rfl (IntWalk.i64_in _ (by first | omega | (simp only [Line.bytes1, List.length_cons, List.length_nil]; omega)))) ?_
          refine GL_step rfl (PS_assign rfl) ?_
          refine GL_nil ?_
          refine GQ_sub (.cons (k := 1) rfl (.cons (k := 2) rfl (.cons (k := 4) rfl (.cons (k := 7) rfl (.cons (k := 8) rfl (.cons (k := 9) rfl (.nil _))))))) ?_
          refine GQ_next7_ (k + 1) _ _ _ _ _ _ ?_ ?_ (.cons (k := 9) rfl (.cons (k := 1) rfl (.cons (k := 2) rfl (.cons (k := 4) rfl (.cons (k := 7) rfl (.cons (k := 8) rfl (.nil _))))))) (.refl _)
          · exact ⟨hI11.next (by omega) (by unfold Line.refStep; dsimp only; rw [if_t c3, if_t c4]), by assumption⟩
          · omega
        · skip
          have c4p := c4
          try simp only [decide_eq_true_eq, decide_eq_false_iff_not, Bool.not_eq_true', Bool.not_eq_false', Bool.or_eq_true, Bool.and_eq_true, Bool.or_eq_false_iff, Bool.and_eq_false_iff, Int.not_lt, Int.not_le] at c4p
          refine G_skip ?_
          refine GQ_sub (.cons (k := 1) rfl (.cons (k := 2) rfl (.cons (k := 4) rfl (.cons (k := 7) rfl (.cons (k := 8) rfl (.cons (k := 9) rfl (.cons (k := 10) rfl (.nil _)))))))) ?_
          refine GQ_then ?_
          refine G_block ?_
          refine G_seq ?_
          refine G_region ?_
          refine GL_step rfl (PS_move rfl) ?_
          refine GL_step rfl (PS_eql rfl rfl) ?_
          refine GL_step rfl (PS_assign rfl) ?_
          refine GL_nil ?_
          refine GQ_sub (.cons (k := 1) rfl (.cons (k := 2) rfl (.cons (k := 4) rfl (.cons (k := 7) rfl (.cons (k := 8) rfl (.cons (k := 9) rfl (.cons (k := 10) rfl (.cons (k := 36) rfl (.nil _))))))))) ?_
          refine GQ_then ?_
          refine G_cond rfl (fun c5 => ?_) (fun c5 => ?_)
          · skip
            have c5p := c5
            try simp only [decide_eq_true_eq, decide_eq_false_iff_not, Bool.not_eq_true', Bool.not_eq_false', Bool.or_eq_true, Bool.and_eq_true, Bool.or_eq_false_iff, Bool.and_eq_false_iff, Int.not_lt, Int.not_le] at c5p
            refine G_seq ?_
            refine G_region ?_
            refine GL_step rfl (PS_move rfl) ?_
            refine GL_callLV rfl cf51 rfl .nil (.cons (.tail (.tail .head)) (.cons (.tail .head) (.cons .head .nil))) (ref_FeedText_1_spec _ _ _ _ _ _ _ _ hg hq (by omega)) (fun v5 B hv => ?_)
            obtain ⟨y6, rfl, y7, rfl⟩ := hv
            refine GL_nil ?_
            refine GQ_sub (.cons (k := 1) rfl (.cons (k := 2) rfl (.cons (k := 4) rfl (.cons (k := 7) rfl (.cons (k := 8) rfl (.cons (k := 9) rfl (.nil _))))))) ?_
            refine GQ_then ?_
            refine G_region ?_
            refine GL_step rfl (PS_fieldAddr fa25_2 rfl) ?_
            refine GL_unit (PU_store LineV.l2 rfl rfl rfl sz4 rfl .head) ?_
            refine GL_nil ?_
            refine GQ_sub (.cons (k := 1) rfl (.cons (k := 2) rfl (.cons (k := 4) rfl (.cons (k := 7) rfl (.cons (k := 8) rfl (.cons (k := 9) rfl (.nil _))))))) ?_
            refine GQ_block ?_
            refine GQ_block ?_
            refine GQ_then ?_
            refine G_region ?_
            refine GL_step rfl (PS_move rfl) ?_
            refine GL_step rfl (PS_add rfl rfl (IntWalk.i64_in _ (by first | omega | (simp only [Line.bytes1, List.length_cons, List.length_nil]; omega)))) ?_
            refine GL_step rfl (PS_assign rfl) ?_
            refine GL_nil ?_
            refine GQ_sub (.cons (k := 1) rfl (.cons (k := 2) rfl (.cons (k := 4) rfl (.cons (k := 7) rfl (.cons (k := 8) rfl (.cons (k := 9) rfl (.nil _))))))) ?_
            refine GQ_pulls (.cons (.tail (.tail .head)) (.cons (.tail .head) (.cons .head (.cons .head .nil)))) ?_
            refine GQ_dropr ?_
            refine GQ_next7_ (k + 1) _ _ _ _ _ _ ?_ ?_ (.cons (k := 9) rfl (.cons (k := 1) rfl (.cons (k := 2) rfl (.cons (k := 4) rfl (.cons (k := 7) rfl (.cons (k := 8) rfl (.nil _))))))) (.refl _)
            · exact ⟨hI11.next (by omega) (by unfold Line.refStep; dsimp only; rw [if_t c3, if_f c4]; (try dsimp only at c5); simp only [Line.refB, Line.refEnd, Line.bytes1, hg, Bool.false_and, Bool.and_false, Bool.true_and, Bool.and_true, c5, ↓reduceIte, Bool.false_eq_true]), by assumption⟩
            · omega
          · skip
            have c5p := c5
            try simp only [decide_eq_true_eq, decide_eq_false_iff_not, Bool.not_eq_true', Bool.not_eq_false', Bool.or_eq_true, Bool.and_eq_true, Bool.or_eq_false_iff, Bool.and_eq_false_iff, Int.not_lt, Int.not_le] at c5p
            refine G_seq ?_
            refine G_region ?_
            refine GL_step rfl (PS_move rfl) ?_
            refine GL_step rfl (PS_eql rfl rfl) ?_
            refine GL_step rfl (PS_assign rfl) ?_
            refine GL_nil ?_
            refine GQ_sub (.cons (k := 1) rfl (.cons (k := 2) rfl (.cons (k := 4) rfl (.cons (k := 7) rfl (.cons (k := 8) rfl (.cons (k := 9) rfl (.cons (k := 10) rfl (.cons (k := 42) rfl (.nil _))))))))) ?_
            refine GQ_then ?_
            refine G_cond rfl (fun c6 => ?_) (fun c6 => ?_)
            · skip
              have c6p := c6
              try simp only [decide_eq_true_eq, decide_eq_false_iff_not, Bool.not_eq_true', Bool.not_eq_false', Bool.or_eq_true, Bool.and_eq_true, Bool.or_eq_false_iff, Bool.and_eq_false_iff, Int.not_lt, Int.not_le] at c6p
              refine G_region ?_
              refine GL_step rfl (PS_move rfl) ?_
              refine GL_callLV rfl cf51 rfl .nil (.cons (.tail (.tail .head)) (.cons (.tail .head) (.cons .head .nil))) (ref_FeedText_1_spec _ _ _ _ _ _ _ _ hg hq (by omega)) (fun v8 B hv => ?_)
              obtain ⟨y9, rfl, y10, rfl⟩ := hv
              refine GL_nil ?_
              refine GQ_sub (.cons (k := 1) rfl (.cons (k := 2) rfl (.cons (k := 4) rfl (.cons (k := 7) rfl (.cons (k := 8) rfl (.cons (k := 9) rfl (.nil _))))))) ?_
              refine GQ_block ?_
              refine GQ_block ?_
              refine GQ_then ?_
              refine G_region ?_
              refine GL_step rfl (PS_move rfl) ?_
              refine GL_step rfl (PS_add rfl rfl (IntWalk.i64_in _ (by first | omega | (simp only [Line.bytes1, List.length_cons, List.length_nil]; omega)))) ?_
              refine GL_step rfl (PS_assign rfl) ?_
              refine GL_nil ?_
              refine GQ_sub (.cons (k := 1) rfl (.cons (k := 2) rfl (.cons (k := 4) rfl (.cons (k := 7) rfl (.cons (k := 8) rfl (.cons (k := 9) rfl (.nil _))))))) ?_
              refine GQ_pulls (.cons (.tail (.tail .head)) (.cons (.tail .head) (.cons .head (.cons .head .nil)))) ?_
              refine GQ_dropr ?_
              refine GQ_next7_ (k + 1) _ _ _ _ _ _ ?_ ?_ (.cons (k := 9) rfl (.cons (k := 1) rfl (.cons (k := 2) rfl (.cons (k := 4) rfl (.cons (k := 7) rfl (.cons (k := 8) rfl (.nil _))))))) (.refl _)
              · exact ⟨hI11.next (by omega) (by unfold Line.refStep; dsimp only; rw [if_t c3, if_f c4]; (try dsimp only at c5); (try dsimp only at c6); (try rw [c6, Bool.true_and] at c5); simp only [Line.refB, Line.refEnd, Line.bytes1, hg, Bool.false_and, Bool.and_false, Bool.true_and, Bool.and_true, c5, c6, ↓reduceIte, Bool.false_eq_true]), by assumption⟩
              · omega
            · skip
              have c6p := c6
              try simp only [decide_eq_true_eq, decide_eq_false_iff_not, Bool.not_eq_true', Bool.not_eq_false', Bool.or_eq_true, Bool.and_eq_true, Bool.or_eq_false_iff, Bool.and_eq_false_iff, Int.not_lt, Int.not_le] at c6p
              refine G_seq ?_
              refine G_region ?_
              refine GL_step rfl (PS_move rfl) ?_
              refine GL_step rfl (PS_eql rfl rfl) ?_
              refine GL_step rfl (PS_move rfl) ?_
              refine GL_gf (t := 50) rfl rfl rfl (fun q => PS_move rfl) ?_
              refine GL_gf (t := 50) rfl rfl rfl (fun q => PS_eql (cvE rfl (by rw [q]; rfl)) rfl) ?_
              refine GL_step rfl (PS_or rfl rfl (fun h => by rw [h]; rfl)) ?_
              refine GL_step rfl (PS_assign rfl) ?_
              refine GL_nil ?_
              refine GQ_sub (.cons (k := 1) rfl (.cons (k := 2) rfl (.cons (k := 4) rfl (.cons (k := 7) rfl (.cons (k := 8) rfl (.cons (k := 9) rfl (.cons (k := 10) rfl (.cons (k := 47) rfl (.nil _))))))))) ?_
              refine GQ_then ?_
              refine G_cond rfl (fun c7 => ?_) (fun c7 => ?_)
              · skip
                have c7p := c7
                try simp only [decide_eq_true_eq, decide_eq_false_iff_not, Bool.not_eq_true', Bool.not_eq_false', Bool.or_eq_true, Bool.and_eq_true, Bool.or_eq_false_iff, Bool.and_eq_false_iff, Int.not_lt, Int.not_le] at c7p
                refine G_region ?_
                refine GL_step rfl (PS_fieldAddr fa25_0 rfl) ?_
                refine GL_step rfl (PS_load rfl tys9 (.tail _ (.tail _ (.head _))) LineV.l0 rfl rfl) ?_
                refine GL_step rfl (PS_fieldAddr fa25_0 rfl) ?_
                refine GL_step rfl (PS_load rfl tys9 (.tail _ (.tail _ (.head _))) LineV.l0 rfl rfl) ?_
                refine GL_step rfl (PS_len_str rfl Try.underlying9 rfl) ?_
                refine GL_step rfl (PS_sub rfl rfl (IntWalk.i64_in _ (by first | omega | (simp only [Line.bytes1, List.length_cons, List.length_nil]; omega)))) ?_
                refine GL_step rfl (PS_max2 rfl rfl) ?_
                refine GL_step rfl (PS_subSh Try.underlying9 rfl rfl (by first | omega | (simp only [Line.bytes1, List.length_cons, List.length_nil]; omega)) (by first | omega | (simp only [Line.bytes1, List.length_cons, List.length_nil]; omega))) ?_
                refine GL_step rfl (PS_fieldAddr fa25_0 rfl) ?_
                refine GL_unit (PU_store LineV.l0 rfl rfl rfl sz9 rfl (.tail (.tail .head))) ?_
                refine GL_nil ?_
                refine GQ_sub (.cons (k := 1) rfl (.cons (k := 2) rfl (.cons (k := 4) rfl (.cons (k := 7) rfl (.cons (k := 8) rfl (.cons (k := 9) rfl (.nil _))))))) ?_
                refine GQ_block ?_
                refine GQ_block ?_
                refine GQ_then ?_
                refine G_region ?_
                refine GL_step rfl (PS_move rfl) ?_
                refine GL_step rfl (PS_add rfl rfl (IntWalk.i64_in _ (by first | omega | (simp only [Line.bytes1, List.length_cons, List.length_nil]; omega)))) ?_
                refine GL_step rfl (PS_assign rfl) ?_
                refine GL_nil ?_
                refine GQ_sub (.cons (k := 1) rfl (.cons (k := 2) rfl (.cons (k := 4) rfl (.cons (k := 7) rfl (.cons (k := 8) rfl (.cons (k := 9) rfl (.nil _))))))) ?_
                refine GQ_next7_ (k + 1) _ _ _ _ _ _ ?_ ?_ (.cons (k := 9) rfl (.cons (k := 1) rfl (.cons (k := 2) rfl (.cons (k := 4) rfl (.cons (k := 7) rfl (.cons (k := 8) rfl (.nil _))))))) (.refl _)
                · exact ⟨hI11.next (by omega) (by unfold Line.refStep; dsimp only; rw [if_t c3, if_f c4]; (try dsimp only at c5); (try dsimp only at c6); (try dsimp only at c7); (try rw [c6, Bool.true_and] at c5); (try rw [c7, Bool.true_and] at c6); simp only [Line.refB, Line.refEnd, Line.bytes1, hg, Bool.false_and, Bool.and_false, Bool.true_and, Bool.and_true, c5, c6, c7, ↓reduceIte, Bool.false_eq_true]), by assumption⟩
                · omega
              · skip
                have c7p := c7
                try simp only [decide_eq_true_eq, decide_eq_false_iff_not, Bool.not_eq_true', Bool.not_eq_false', Bool.or_eq_true, Bool.and_eq_true, Bool.or_eq_false_iff, Bool.and_eq_false_iff, Int.not_lt, Int.not_le] at c7p
                refine G_seq ?_
                refine G_region ?_
                refine GL_step rfl (PS_move rfl) ?_
                refine GL_step rfl (PS_geq rfl rfl) ?_
                refine GL_step rfl (PS_move rfl) ?_
                refine GL_gt (t := 66) rfl rfl rfl (fun q => PS_move rfl) ?_
                refine GL_gt (t := 66) rfl rfl rfl (fun q => PS_leq (cvE rfl q) rfl) ?_
                refine GL_step rfl (PS_and rfl rfl (fun h => h)) ?_
                refine GL_step rfl (PS_move rfl) ?_
                refine GL_gt (t := 70) rfl rfl rfl (fun q => PS_fieldAddr fa25_0 rfl) ?_
                refine GL_gt (t := 70) rfl rfl rfl (fun q => PS_load (cvE rfl q) tys9 (.tail _ (.tail _ (.head _))) LineV.l0 rfl rfl) ?_
                refine GL_gt (t := 70) rfl rfl rfl (fun q => PS_len_str rfl Try.underlying9 (cvE rfl q)) ?_
                refine GL_gt (t := 70) rfl rfl rfl (fun q => PS_eql (cvE rfl q) rfl) ?_
                refine GL_step rfl (PS_and rfl rfl (fun h => h)) ?_
                refine GL_step rfl (PS_assign rfl) ?_
                refine GL_nil ?_
                refine GQ_sub (.cons (k := 1) rfl (.cons (k := 2) rfl (.cons (k := 4) rfl (.cons (k := 7) rfl (.cons (k := 8) rfl (.cons (k := 9) rfl (.cons (k := 10) rfl (.cons (k := 63) rfl (.nil _))))))))) ?_
                refine GQ_then ?_
                refine G_cond rfl (fun c8 => ?_) (fun c8 => ?_)
                · skip
                  have c8p := c8
                  try simp only [decide_eq_true_eq, decide_eq_false_iff_not, Bool.not_eq_true', Bool.not_eq_false', Bool.or_eq_true, Bool.and_eq_true, Bool.or_eq_false_iff, Bool.and_eq_false_iff, Int.not_lt, Int.not_le] at c8p
                  refine G_region ?_
                  refine GL_step rfl (PS_fieldAddr fa25_1 rfl) ?_
                  refine GL_unit (PU_store LineV.l1 rfl rfl rfl sz4 rfl (.tail (.tail .head))) ?_
                  refine GL_nil ?_
                  refine GQ_sub (.cons (k := 1) rfl (.cons (k := 2) rfl (.cons (k := 4) rfl (.cons (k := 7) rfl (.cons (k := 8) rfl (.cons (k := 9) rfl (.nil _))))))) ?_
                  refine GQ_block ?_
                  refine GQ_block ?_
                  refine GQ_then ?_
                  refine G_region ?_
                  refine GL_step rfl (PS_move rfl) ?_
                  refine GL_step rfl (PS_add rfl rfl (IntWalk.i64_in _ (by first | omega | (simp only [Line.bytes1, List.length_cons, List.length_nil]; omega)))) ?_
                  refine GL_step rfl (PS_assign rfl) ?_
                  refine GL_nil ?_
                  refine GQ_sub (.cons (k := 1) rfl (.cons (k := 2) rfl (.cons (k := 4) rfl (.cons (k := 7) rfl (.cons (k := 8) rfl (.cons (k := 9) rfl (.nil _))))))) ?_
                  refine GQ_next7_ (k + 1) _ _ _ _ _ _ ?_ ?_ (.cons (k := 9) rfl (.cons (k := 1) rfl (.cons (k := 2) rfl (.cons (k := 4) rfl (.cons (k := 7) rfl (.cons (k := 8) rfl (.nil _))))))) (.refl _)
                  · exact ⟨hI11.next (by omega) (by unfold Line.refStep; dsimp only; rw [if_t c3, if_f c4]; (try dsimp only at c5); (try dsimp only at c6); (try dsimp only at c7); (try dsimp only at c8); (try rw [c6, Bool.true_and] at c5); (try rw [c7, Bool.true_and] at c6); (try rw [c8, Bool.true_and] at c7); simp only [Line.refB, Line.refEnd, Line.bytes1, hg, Bool.false_and, Bool.and_false, Bool.true_and, Bool.and_true, c5, c6, c7, c8, ↓reduceIte, Bool.false_eq_true]), by assumption⟩
                  · omega
                · skip
                  have c8p := c8
                  try simp only [decide_eq_true_eq, decide_eq_false_iff_not, Bool.not_eq_true', Bool.not_eq_false', Bool.or_eq_true, Bool.and_eq_true, Bool.or_eq_false_iff, Bool.and_eq_false_iff, Int.not_lt, Int.not_le] at c8p
                  refine G_seq ?_
                  refine G_region ?_
                  refine GL_step rfl (PS_move rfl) ?_
                  refine GL_step rfl (PS_geq rfl rfl) ?_
                  refine GL_step rfl (PS_move rfl) ?_
                  refine GL_gt (t := 80) rfl rfl rfl (fun q => PS_move rfl) ?_
                  refine GL_gt (t := 80) rfl rfl rfl (fun q => PS_leq (cvE rfl q) rfl) ?_
                  refine GL_step rfl (PS_and rfl rfl (fun h => h)) ?_
                  refine GL_step rfl (PS_assign rfl) ?_
                  refine GL_nil ?_
                  refine GQ_sub (.cons (k := 1) rfl (.cons (k := 2) rfl (.cons (k := 4) rfl (.cons (k := 7) rfl (.cons (k := 8) rfl (.cons (k := 9) rfl (.cons (k := 10) rfl (.cons (k := 77) rfl (.nil _))))))))) ?_
                  refine GQ_then ?_
                  refine G_cond rfl (fun c9 => ?_) (fun c9 => ?_)
                  · skip
                    have c9p := c9
                    try simp only [decide_eq_true_eq, decide_eq_false_iff_not, Bool.not_eq_true', Bool.not_eq_false', Bool.or_eq_true, Bool.and_eq_true, Bool.or_eq_false_iff, Bool.and_eq_false_iff, Int.not_lt, Int.not_le] at c9p
                    refine G_planN (N := 9) [0, 1, 0, 4, 12, 28, 63, 127, 255] mix (by kernel_rfl) rfl ?_
                    refine Plan_float 0 rfl rfl (by kernel_rfl) (OK_s (EX_s (PS_fieldAddr fa25_0 rfl))) ?_
                    refine Plan_float 1 rfl rfl (by kernel_rfl) (OK_s (EX_s (PS_load rfl tys9 (.tail _ (.tail _ (.head _))) LineV.l0 rfl rfl))) ?_
                    refine Plan_float 2 rfl rfl (by kernel_rfl) (OK_s (EX_s (PS_move rfl))) ?_
                    refine Plan_float 3 rfl rfl (by kernel_rfl) (OK_s (EX_s (PS_u8i Try.underlying3 Try.underlying5 rfl))) ?_
                    refine Plan_chain 4 rfl (by kernel_rfl) ?_
                    refine GL_bs1F encI flI rfl Try.underlying60 sz3 zv3 rfl (by decide) (by decide) rfl rfl (fun b4 => ?_)
                    refine GL_hand rfl ⟨?_, ?_⟩
                    · exact (Pend_skip (by kernel_rfl) (Pend_skip (by kernel_rfl) (Pend_okv rfl (OK_s (EX_s (PS_load rfl tys9 (.tail _ (.tail _ (.tail _ (.head _)))) LineV.l0 rfl rfl))) rfl rfl (Pend_okv rfl (OK_s (EX_s (PS_fieldAddr fa25_0 rfl))) rfl rfl Pend_nil))))
                    refine Plan_float 5 rfl rfl (by kernel_rfl) (OK_s (EX_c (PC_of cf52 (.cons rfl .nil) (fun w hS => ref_bytesOf_spec _ [((u.getD k.toNat 0).toNat : Int)] (by intro x hx; rw [List.mem_singleton.1 hx]; omega) (by simp) w ((Kn.own (.head _)) w hS))))) ?_
                    refine Plan_float 6 rfl rfl (by kernel_rfl) (OK_s (EX_s (PS_add_str rfl rfl (by first | omega | (simp only [Line.bytes1, List.length_cons, List.length_nil]; omega))))) ?_
                    refine Plan_float 7 rfl rfl (by kernel_rfl) (OK_s (EX_s (PS_fieldAddr fa25_0 rfl))) ?_
                    refine Plan_chain 8 rfl (by kernel_rfl) ?_
                    refine GL_unit (PU_store LineV.l0 rfl rfl rfl sz9 rfl (.tail (.tail (.tail .head)))) ?_
                    refine GL_hand0 rfl ⟨?_, ?_⟩
                    · exact (Pend_skip (by kernel_rfl) (Pend_skip (by kernel_rfl) (Pend_skip (by kernel_rfl) (Pend_skip (by kernel_rfl) (Pend_skip (by kernel_rfl) (Pend_skip (by kernel_rfl) (Pend_skip (by kernel_rfl) Pend_nil)))))))
                    refine Plan_end (by kernel_rfl) ?_
                    refine GQ_sub (.cons (k := 1) rfl (.cons (k := 2) rfl (.cons (k := 4) rfl (.cons (k := 7) rfl (.cons (k := 8) rfl (.cons (k := 9) rfl (.nil _))))))) ?_
                    refine GQ_block ?_
                    refine GQ_block ?_
                    refine GQ_then ?_
                    refine G_region ?_
                    refine GL_step rfl (PS_move rfl) ?_
                    refine GL_step rfl (PS_add rfl rfl (IntWalk.i64_in _ (by first | omega | (simp only [Line.bytes1, List.length_cons, List.length_nil]; omega)))) ?_
                    refine GL_step rfl (PS_assign rfl) ?_
                    refine GL_nil ?_
                    refine GQ_sub (.cons (k := 1) rfl (.cons (k := 2) rfl (.cons (k := 4) rfl (.cons (k := 7) rfl (.cons (k := 8) rfl (.cons (k := 9) rfl (.nil _))))))) ?_
                    refine GQ_next7_ (k + 1) _ _ _ _ _ _ ?_ ?_ (.cons (k := 9) rfl (.cons (k := 1) rfl (.cons (k := 2) rfl (.cons (k := 4) rfl (.cons (k := 7) rfl (.cons (k := 8) rfl (.nil _))))))) (.cons _ (.refl _))
                    · exact ⟨hI11.next (by omega) (by unfold Line.refStep; dsimp only; rw [if_t c3, if_f c4]; (try dsimp only at c5); (try dsimp only at c6); (try dsimp only at c7); (try dsimp only at c8); (try dsimp only at c9); (try rw [c6, Bool.true_and] at c5); (try rw [c7, Bool.true_and] at c6); (try rw [c8, Bool.true_and] at c7); (try rw [c9, Bool.true_and] at c8); simp only [Line.refB, Line.refEnd, Line.bytes1, hg, Bool.false_and, Bool.and_false, Bool.true_and, Bool.and_true, c5, c6, c7, c8, c9, ↓reduceIte, Bool.false_eq_true]), by assumption⟩
                    · omega
                  · skip
                    have c9p := c9
                    try simp only [decide_eq_true_eq, decide_eq_false_iff_not, Bool.not_eq_true', Bool.not_eq_false', Bool.or_eq_true, Bool.and_eq_true, Bool.or_eq_false_iff, Bool.and_eq_false_iff, Int.not_lt, Int.not_le] at c9p
                    refine G_skip ?_
                    refine GQ_sub (.cons (k := 1) rfl (.cons (k := 2) rfl (.cons (k := 4) rfl (.cons (k := 7) rfl (.cons (k := 8) rfl (.cons (k := 9) rfl (.nil _))))))) ?_
                    refine GQ_block ?_
                    refine GQ_block ?_
                    refine GQ_then ?_
                    refine G_region ?_
                    refine GL_step rfl (PS_move rfl) ?_
                    refine GL_step rfl (PS_add rfl rfl (IntWalk.i64_in _ (by first | omega | (simp only [Line.bytes1, List.length_cons, List.length_nil]; omega)))) ?_
                    refine GL_step rfl (PS_assign rfl) ?_
                    refine GL_nil ?_
                    refine GQ_sub (.cons (k := 1) rfl (.cons (k := 2) rfl (.cons (k := 4) rfl (.cons (k := 7) rfl (.cons (k := 8) rfl (.cons (k := 9) rfl (.nil _))))))) ?_
                    refine GQ_next7_ (k + 1) _ _ _ _ _ _ ?_ ?_ (.cons (k := 9) rfl (.cons (k := 1) rfl (.cons (k := 2) rfl (.cons (k := 4) rfl (.cons (k := 7) rfl (.cons (k := 8) rfl (.nil _))))))) (.refl _)
                    · exact ⟨hI11.next (by omega) (by unfold Line.refStep; dsimp only; rw [if_t c3, if_f c4]; (try dsimp only at c5); (try dsimp only at c6); (try dsimp only at c7); (try dsimp only at c8); (try dsimp only at c9); (try rw [c6, Bool.true_and] at c5); (try rw [c7, Bool.true_and] at c6); (try rw [c8, Bool.true_and] at c7); (try rw [c9, Bool.true_and] at c8); simp only [Line.refB, Line.refEnd, Line.bytes1, hg, Bool.false_and, Bool.and_false, Bool.true_and, Bool.and_true, c5, c6, c7, c8, c9, ↓reduceIte, Bool.false_eq_true]), by assumption⟩
                    · omega
      · skip
        have c3p := c3
        try simp only [decide_eq_true_eq, decide_eq_false_iff_not, Bool.not_eq_true', Bool.not_eq_false', Bool.or_eq_true, Bool.and_eq_true, Bool.or_eq_false_iff, Bool.and_eq_false_iff, Int.not_lt, Int.not_le] at c3p
        dsimp only at c3
        refine G_skip ?_
        refine GQ_sub (.cons (k := 1) rfl (.cons (k := 2) rfl (.cons (k := 4) rfl (.cons (k := 7) rfl (.cons (k := 8) rfl (.cons (k := 9) rfl (.cons (k := 10) rfl (.nil _)))))))) ?_
        refine GQ_then ?_
        refine G_block ?_
        refine G_seq ?_
        refine G_region ?_
        refine GL_step rfl (PS_move rfl) ?_
        refine GL_step rfl (PS_eql rfl rfl) ?_
        refine GL_step rfl (PS_assign rfl) ?_
        refine GL_nil ?_
        refine GQ_sub (.cons (k := 1) rfl (.cons (k := 2) rfl (.cons (k := 4) rfl (.cons (k := 7) rfl (.cons (k := 8) rfl (.cons (k := 9) rfl (.cons (k := 10) rfl (.cons (k := 36) rfl (.nil _))))))))) ?_
        refine GQ_then ?_
        refine G_cond rfl (fun c10 => ?_) (fun c10 => ?_)
        · skip
          have c10p := c10
          try simp only [decide_eq_true_eq, decide_eq_false_iff_not, Bool.not_eq_true', Bool.not_eq_false', Bool.or_eq_true, Bool.and_eq_true, Bool.or_eq_false_iff, Bool.and_eq_false_iff, Int.not_lt, Int.not_le] at c10p
          refine G_seq ?_
          refine G_region ?_
          refine GL_step rfl (PS_move rfl) ?_
          refine GL_callLV rfl cf51 rfl .nil (.cons (.tail (.tail .head)) (.cons (.tail .head) (.cons .head .nil))) (ref_FeedText_1_spec _ _ _ _ _ _ _ _ hg hq (by omega)) (fun v11 B hv => ?_)
          obtain ⟨y12, rfl, y13, rfl⟩ := hv
          refine GL_nil ?_
          refine GQ_sub (.cons (k := 1) rfl (.cons (k := 2) rfl (.cons (k := 4) rfl (.cons (k := 7) rfl (.cons (k := 8) rfl (.cons (k := 9) rfl (.nil _))))))) ?_
          refine GQ_then ?_
          refine G_region ?_
          refine GL_step rfl (PS_fieldAddr fa25_2 rfl) ?_
          refine GL_unit (PU_store LineV.l2 rfl rfl rfl sz4 rfl .head) ?_
          refine GL_nil ?_
          refine GQ_sub (.cons (k := 1) rfl (.cons (k := 2) rfl (.cons (k := 4) rfl (.cons (k := 7) rfl (.cons (k := 8) rfl (.cons (k := 9) rfl (.nil _))))))) ?_
          refine GQ_block ?_
          refine GQ_block ?_
          refine GQ_then ?_
          refine G_region ?_
          refine GL_step rfl (PS_move rfl) ?_
          refine GL_step rfl (PS_add rfl rfl (IntWalk.i64_in _ (by first | omega | (simp only [Line.bytes1, List.length_cons, List.length_nil]; omega)))) ?_
          refine GL_step rfl (PS_assign rfl) ?_
          refine GL_nil ?_
          refine GQ_sub (.cons (k := 1) rfl (.cons (k := 2) rfl (.cons (k := 4) rfl (.cons (k := 7) rfl (.cons (k := 8) rfl (.cons (k := 9) rfl (.nil _))))))) ?_
          refine GQ_pulls (.cons (.tail (.tail .head)) (.cons (.tail .head) (.cons .head (.cons .head .nil)))) ?_
          refine GQ_dropr ?_
          refine GQ_next7_ (k + 1) _ _ _ _ _ _ ?_ ?_ (.cons (k := 9) rfl (.cons (k := 1) rfl (.cons (k := 2) rfl (.cons (k := 4) rfl (.cons (k := 7) rfl (.cons (k := 8) rfl (.nil _))))))) (.refl _)
          · exact ⟨hI11.next (by omega) (by unfold Line.refStep; dsimp only; rw [if_f c3]; (try dsimp only at c10); simp only [Line.refB, Line.refEnd, Line.bytes1, hg, Bool.false_and, Bool.and_false, Bool.true_and, Bool.and_true, c10, ↓reduceIte, Bool.false_eq_true]), by assumption⟩
          · omega
        · skip
          have c10p := c10
          try simp only [decide_eq_true_eq, decide_eq_false_iff_not, Bool.not_eq_true', Bool.not_eq_false', Bool.or_eq_true, Bool.and_eq_true, Bool.or_eq_false_iff, Bool.and_eq_false_iff, Int.not_lt, Int.not_le] at c10p
          refine G_seq ?_
          refine G_region ?_
          refine GL_step rfl (PS_move rfl) ?_
          refine GL_step rfl (PS_eql rfl rfl) ?_
          refine GL_step rfl (PS_assign rfl) ?_
          refine GL_nil ?_
          refine GQ_sub (.cons (k := 1) rfl (.cons (k := 2) rfl (.cons (k := 4) rfl (.cons (k := 7) rfl (.cons (k := 8) rfl (.cons (k := 9) rfl (.cons (k := 10) rfl (.cons (k := 42) rfl (.nil _))))))))) ?_
          refine GQ_then ?_
          refine G_cond rfl (fun c11 => ?_) (fun c11 => ?_)
          · skip
            have c11p := c11
            try simp only [decide_eq_true_eq, decide_eq_false_iff_not, Bool.not_eq_true', Bool.not_eq_false', Bool.or_eq_true, Bool.and_eq_true, Bool.or_eq_false_iff, Bool.and_eq_false_iff, Int.not_lt, Int.not_le] at c11p
            refine G_region ?_
            refine GL_step rfl (PS_move rfl) ?_
            refine GL_callLV rfl cf51 rfl .nil (.cons (.tail (.tail .head)) (.cons (.tail .head) (.cons .head .nil))) (ref_FeedText_1_spec _ _ _ _ _ _ _ _ hg hq (by omega)) (fun v14 B hv => ?_)
            obtain ⟨y15, rfl, y16, rfl⟩ := hv
            refine GL_nil ?_
            refine GQ_sub (.cons (k := 1) rfl (.cons (k := 2) rfl (.cons (k := 4) rfl (.cons (k := 7) rfl (.cons (k := 8) rfl (.cons (k := 9) rfl (.nil _))))))) ?_
            refine GQ_block ?_
            refine GQ_block ?_
            refine GQ_then ?_
            refine G_region ?_
            refine GL_step rfl (PS_move rfl) ?_
            refine GL_step rfl (PS_add rfl rfl (IntWalk.i64_in _ (by first | omega | (simp only [Line.bytes1, List.length_cons, List.length_nil]; omega)))) ?_
            refine GL_step rfl (PS_assign rfl) ?_
            refine GL_nil ?_
            refine GQ_sub (.cons (k := 1) rfl (.cons (k := 2) rfl (.cons (k := 4) rfl (.cons (k := 7) rfl (.cons (k := 8) rfl (.cons (k := 9) rfl (.nil _))))))) ?_
            refine GQ_pulls (.cons (.tail (.tail .head)) (.cons (.tail .head) (.cons .head (.cons .head .nil)))) ?_
            refine GQ_dropr ?_
            refine GQ_next7_ (k + 1) _ _ _ _ _ _ ?_ ?_ (.cons (k := 9) rfl (.cons (k := 1) rfl (.cons (k := 2) rfl (.cons (k := 4) rfl (.cons (k := 7) rfl (.cons (k := 8) rfl (.nil _))))))) (.refl _)
            · exact ⟨hI11.next (by omega) (by unfold Line.refStep; dsimp only; rw [if_f c3]; (try dsimp only at c10); (try dsimp only at c11); (try rw [c11, Bool.true_and] at c10); simp only [Line.refB, Line.refEnd, Line.bytes1, hg, Bool.false_and, Bool.and_false, Bool.true_and, Bool.and_true, c10, c11, ↓reduceIte, Bool.false_eq_true]), by assumption⟩
            · omega
          · skip
            have c11p := c11
            try simp only [decide_eq_true_eq, decide_eq_false_iff_not, Bool.not_eq_true', Bool.not_eq_false', Bool.or_eq_true, Bool.and_eq_true, Bool.or_eq_false_iff, Bool.and_eq_false_iff, Int.not_lt, Int.not_le] at c11p
            refine G_seq ?_
            refine G_region ?_
            refine GL_step rfl (PS_move rfl) ?_
            refine GL_step rfl (PS_eql rfl rfl) ?_
            refine GL_step rfl (PS_move rfl) ?_
            refine GL_gf (t := 50) rfl rfl rfl (fun q => PS_move rfl) ?_
            refine GL_gf (t := 50) rfl rfl rfl (fun q => PS_eql (cvE rfl (by rw [q]; rfl)) rfl) ?_
            refine GL_step rfl (PS_or rfl rfl (fun h => by rw [h]; rfl)) ?_
            refine GL_step rfl (PS_assign rfl) ?_
            refine GL_nil ?_
            refine GQ_sub (.cons (k := 1) rfl (.cons (k := 2) rfl (.cons (k := 4) rfl (.cons (k := 7) rfl (.cons (k := 8) rfl (.cons (k := 9) rfl (.cons (k := 10) rfl (.cons (k := 47) rfl (.nil _))))))))) ?_
            refine GQ_then ?_
            refine G_cond rfl (fun c12 => ?_) (fun c12 => ?_)
            · skip
              have c12p := c12
              try simp only [decide_eq_true_eq, decide_eq_false_iff_not, Bool.not_eq_true', Bool.not_eq_false', Bool.or_eq_true, Bool.and_eq_true, Bool.or_eq_false_iff, Bool.and_eq_false_iff, Int.not_lt, Int.not_le] at c12p
              refine G_region ?_
              refine GL_step rfl (PS_fieldAddr fa25_0 rfl) ?_
              refine GL_step rfl (PS_load rfl tys9 (.tail _ (.tail _ (.head _))) LineV.l0 rfl rfl) ?_
              refine GL_step rfl (PS_fieldAddr fa25_0 rfl) ?_
              refine GL_step rfl (PS_load rfl tys9 (.tail _ (.tail _ (.head _))) LineV.l0 rfl rfl) ?_
              refine GL_step rfl (PS_len_str rfl Try.underlying9 rfl) ?_
              refine GL_step rfl (PS_sub rfl rfl (IntWalk.i64_in _ (by first | omega | (simp only [Line.bytes1, List.length_cons, List.length_nil]; omega)))) ?_
              refine GL_step rfl (PS_max2 rfl rfl) ?_
              refine GL_step rfl (PS_subSh Try.underlying9 rfl rfl (by first | omega | (simp only [Line.bytes1, List.length_cons, List.length_nil]; omega)) (by first | omega | (simp only [Line.bytes1, List.length_cons, List.length_nil]; omega))) ?_
              refine GL_step rfl (PS_fieldAddr fa25_0 rfl) ?_
              refine GL_unit (PU_store LineV.l0 rfl rfl rfl sz9 rfl (.tail (.tail .head))) ?_
              refine GL_nil ?_
              refine GQ_sub (.cons (k := 1) rfl (.cons (k := 2) rfl (.cons (k := 4) rfl (.cons (k := 7) rfl (.cons (k := 8) rfl (.cons (k := 9) rfl (.nil _))))))) ?_
              refine GQ_block ?_
              refine GQ_block ?_
              refine GQ_then ?_
              refine G_region ?_
              refine GL_step rfl (PS_move rfl) ?_
              refine GL_step rfl (PS_add rfl rfl (IntWalk.i64_in _ (by first | omega | (simp only [Line.bytes1, List.length_cons, List.length_nil]; omega)))) ?_
              refine GL_step rfl (PS_assign rfl) ?_
              refine GL_nil ?_
              refine GQ_sub (.cons (k := 1) rfl (.cons (k := 2) rfl (.cons (k := 4) rfl (.cons (k := 7) rfl (.cons (k := 8) rfl (.cons (k := 9) rfl (.nil _))))))) ?_
              refine GQ_next7_ (k + 1) _ _ _ _ _ _ ?_ ?_ (.cons (k := 9) rfl (.cons (k := 1) rfl (.cons (k := 2) rfl (.cons (k := 4) rfl (.cons (k := 7) rfl (.cons (k := 8) rfl (.nil _))))))) (.refl _)
              · exact ⟨hI11.next (by omega) (by unfold Line.refStep; dsimp only; rw [if_f c3]; (try dsimp only at c10); (try dsimp only at c11); (try dsimp only at c12); (try rw [c11, Bool.true_and] at c10); (try rw [c12, Bool.true_and] at c11); simp only [Line.refB, Line.refEnd, Line.bytes1, hg, Bool.false_and, Bool.and_false, Bool.true_and, Bool.and_true, c10, c11, c12, ↓reduceIte, Bool.false_eq_true]), by assumption⟩
              · omega
            · skip
              have c12p := c12
              try simp only [decide_eq_true_eq, decide_eq_false_iff_not, Bool.not_eq_true', Bool.not_eq_false', Bool.or_eq_true, Bool.and_eq_true, Bool.or_eq_false_iff, Bool.and_eq_false_iff, Int.not_lt, Int.not_le] at c12p
              refine G_seq ?_
              refine G_region ?_
              refine GL_step rfl (PS_move rfl) ?_
              refine GL_step rfl (PS_geq rfl rfl) ?_
              refine GL_step rfl (PS_move rfl) ?_
              refine GL_gt (t := 66) rfl rfl rfl (fun q => PS_move rfl) ?_
              refine GL_gt (t := 66) rfl rfl rfl (fun q => PS_leq (cvE rfl q) rfl) ?_
              refine GL_step rfl (PS_and rfl rfl (fun h => h)) ?_
              refine GL_step rfl (PS_move rfl) ?_
              refine GL_gt (t := 70) rfl rfl rfl (fun q => PS_fieldAddr fa25_0 rfl) ?_
              refine GL_gt (t := 70) rfl rfl rfl (fun q => PS_load (cvE rfl q) tys9 (.tail _ (.tail _ (.head _))) LineV.l0 rfl rfl) ?_
              refine GL_gt (t := 70) rfl rfl rfl (fun q => PS_len_str rfl Try.underlying9 (cvE rfl q)) ?_
              refine GL_gt (t := 70) rfl rfl rfl (fun q => PS_eql (cvE rfl q) rfl) ?_
              refine GL_step rfl (PS_and rfl rfl (fun h => h)) ?_
              refine GL_step rfl (PS_assign rfl) ?_
              refine GL_nil ?_
              refine GQ_sub (.cons (k := 1) rfl (.cons (k := 2) rfl (.cons (k := 4) rfl (.cons (k := 7) rfl (.cons (k := 8) rfl (.cons (k := 9) rfl (.cons (k := 10) rfl (.cons (k := 63) rfl (.nil _))))))))) ?_
              refine GQ_then ?_
              refine G_cond rfl (fun c13 => ?_) (fun c13 => ?_)
              · skip
                have c13p := c13
                try simp only [decide_eq_true_eq, decide_eq_false_iff_not, Bool.not_eq_true', Bool.not_eq_false', Bool.or_eq_true, Bool.and_eq_true, Bool.or_eq_false_iff, Bool.and_eq_false_iff, Int.not_lt, Int.not_le] at c13p
                refine G_region ?_
                refine GL_step rfl (PS_fieldAddr fa25_1 rfl) ?_
                refine GL_unit (PU_store LineV.l1 rfl rfl rfl sz4 rfl (.tail (.tail .head))) ?_
                refine GL_nil ?_
                refine GQ_sub (.cons (k := 1) rfl (.cons (k := 2) rfl (.cons (k := 4) rfl (.cons (k := 7) rfl (.cons (k := 8) rfl (.cons (k := 9) rfl (.nil _))))))) ?_
                refine GQ_block ?_
                refine GQ_block ?_
                refine GQ_then ?_
                refine G_region ?_
                refine GL_step rfl (PS_move rfl) ?_
                refine GL_step rfl (PS_add rfl rfl (IntWalk.i64_in _ (by first | omega | (simp only [Line.bytes1, List.length_cons, List.length_nil]; omega)))) ?_
                refine GL_step rfl (PS_assign rfl) ?_
                refine GL_nil ?_
                refine GQ_sub (.cons (k := 1) rfl (.cons (k := 2) rfl (.cons (k := 4) rfl (.cons (k := 7) rfl (.cons (k := 8) rfl (.cons (k := 9) rfl (.nil _))))))) ?_
                refine GQ_next7_ (k + 1) _ _ _ _ _ _ ?_ ?_ (.cons (k := 9) rfl (.cons (k := 1) rfl (.cons (k := 2) rfl (.cons (k := 4) rfl (.cons (k := 7) rfl (.cons (k := 8) rfl (.nil _))))))) (.refl _)
                · exact ⟨hI11.next (by omega) (by unfold Line.refStep; dsimp only; rw [if_f c3]; (try dsimp only at c10); (try dsimp only at c11); (try dsimp only at c12); (try dsimp only at c13); (try rw [c11, Bool.true_and] at c10); (try rw [c12, Bool.true_and] at c11); (try rw [c13, Bool.true_and] at c12); simp only [Line.refB, Line.refEnd, Line.bytes1, hg, Bool.false_and, Bool.and_false, Bool.true_and, Bool.and_true, c10, c11, c12, c13, ↓reduceIte, Bool.false_eq_true]), by assumption⟩
                · omega
              · skip
                have c13p := c13
                try simp only [decide_eq_true_eq, decide_eq_false_iff_not, Bool.not_eq_true', Bool.not_eq_false', Bool.or_eq_true, Bool.and_eq_true, Bool.or_eq_false_iff, Bool.and_eq_false_iff, Int.not_lt, Int.not_le] at c13p
                refine G_seq ?_
                refine G_region ?_
                refine GL_step rfl (PS_move rfl) ?_
                refine GL_step rfl (PS_geq rfl rfl) ?_
                refine GL_step rfl (PS_move rfl) ?_
                refine GL_gt (t := 80) rfl rfl rfl (fun q => PS_move rfl) ?_
                refine GL_gt (t := 80) rfl rfl rfl (fun q => PS_leq (cvE rfl q) rfl) ?_
                refine GL_step rfl (PS_and rfl rfl (fun h => h)) ?_
                refine GL_step rfl (PS_assign rfl) ?_
                refine GL_nil ?_
                refine GQ_sub (.cons (k := 1) rfl (.cons (k := 2) rfl (.cons (k := 4) rfl (.cons (k := 7) rfl (.cons (k := 8) rfl (.cons (k := 9) rfl (.cons (k := 10) rfl (.cons (k := 77) rfl (.nil _))))))))) ?_
                refine GQ_then ?_
                refine G_cond rfl (fun c14 => ?_) (fun c14 => ?_)
                · skip
                  have c14p := c14
                  try simp only [decide_eq_true_eq, decide_eq_false_iff_not, Bool.not_eq_true', Bool.not_eq_false', Bool.or_eq_true, Bool.and_eq_true, Bool.or_eq_false_iff, Bool.and_eq_false_iff, Int.not_lt, Int.not_le] at c14p
                  refine G_planN (N := 9) [0, 1, 0, 4, 12, 28, 63, 127, 255] mix (by kernel_rfl) rfl ?_
                  refine Plan_float 0 rfl rfl (by kernel_rfl) (OK_s (EX_s (PS_fieldAddr fa25_0 rfl))) ?_
                  refine Plan_float 1 rfl rfl (by kernel_rfl) (OK_s (EX_s (PS_load rfl tys9 (.tail _ (.tail _ (.head _))) LineV.l0 rfl rfl))) ?_
                  refine Plan_float 2 rfl rfl (by kernel_rfl) (OK_s (EX_s (PS_move rfl))) ?_
                  refine Plan_float 3 rfl rfl (by kernel_rfl) (OK_s (EX_s (PS_u8i Try.underlying3 Try.underlying5 rfl))) ?_
                  refine Plan_chain 4 rfl (by kernel_rfl) ?_
                  refine GL_bs1F encI flI rfl Try.underlying60 sz3 zv3 rfl (by decide) (by decide) rfl rfl (fun b5 => ?_)
                  refine GL_hand rfl ⟨?_, ?_⟩
                  · exact (Pend_skip (by kernel_rfl) (Pend_skip (by kernel_rfl) (Pend_okv rfl (OK_s (EX_s (PS_load rfl tys9 (.tail _ (.tail _ (.tail _ (.head _)))) LineV.l0 rfl rfl))) rfl rfl (Pend_okv rfl (OK_s (EX_s (PS_fieldAddr fa25_0 rfl))) rfl rfl Pend_nil))))
                  refine Plan_float 5 rfl rfl (by kernel_rfl) (OK_s (EX_c (PC_of cf52 (.cons rfl .nil) (fun w hS => ref_bytesOf_spec _ [((u.getD k.toNat 0).toNat : Int)] (by intro x hx; rw [List.mem_singleton.1 hx]; omega) (by simp) w ((Kn.own (.head _)) w hS))))) ?_
                  refine Plan_float 6 rfl rfl (by kernel_rfl) (OK_s (EX_s (PS_add_str rfl rfl (by first | omega | (simp only [Line.bytes1, List.length_cons, List.length_nil]; omega))))) ?_
                  refine Plan_float 7 rfl rfl (by kernel_rfl) (OK_s (EX_s (PS_fieldAddr fa25_0 rfl))) ?_
                  refine Plan_chain 8 rfl (by kernel_rfl) ?_
                  refine GL_unit (PU_store LineV.l0 rfl rfl rfl sz9 rfl (.tail (.tail (.tail .head)))) ?_
                  refine GL_hand0 rfl ⟨?_, ?_⟩
                  · exact (Pend_skip (by kernel_rfl) (Pend_skip (by kernel_rfl) (Pend_skip (by kernel_rfl) (Pend_skip (by kernel_rfl) (Pend_skip (by kernel_rfl) (Pend_skip (by kernel_rfl) (Pend_skip (by kernel_rfl) Pend_nil)))))))
                  refine Plan_end (by kernel_rfl) ?_
                  refine GQ_sub (.cons (k := 1) rfl (.cons (k := 2) rfl (.cons (k := 4) rfl (.cons (k := 7) rfl (.cons (k := 8) rfl (.cons (k := 9) rfl (.nil _))))))) ?_
                  refine GQ_block ?_
                  refine GQ_block ?_
                  refine GQ_then ?_
                  refine G_region ?_
                  refine GL_step rfl (PS_move rfl) ?_
                  refine GL_step rfl (PS_add rfl rfl (IntWalk.i64_in _ (by first | omega | (simp only [Line.bytes1, List.length_cons, List.length_nil]; omega)))) ?_
                  refine GL_step rfl (PS_assign rfl) ?_
                  refine GL_nil ?_
                  refine GQ_sub (.cons (k := 1) rfl (.cons (k := 2) rfl (.cons (k := 4) rfl (.cons (k := 7) rfl (.cons (k := 8) rfl (.cons (k := 9) rfl (.nil _))))))) ?_
                  refine GQ_next7_ (k + 1) _ _ _ _ _ _ ?_ ?_ (.cons (k := 9) rfl (.cons (k := 1) rfl (.cons (k := 2) rfl (.cons (k := 4) rfl (.cons (k := 7) rfl (.cons (k := 8) rfl (.nil _))))))) (.cons _ (.refl _))
                  · exact ⟨hI11.next (by omega) (by unfold Line.refStep; dsimp only; rw [if_f c3]; (try dsimp only at c10); (try dsimp only at c11); (try dsimp only at c12); (try dsimp only at c13); (try dsimp only at c14); (try rw [c11, Bool.true_and] at c10); (try rw [c12, Bool.true_and] at c11); (try rw [c13, Bool.true_and] at c12); (try rw [c14, Bool.true_and] at c13); simp only [Line.refB, Line.refEnd, Line.bytes1, hg, Bool.false_and, Bool.and_false, Bool.true_and, Bool.and_true, c10, c11, c12, c13, c14, ↓reduceIte, Bool.false_eq_true]), by assumption⟩
                  · omega
                · skip
                  have c14p := c14
                  try simp only [decide_eq_true_eq, decide_eq_false_iff_not, Bool.not_eq_true', Bool.not_eq_false', Bool.or_eq_true, Bool.and_eq_true, Bool.or_eq_false_iff, Bool.and_eq_false_iff, Int.not_lt, Int.not_le] at c14p
                  refine G_skip ?_
                  refine GQ_sub (.cons (k := 1) rfl (.cons (k := 2) rfl (.cons (k := 4) rfl (.cons (k := 7) rfl (.cons (k := 8) rfl (.cons (k := 9) rfl (.nil _))))))) ?_
                  refine GQ_block ?_
                  refine GQ_block ?_
                  refine GQ_then ?_
                  refine G_region ?_
                  refine GL_step rfl (PS_move rfl) ?_
                  refine GL_step rfl (PS_add rfl rfl (IntWalk.i64_in _ (by first | omega | (simp only [Line.bytes1, List.length_cons, List.length_nil]; omega)))) ?_
                  refine GL_step rfl (PS_assign rfl) ?_
                  refine GL_nil ?_
                  refine GQ_sub (.cons (k := 1) rfl (.cons (k := 2) rfl (.cons (k := 4) rfl (.cons (k := 7) rfl (.cons (k := 8) rfl (.cons (k := 9) rfl (.nil _))))))) ?_
                  refine GQ_next7_ (k + 1) _ _ _ _ _ _ ?_ ?_ (.cons (k := 9) rfl (.cons (k := 1) rfl (.cons (k := 2) rfl (.cons (k := 4) rfl (.cons (k := 7) rfl (.cons (k := 8) rfl (.nil _))))))) (.refl _)
                  · exact ⟨hI11.next (by omega) (by unfold Line.refStep; dsimp only; rw [if_f c3]; (try dsimp only at c10); (try dsimp only at c11); (try dsimp only at c12); (try dsimp only at c13); (try dsimp only at c14); (try rw [c11, Bool.true_and] at c10); (try rw [c12, Bool.true_and] at c11); (try rw [c13, Bool.true_and] at c12); (try rw [c14, Bool.true_and] at c13); simp only [Line.refB, Line.refEnd, Line.bytes1, hg, Bool.false_and, Bool.and_false, Bool.true_and, Bool.and_true, c10, c11, c12, c13, c14, ↓reduceIte, Bool.false_eq_true]), by assumption⟩
                  · omega
    · skip
      have c2p := c2
      try simp only [decide_eq_true_eq, decide_eq_false_iff_not, Bool.not_eq_true', Bool.not_eq_false', Bool.or_eq_true, Bool.and_eq_true, Bool.or_eq_false_iff, Bool.and_eq_false_iff, Int.not_lt, Int.not_le] at c2p
      refine G_exit ?_
      refine GQ_then_exit ?_
      refine GQ_then_exit ?_
      refine GQ_block_exit ?_
      refine GQ_sub (.cons (k := 2) rfl (.cons (k := 4) rfl (.cons (k := 7) rfl (.nil _)))) ?_
      refine GQ_then ?_
      refine G_seq ?_
      refine G_planN (N := 5) [0, 0, 1, 7, 15] mix (by kernel_rfl) rfl ?_
      refine Plan_float 0 rfl rfl (by kernel_rfl) (OK_s (EX_s (PS_loadA rfl tya25 (.tail _ (.tail _ (.head _))) (Lens.id LineV.fl.len LineV.fl.one) rfl))) ?_
      refine Plan_float 1 rfl rfl (by kernel_rfl) (OK_s (EX_s (PS_load1 rfl tys3 (.head _)))) ?_
      refine Plan_chain 2 rfl (by kernel_rfl) ?_
      refine GL_unit (PU_store (Lens.id LineV.fl.len LineV.fl.one) rfl rfl rfl sz25 rfl (.tail (.tail (.tail .head)))) ?_
      refine GL_hand0 rfl ⟨?_, ?_⟩
      · exact (Pend_okv rfl (OK_s (EX_s (PS_load1 rfl tys3 (.head _)))) rfl rfl (Pend_skip (by kernel_rfl) Pend_nil))
      refine Plan_float 3 rfl rfl (by kernel_rfl) (OK_s (EX_s (PS_assign rfl))) ?_
      refine Plan_float 4 rfl rfl (by kernel_rfl) (OK_s (EX_s (PS_assign rfl))) ?_
      refine Plan_end (by kernel_rfl) ?_
      refine GQ_sub (.cons (k := 4) rfl (.cons (k := 5) rfl (.cons (k := 6) rfl (.nil _)))) ?_
      refine GQ_then ?_
      refine G_ret ?_
      refine GQ_ret rfl (.cell rfl (.tail _ (.tail _ (.tail _ (.head _)))) (.inl ⟨(by rw [LineV.fl.len]; exact tya25), rfl⟩) (.tmp rfl (.tmp rfl .nil))) ?_
      intro w1 hS
      have hS := (hS.perm (Pulls.perm (.cons (.tail .head) .nil))).headL
      have e := hI11.done (by omega)
      exact ⟨_, .inr ⟨hgd, _, by rw [e]; rfl, by rw [e]; exact hg, by rw [e]⟩, hS⟩
theorem ref_SameTexts_spec {t0 t1 : Nat} (f g : Hd) (xs ys : List Str) (hx : xs.length ≤ 9223372036854775807) (w : World) (r0 : Rd w f t0 1 (xs.flatMap encS)) (r1 : Rd w g t1 1 (ys.flatMap encS)) : Ret Try.prog 53 #[f.val, g.val] w fun v w' => v = .bool (decide (xs = ys)) ∧ Keep w w' := by
  have hf := r0.len1 flS (by decide)
  have hg := r1.len1 flS (by decide)
  refine Ret_body [] [] Try.func53 rfl rfl rfl (St.start w []) ?_
  refine G_seq ?_
  refine G_region ?_
  refine GL_step rfl (PS_assign rfl) ?_
  refine GL_nil ?_
  refine GQ_sub (.cons (k := 0) rfl (.cons (k := 1) rfl (.nil _))) ?_
  refine GQ_then ?_
  refine G_seq ?_
  refine G_seq ?_
  refine G_region ?_
  refine GL_step rfl (PS_move rfl) ?_
  refine GL_step rfl (PS_len_slice rfl Try.underlying23 rfl) ?_
  refine GL_step rfl (PS_move rfl) ?_
  refine GL_step rfl (PS_len_slice rfl Try.underlying23 rfl) ?_
  refine GL_step rfl (PS_neq rfl rfl) ?_
  refine GL_nil ?_
  refine GQ_sub (.cons (k := 0) rfl (.cons (k := 1) rfl (.cons (k := 10) rfl (.nil _)))) ?_
  refine GQ_then ?_
  refine G_cond rfl (fun c1 => ?_) (fun c1 => ?_)
  · skip
    have c1p := c1
    try simp only [decide_eq_true_eq, decide_eq_false_iff_not, Bool.not_eq_true', Bool.not_eq_false', Bool.or_eq_true, Bool.and_eq_true, Bool.or_eq_false_iff, Bool.and_eq_false_iff, Int.not_lt, Int.not_le] at c1p
    refine G_seq ?_
    refine G_region ?_
    refine GL_step rfl (PS_assign rfl) ?_
    refine GL_nil ?_
    refine GQ_sub (.cons (k := 4) rfl (.nil _)) ?_
    refine GQ_then ?_
    refine G_ret ?_
    refine GQ_then_ret ?_
    refine GQ_ret rfl (.tmp rfl .nil) ?_
    intro w1 hS; refine ⟨congrArg Value.bool ?_, hS.toKeep⟩; have : xs ≠ ys := fun e => by subst e; simp at c1; omega
    simp [this]
  · skip
    have c1p := c1
    try simp only [decide_eq_true_eq, decide_eq_false_iff_not, Bool.not_eq_true', Bool.not_eq_false', Bool.or_eq_true, Bool.and_eq_true, Bool.or_eq_false_iff, Bool.and_eq_false_iff, Int.not_lt, Int.not_le] at c1p
    refine G_skip ?_
    refine GQ_sub (.cons (k := 0) rfl (.cons (k := 1) rfl (.nil _))) ?_
    refine GQ_then ?_
    refine G_seq ?_
    refine G_seq ?_
    refine G_region ?_
    refine GL_step rfl (PS_move rfl) ?_
    refine GL_step rfl (PS_len_slice rfl Try.underlying23 rfl) ?_
    refine GL_step rfl (PS_move rfl) ?_
    refine GL_nil ?_
    refine GQ_sub (.cons (k := 0) rfl (.cons (k := 1) rfl (.cons (k := 12) rfl (.cons (k := 13) rfl (.nil _))))) ?_
    refine GQ_then ?_
    refine G_block ?_
    refine G_subF (.cons (k := 13) rfl (.cons (k := 0) rfl (.cons (k := 1) rfl (.cons (k := 12) rfl (.nil _))))) ?_
    refine G_loop1_ (fun (i : Int) => 0 ≤ i ∧ i ≤ xs.length ∧ xs.length = ys.length ∧ xs.take i.toNat = ys.take i.toNat) (fun (i : Int) => ((xs.length : Int) - i).toNat) (fun (i : Int) => [(13, .int .i64 i)]) (fun (i : Int) => []) (0) ?_ rfl rfl (fun i hI1 => ?_)
    · exact ⟨by omega, by omega, by simp at c1; omega, rfl⟩
    obtain ⟨hI11, hI12, hI13, hI14⟩ := hI1
    refine G_seq ?_
    refine G_region ?_
    refine GL_step rfl (PS_lss rfl rfl) ?_
    refine GL_nil ?_
    refine GQ_then ?_
    refine G_seq ?_
    refine G_cond rfl (fun c2 => ?_) (fun c2 => ?_)
    · skip
      have c2p := c2
      try simp only [decide_eq_true_eq, decide_eq_false_iff_not, Bool.not_eq_true', Bool.not_eq_false', Bool.or_eq_true, Bool.and_eq_true, Bool.or_eq_false_iff, Bool.and_eq_false_iff, Int.not_lt, Int.not_le] at c2p
      refine G_skip ?_
      refine GQ_sub (.cons (k := 0) rfl (.cons (k := 1) rfl (.cons (k := 12) rfl (.cons (k := 13) rfl (.nil _))))) ?_
      refine GQ_then ?_
      refine G_seq ?_
      refine G_block ?_
      refine G_seq ?_
      refine G_region ?_
      refine GL_step rfl (PS_move rfl) ?_
      refine GL_step rfl (PS_assign rfl) ?_
      refine GL_nil ?_
      refine GQ_sub (.cons (k := 0) rfl (.cons (k := 1) rfl (.cons (k := 5) rfl (.cons (k := 12) rfl (.cons (k := 13) rfl (.nil _)))))) ?_
      refine GQ_then ?_
      refine G_seq ?_
      refine G_planN (N := 9) [0, 0, 3, 7, 0, 0, 48, 112, 255] mix (by kernel_rfl) rfl ?_
      refine Plan_float 0 rfl rfl (by kernel_rfl) (OK_s (EX_s (PS_move rfl))) ?_
      refine Plan_float 1 rfl rfl (by kernel_rfl) (OK_s (EX_s (PS_move rfl))) ?_
      refine Plan_float 2 rfl rfl (by kernel_rfl) (OK_s (EX_s (PS_idxS is23 (by decide) (Kn.old r0) rfl rfl (by omega) (by omega)))) ?_
      refine Plan_float 3 rfl rfl (by kernel_rfl) (OK_s (EX_s (PS_ldStr rfl tys9 (Kn.old r0) (by omega)))) ?_
      refine Plan_float 4 rfl rfl (by kernel_rfl) (OK_s (EX_s (PS_move rfl))) ?_
      refine Plan_float 5 rfl rfl (by kernel_rfl) (OK_s (EX_s (PS_move rfl))) ?_
      refine Plan_float 6 rfl rfl (by kernel_rfl) (OK_s (EX_s (PS_idxS is23 (by decide) (Kn.old r1) rfl rfl (by omega) (by omega)))) ?_
      refine Plan_float 7 rfl rfl (by kernel_rfl) (OK_s (EX_s (PS_ldStr rfl tys9 (Kn.old r1) (by omega)))) ?_
      refine Plan_float 8 rfl rfl (by kernel_rfl) (OK_s (EX_s (PS_neq_str rfl rfl))) ?_
      refine Plan_end (by kernel_rfl) ?_
      refine GQ_sub (.cons (k := 0) rfl (.cons (k := 1) rfl (.cons (k := 12) rfl (.cons (k := 13) rfl (.cons (k := 24) rfl (.nil _)))))) ?_
      refine GQ_then ?_
      refine G_cond rfl (fun c3 => ?_) (fun c3 => ?_)
      · skip
        have c3p := c3
        try simp only [decide_eq_true_eq, decide_eq_false_iff_not, Bool.not_eq_true', Bool.not_eq_false', Bool.or_eq_true, Bool.and_eq_true, Bool.or_eq_false_iff, Bool.and_eq_false_iff, Int.not_lt, Int.not_le] at c3p
        refine G_seq ?_
        refine G_region ?_
        refine GL_step rfl (PS_assign rfl) ?_
        refine GL_nil ?_
        refine GQ_sub (.cons (k := 4) rfl (.nil _)) ?_
        refine GQ_then ?_
        refine G_ret ?_
        refine GQ_block_ret ?_
        refine GQ_then_ret ?_
        refine GQ_then_ret ?_
        refine GQ_block_ret ?_
        refine GQ_then_ret ?_
        refine GQ_ret rfl (.tmp rfl .nil) ?_
        intro w1 hS; refine ⟨congrArg Value.bool ?_, hS.toKeep⟩; have := Line.ne_of_getD (d := []) (xs := xs) (ys := ys) (i := i.toNat) (by simpa using c3)
        simp [this]
      · skip
        have c3p := c3
        try simp only [decide_eq_true_eq, decide_eq_false_iff_not, Bool.not_eq_true', Bool.not_eq_false', Bool.or_eq_true, Bool.and_eq_true, Bool.or_eq_false_iff, Bool.and_eq_false_iff, Int.not_lt, Int.not_le] at c3p
        refine G_skip ?_
        refine GQ_sub (.cons (k := 0) rfl (.cons (k := 1) rfl (.cons (k := 12) rfl (.cons (k := 13) rfl (.nil _))))) ?_
        refine GQ_block ?_
        refine GQ_then ?_
        refine G_region ?_
        refine GL_step rfl (PS_add rfl rfl (IntWalk.i64_in _ (by omega))) ?_
        refine GL_step rfl (PS_move rfl) ?_
        refine GL_nil ?_
        refine GQ_sub (.cons (k := 0) rfl (.cons (k := 1) rfl (.cons (k := 12) rfl (.cons (k := 13) rfl (.nil _))))) ?_
        refine GQ_next1_ (i + 1) ?_ ?_ (.cons (k := 13) rfl (.cons (k := 0) rfl (.cons (k := 1) rfl (.cons (k := 12) rfl (.nil _))))) (.refl _)
        · exact ⟨by omega, by omega, hI13, Line.take_next (d := []) hI11 hI13 (by omega) hI14 (by simpa using c3)⟩
        · omega
    · skip
      have c2p := c2
      try simp only [decide_eq_true_eq, decide_eq_false_iff_not, Bool.not_eq_true', Bool.not_eq_false', Bool.or_eq_true, Bool.and_eq_true, Bool.or_eq_false_iff, Bool.and_eq_false_iff, Int.not_lt, Int.not_le] at c2p
      refine G_exit ?_
      refine GQ_then_exit ?_
      refine GQ_then_exit ?_
      refine GQ_block_exit ?_
      refine GQ_sub (.nil _) ?_
      refine GQ_then ?_
      refine G_seq ?_
      refine G_region ?_
      refine GL_step rfl (PS_assign rfl) ?_
      refine GL_nil ?_
      refine GQ_then ?_
      refine G_ret ?_
      refine GQ_ret rfl (.tmp rfl .nil) ?_
      intro w1 hS; refine ⟨congrArg Value.bool ?_, hS.toKeep⟩; have := Line.pickE (xs := xs) (ys := ys) hI13 hI14 (by omega)
      simp [this]
theorem ref_SameLine_spec {t0 t1 : Nat} (x y : LineV) (xs ys : List Str) (hx : xs.length ≤ 9223372036854775807) (w : World) (r0 : Rd w x.queue t0 1 (xs.flatMap encS)) (r1 : Rd w y.queue t1 1 (ys.flatMap encS)) : Ret Try.prog 21 #[.agg x.enc.toArray, .agg y.enc.toArray] w fun v w' => v = .bool (decide (x.now = y.now) && (x.long == y.long) && (x.ret == y.ret) && decide (xs = ys)) ∧ Keep w w' := by
  refine Ret_body [] [] Try.func21 rfl rfl rfl (St.start w []) ?_
  refine G_seq ?_
  refine G_region ?_
  refine GL_box rfl rfl rfl (fun b1 => ?_)
  refine GL_box rfl rfl rfl (fun b2 => ?_)
  refine GL_step rfl (PS_assign rfl) ?_
  refine GL_nil ?_
  refine GQ_sub (.cons (k := 2) rfl (.cons (k := 3) rfl (.nil _))) ?_
  refine GQ_then ?_
  refine G_seq ?_
  refine G_region ?_
  refine GL_step rfl (PS_fieldAddr fa25_0 rfl) ?_
  refine GL_step rfl (PS_load rfl tys9 (.tail _ (.head _)) LineV.l0 rfl rfl) ?_
  refine GL_step rfl (PS_fieldAddr fa25_0 rfl) ?_
  refine GL_step rfl (PS_load rfl tys9 (.head _) LineV.l0 rfl rfl) ?_
  refine GL_step rfl (PS_eql_str rfl rfl) ?_
  refine GL_step rfl (PS_move rfl) ?_
  refine GL_gt (t := 10) rfl rfl rfl (fun q => PS_fieldAddr fa25_1 rfl) ?_
  refine GL_gt (t := 10) rfl rfl rfl (fun q => PS_load (cvE rfl q) tys4 (.tail _ (.head _)) LineV.l1 rfl rfl) ?_
  refine GL_gt (t := 10) rfl rfl rfl (fun q => PS_fieldAddr fa25_1 rfl) ?_
  refine GL_gt (t := 10) rfl rfl rfl (fun q => PS_load (cvE rfl q) tys4 (.head _) LineV.l1 rfl rfl) ?_
  refine GL_gt (t := 10) rfl rfl rfl (fun q => PS_eql_bool Try.underlying4 (cvE rfl q) (cvE rfl q)) ?_
  refine GL_step rfl (PS_and rfl rfl (fun h => h)) ?_
  refine GL_step rfl (PS_move rfl) ?_
  refine GL_gt (t := 17) rfl rfl rfl (fun q => PS_fieldAddr fa25_2 rfl) ?_
  refine GL_gt (t := 17) rfl rfl rfl (fun q => PS_load (cvE rfl q) tys4 (.tail _ (.head _)) LineV.l2 rfl rfl) ?_
  refine GL_gt (t := 17) rfl rfl rfl (fun q => PS_fieldAddr fa25_2 rfl) ?_
  refine GL_gt (t := 17) rfl rfl rfl (fun q => PS_load (cvE rfl q) tys4 (.head _) LineV.l2 rfl rfl) ?_
  refine GL_gt (t := 17) rfl rfl rfl (fun q => PS_eql_bool Try.underlying4 (cvE rfl q) (cvE rfl q)) ?_
  refine GL_step rfl (PS_and rfl rfl (fun h => h)) ?_
  refine GL_step rfl (PS_move rfl) ?_
  refine GL_gt (t := 24) rfl rfl rfl (fun q => PS_fieldAddr fa25_3 rfl) ?_
  refine GL_gt (t := 24) rfl rfl rfl (fun q => PS_load (cvE rfl q) tys23 (.tail _ (.head _)) LineV.l3 rfl rfl) ?_
  refine GL_gt (t := 24) rfl rfl rfl (fun q => PS_fieldAddr fa25_3 rfl) ?_
  refine GL_gt (t := 24) rfl rfl rfl (fun q => PS_load (cvE rfl q) tys23 (.head _) LineV.l3 rfl rfl) ?_
  refine GL_pgt (t := 24) rfl rfl rfl (fun q => by have q1 := q; (try simp at q1); exact PC_of cf53 (.cons (cvE rfl q) (.cons (cvE rfl q) .nil)) (fun w hS => ref_SameTexts_spec _ _ _ _ (by first | assumption | omega) w ((Kn.old r0) w hS) ((Kn.old r1) w hS))) ?_
  refine GL_step rfl (PS_and rfl rfl (fun h => h)) ?_
  refine GL_step rfl (PS_assign rfl) ?_
  refine GL_nil ?_
  refine GQ_sub (.cons (k := 4) rfl (.nil _)) ?_
  refine GQ_then ?_
  refine G_ret ?_
  refine GQ_ret rfl (.tmp rfl .nil) ?_
  intro w1 hS; refine ⟨?_, hS.toKeep⟩; rfl
theorem line_Next_spec {t0 : Nat} (l : LineV) (qs : List Str) (hb : qs.length ≤ 17592186044416) : CtrR Try.prog 23 #[.agg l.enc.toArray] [] (fun w => Rd w l.queue t0 1 (qs.flatMap encS) ∧ l.queue.len ≤ l.queue.cap) (fun v B => (qs = [] ∧ v = .tuple #[.agg l.enc.toArray, vstr [], .bool false] ∧ B = []) ∨ (∃ q r, qs = q :: r ∧ ∃ h' : Hd, v = .tuple #[.agg (LineV.enc ⟨l.now, l.long, l.ret, h'⟩).toArray, vstr q, .bool true] ∧ h'.len = r.length ∧ B = [Res.own h' 9 1 (r.flatMap encS)])) := by
  intro w hS0 hH
  obtain ⟨r0, k0⟩ := hH
  have hl0 := r0.len1 flS (by decide)
  refine Ret_body _ _ Try.func23 rfl rfl rfl (hS0) ?_
  refine G_seq ?_
  refine G_region ?_
  refine GL_box rfl rfl rfl (fun b1 => ?_)
  refine GL_alloc rfl zv25 rfl (fun b2 => ?_)
  refine GL_step rfl (PS_assign rfl) ?_
  refine GL_step rfl (PS_assign rfl) ?_
  refine GL_nil ?_
  refine GQ_sub (.cons (k := 1) rfl (.cons (k := 2) rfl (.nil _))) ?_
  refine GQ_then ?_
  refine G_seq ?_
  refine G_seq ?_
  refine G_region ?_
  refine GL_step rfl (PS_fieldAddr fa25_3 rfl) ?_
  refine GL_step rfl (PS_load rfl tys23 (.tail _ (.head _)) LineV.l3 rfl rfl) ?_
  refine GL_step rfl (PS_len_slice rfl Try.underlying23 rfl) ?_
  refine GL_step rfl (PS_eql rfl rfl) ?_
  refine GL_nil ?_
  refine GQ_sub (.cons (k := 1) rfl (.cons (k := 2) rfl (.cons (k := 9) rfl (.nil _)))) ?_
  refine GQ_then ?_
  refine G_cond rfl (fun c1 => ?_) (fun c1 => ?_)
  · skip
    have c1p := c1
    try simp only [decide_eq_true_eq, decide_eq_false_iff_not, Bool.not_eq_true', Bool.not_eq_false', Bool.or_eq_true, Bool.and_eq_true, Bool.or_eq_false_iff, Bool.and_eq_false_iff, Int.not_lt, Int.not_le] at c1p
    have hq : qs = [] := List.length_eq_zero_iff.1 (by omega)
    refine G_seq ?_
    refine G_region ?_
    refine GL_step rfl (PS_loadA rfl tya25 (.tail _ (.head _)) (Lens.id LineV.fl.len LineV.fl.one) rfl) ?_
    refine GL_unit (PU_store (Lens.id LineV.fl.len LineV.fl.one) rfl rfl rfl sz25 rfl .head) ?_
    refine GL_step rfl (PS_assign rfl) ?_
    refine GL_step rfl (PS_assign rfl) ?_
    refine GL_nil ?_
    refine GQ_sub (.cons (k := 2) rfl (.cons (k := 3) rfl (.cons (k := 4) rfl (.nil _)))) ?_
    refine GQ_then ?_
    refine G_ret ?_
    refine GQ_then_ret ?_
    refine GQ_ret rfl (.cell rfl (.head _) (.inl ⟨(by rw [LineV.fl.len]; exact tya25), rfl⟩) (.tmp rfl (.tmp rfl .nil))) ?_
    intro w1 hS
    have hS := (hS.perm (Pulls.perm .nil)).headL
    exact ⟨_, .inl ⟨hq, rfl, rfl⟩, hS⟩
  · skip
    have c1p := c1
    try simp only [decide_eq_true_eq, decide_eq_false_iff_not, Bool.not_eq_true', Bool.not_eq_false', Bool.or_eq_true, Bool.and_eq_true, Bool.or_eq_false_iff, Bool.and_eq_false_iff, Int.not_lt, Int.not_le] at c1p
    obtain ⟨q, r, rfl⟩ := Line.cons_of (qs := qs) (by omega)
    rw [List.length_cons] at hl0 hb
    refine G_skip ?_
    refine GQ_sub (.cons (k := 1) rfl (.cons (k := 2) rfl (.nil _))) ?_
    refine GQ_then ?_
    refine G_seq ?_
    refine G_region ?_
    refine GL_step rfl (PS_fieldAddr fa25_3 rfl) ?_
    refine GL_step rfl (PS_load rfl tys23 (.tail _ (.head _)) LineV.l3 rfl rfl) ?_
    refine GL_step rfl (PS_idxS is23 (by decide) (Kn.old r0) rfl rfl (by omega) (by omega)) ?_
    refine GL_step rfl (PS_ldStr rfl tys9 (Kn.old r0) (by simp)) ?_
    refine GL_step rfl (PS_assign rfl) ?_
    refine GL_nil ?_
    refine GQ_sub (.cons (k := 1) rfl (.cons (k := 2) rfl (.cons (k := 5) rfl (.nil _)))) ?_
    refine GQ_then ?_
    refine G_seq ?_
    refine G_region ?_
    refine GL_step rfl (PS_fieldAddr fa25_3 rfl) ?_
    refine GL_step rfl (PS_load rfl tys23 (.tail _ (.head _)) LineV.l3 rfl rfl) ?_
    refine GL_step rfl (PS_subHl Try.underlying23 sz9 rfl rfl (by decide) (by omega)) ?_
    refine GL_callR rfl cf49 (.cons rfl .nil) .nil (slices_Clone_string_string_spec _ r (by omega)) (fun w hS => by have h := (Kn.cut (l := 1) (r := l.queue.len) flS (Kn.old r0) (by omega) (Nat.le_refl _) (KnC.of k0)) w hS; rw [show (((q :: r).take l.queue.len).drop 1) = r from by rw [List.take_of_length_le (by simp; omega)]; rfl] at h; exact h) (fun v2 B hv => ?_)
    obtain ⟨y3, rfl, y4, rfl⟩ := hv
    refine GL_step rfl (PS_fieldAddr fa25_3 rfl) ?_
    refine GL_unit (PU_store LineV.l3 rfl rfl rfl sz23 rfl (.tail (.tail .head))) ?_
    refine GL_nil ?_
    refine GQ_sub (.cons (k := 1) rfl (.cons (k := 2) rfl (.cons (k := 5) rfl (.nil _)))) ?_
    refine GQ_then ?_
    refine G_seq ?_
    refine G_region ?_
    refine GL_step rfl (PS_loadA rfl tya25 (.tail _ (.tail _ (.head _))) (Lens.id LineV.fl.len LineV.fl.one) rfl) ?_
    refine GL_step rfl (PS_move rfl) ?_
    refine GL_unit (PU_store (Lens.id LineV.fl.len LineV.fl.one) rfl rfl rfl sz25 rfl (.tail .head)) ?_
    refine GL_step rfl (PS_assign rfl) ?_
    refine GL_step rfl (PS_assign rfl) ?_
    refine GL_nil ?_
    refine GQ_sub (.cons (k := 2) rfl (.cons (k := 3) rfl (.cons (k := 4) rfl (.nil _)))) ?_
    refine GQ_then ?_
    refine G_ret ?_
    refine GQ_ret rfl (.cell rfl (.tail _ (.head _)) (.inl ⟨(by rw [LineV.fl.len]; exact tya25), rfl⟩) (.tmp rfl (.tmp rfl .nil))) ?_
    intro w1 hS
    have hS := (hS.perm (Pulls.perm (.cons .head .nil))).headL
    exact ⟨_, .inr ⟨q, r, rfl, _, rfl, by assumption, rfl⟩, hS⟩
theorem ref_NextLine_spec {t0 : Nat} (l : LineV) (qs : List Str) (hb : qs.length ≤ 17592186044416) : CtrR Try.prog 24 #[.agg l.enc.toArray] [] (fun w => Rd w l.queue t0 1 (qs.flatMap encS) ∧ l.queue.len ≤ l.queue.cap) (fun v B => (qs = [] ∧ v = .tuple #[.agg l.enc.toArray, vstr [], .bool false] ∧ B = []) ∨ (∃ q r, qs = q :: r ∧ ∃ h' : Hd, v = .tuple #[.agg (LineV.enc ⟨l.now, l.long, l.ret, h'⟩).toArray, vstr q, .bool true] ∧ h'.len = r.length ∧ B = [Res.own h' 9 1 (r.flatMap encS)])) := by
  intro w hS0 hH
  obtain ⟨r0, k0⟩ := hH
  have hl0 := r0.len1 flS (by decide)
  refine Ret_body _ _ Try.func24 rfl rfl rfl (hS0) ?_
  refine G_seq ?_
  refine G_region ?_
  refine GL_box rfl rfl rfl (fun b1 => ?_)
  refine GL_alloc rfl zv25 rfl (fun b2 => ?_)
  refine GL_step rfl (PS_assign rfl) ?_
  refine GL_step rfl (PS_assign rfl) ?_
  refine GL_nil ?_
  refine GQ_sub (.cons (k := 1) rfl (.cons (k := 2) rfl (.nil _))) ?_
  refine GQ_then ?_
  refine G_seq ?_
  refine G_seq ?_
  refine G_region ?_
  refine GL_step rfl (PS_fieldAddr fa25_3 rfl) ?_
  refine GL_step rfl (PS_load rfl tys23 (.tail _ (.head _)) LineV.l3 rfl rfl) ?_
  refine GL_step rfl (PS_len_slice rfl Try.underlying23 rfl) ?_
  refine GL_step rfl (PS_eql rfl rfl) ?_
  refine GL_nil ?_
  refine GQ_sub (.cons (k := 1) rfl (.cons (k := 2) rfl (.cons (k := 9) rfl (.nil _)))) ?_
  refine GQ_then ?_
  refine G_cond rfl (fun c1 => ?_) (fun c1 => ?_)
  · skip
    have c1p := c1
    try simp only [decide_eq_true_eq, decide_eq_false_iff_not, Bool.not_eq_true', Bool.not_eq_false', Bool.or_eq_true, Bool.and_eq_true, Bool.or_eq_false_iff, Bool.and_eq_false_iff, Int.not_lt, Int.not_le] at c1p
    have hq : qs = [] := List.length_eq_zero_iff.1 (by omega)
    refine G_seq ?_
    refine G_region ?_
    refine GL_step rfl (PS_loadA rfl tya25 (.tail _ (.head _)) (Lens.id LineV.fl.len LineV.fl.one) rfl) ?_
    refine GL_unit (PU_store (Lens.id LineV.fl.len LineV.fl.one) rfl rfl rfl sz25 rfl .head) ?_
    refine GL_step rfl (PS_assign rfl) ?_
    refine GL_step rfl (PS_assign rfl) ?_
    refine GL_nil ?_
    refine GQ_sub (.cons (k := 2) rfl (.cons (k := 3) rfl (.cons (k := 4) rfl (.nil _)))) ?_
    refine GQ_then ?_
    refine G_ret ?_
    refine GQ_then_ret ?_
    refine GQ_ret rfl (.cell rfl (.head _) (.inl ⟨(by rw [LineV.fl.len]; exact tya25), rfl⟩) (.tmp rfl (.tmp rfl .nil))) ?_
    intro w1 hS
    have hS := (hS.perm (Pulls.perm .nil)).headL
    exact ⟨_, .inl ⟨hq, rfl, rfl⟩, hS⟩
  · skip
    have c1p := c1
    try simp only [decide_eq_true_eq, decide_eq_false_iff_not, Bool.not_eq_true', Bool.not_eq_false', Bool.or_eq_true, Bool.and_eq_true, Bool.or_eq_false_iff, Bool.and_eq_false_iff, Int.not_lt, Int.not_le] at c1p
    obtain ⟨q, r, rfl⟩ := Line.cons_of (qs := qs) (by omega)
    rw [List.length_cons] at hl0 hb
    refine G_skip ?_
    refine GQ_sub (.cons (k := 1) rfl (.cons (k := 2) rfl (.nil _))) ?_
    refine GQ_then ?_
    refine G_seq ?_
    refine G_region ?_
    refine GL_step rfl (PS_fieldAddr fa25_3 rfl) ?_
    refine GL_step rfl (PS_load rfl tys23 (.tail _ (.head _)) LineV.l3 rfl rfl) ?_
    refine GL_step rfl (PS_idxS is23 (by decide) (Kn.old r0) rfl rfl (by omega) (by omega)) ?_
    refine GL_step rfl (PS_ldStr rfl tys9 (Kn.old r0) (by simp)) ?_
    refine GL_step rfl (PS_assign rfl) ?_
    refine GL_nil ?_
    refine GQ_sub (.cons (k := 1) rfl (.cons (k := 2) rfl (.cons (k := 5) rfl (.nil _)))) ?_
    refine GQ_then ?_
    refine G_seq ?_
    refine G_region ?_
    refine GL_step rfl (PS_fieldAddr fa25_3 rfl) ?_
    refine GL_step rfl (PS_load rfl tys23 (.tail _ (.head _)) LineV.l3 rfl rfl) ?_
    refine GL_step rfl (PS_subHl Try.underlying23 sz9 rfl rfl (by decide) (by omega)) ?_
    refine GL_nilF encS 9 1 ?_
    refine GL_append0 (e := encS) rfl Try.underlying23 sz9 zv9 rfl by9 (by decide) rfl rfl (fun w hS => Src.sliceT Try.underlying23 (by have h := (Kn.cut (l := 1) (r := l.queue.len) flS (Kn.old r0) (by omega) (Nat.le_refl _) (KnC.of k0)) w hS; rw [show (((q :: r).take l.queue.len).drop 1) = r from by rw [List.take_of_length_le (by simp; omega)]; rfl] at h; exact h)) rfl rfl (by dsimp only [Hd.cut]; omega) (fun _ => .head) (fun h2 h2l => ?_)
    refine GL_step rfl (PS_fieldAddr fa25_3 rfl) ?_
    refine GL_unit (PU_store LineV.l3 rfl rfl rfl sz23 rfl (.tail (.tail .head))) ?_
    refine GL_nil ?_
    refine GQ_sub (.cons (k := 1) rfl (.cons (k := 2) rfl (.cons (k := 5) rfl (.nil _)))) ?_
    refine GQ_then ?_
    refine G_seq ?_
    refine G_region ?_
    refine GL_step rfl (PS_loadA rfl tya25 (.tail _ (.tail _ (.head _))) (Lens.id LineV.fl.len LineV.fl.one) rfl) ?_
    refine GL_step rfl (PS_move rfl) ?_
    refine GL_unit (PU_store (Lens.id LineV.fl.len LineV.fl.one) rfl rfl rfl sz25 rfl (.tail .head)) ?_
    refine GL_step rfl (PS_assign rfl) ?_
    refine GL_step rfl (PS_assign rfl) ?_
    refine GL_nil ?_
    refine GQ_sub (.cons (k := 2) rfl (.cons (k := 3) rfl (.cons (k := 4) rfl (.nil _)))) ?_
    refine GQ_then ?_
    refine G_ret ?_
    refine GQ_ret rfl (.cell rfl (.tail _ (.head _)) (.inl ⟨(by rw [LineV.fl.len]; exact tya25), rfl⟩) (.tmp rfl (.tmp rfl .nil))) ?_
    intro w1 hS
    have hS := (hS.perm (Pulls.perm (.cons .head .nil))).headL
    exact ⟨_, .inr ⟨q, r, rfl, _, rfl, by (try dsimp only [Hd.cut] at *); omega, rfl⟩, hS⟩
theorem law_reads_spec  (w : World) : Ret Try.prog 25 #[] w fun v w' => v = .bool true ∧ Keep w w' := by
  refine Ret_body [] [] Try.func25 rfl rfl rfl (St.start w []) ?_
  refine G_seq ?_
  refine G_region ?_
  refine GL_step rfl (PS_assign rfl) ?_
  refine GL_nil ?_
  refine GQ_sub (.nil _) ?_
  refine GQ_then ?_
  refine G_seq ?_
  refine G_region ?_
  refine GL_step rfl (PS_build pl25 zv25 rfl .nil) ?_
  refine GL_callR rfl cf13 (.cons rfl (.cons rfl .nil)) .nil (line_Feed_spec (t0 := 0) ⟨[], false, false, ⟨none, 0, 0⟩⟩ [] _ (by decide)) (fun w hS => (fun w _ => Rd.nil w _ _) w hS) (fun v1 B hv => ?_)
  rcases hv with ⟨y2, rfl, rfl⟩ | ⟨y3, y4, rfl, y5, rfl⟩
  · exact absurd y2 (by decide)
  · skip
    refine GL_step rfl (PS_move rfl) ?_
    refine GL_step rfl (PS_extract rfl rfl) ?_
    refine GL_step rfl (PS_extract rfl rfl) ?_
    refine GL_step rfl (PS_extract rfl rfl) ?_
    refine GL_alloc rfl zv25 rfl (fun b1 => ?_)
    refine GL_unit (PU_store (Lens.id LineV.fl.len LineV.fl.one) rfl rfl rfl sz25 rfl .head) ?_
    refine GL_step rfl (PS_assign rfl) ?_
    refine GL_step rfl (PS_assign rfl) ?_
    refine GL_nil ?_
    refine GQ_sub (.cons (k := 1) rfl (.cons (k := 2) rfl (.cons (k := 3) rfl (.nil _)))) ?_
    refine GQ_then ?_
    refine G_seq ?_
    refine G_region ?_
    refine GL_step rfl (PS_move rfl) ?_
    refine GL_step rfl (PS_eql rfl rfl) ?_
    refine GL_step rfl (PS_move rfl) ?_
    refine GL_gt (t := 12) rfl rfl rfl (fun q => PS_move rfl) ?_
    refine GL_gt (t := 12) rfl rfl rfl (fun q => PS_eql (cvE rfl q) rfl) ?_
    refine GL_step rfl (PS_and rfl rfl (fun h => h)) ?_
    refine GL_step rfl (PS_move rfl) ?_
    refine GL_gt (t := 16) rfl rfl rfl (fun q => PS_fieldAddr fa25_3 rfl) ?_
    refine GL_gt (t := 16) rfl rfl rfl (fun q => PS_load (cvE rfl q) tys23 (.head _) LineV.l3 rfl rfl) ?_
    refine GL_gt (t := 16) rfl rfl rfl (fun q => PS_len_slice rfl Try.underlying23 (cvE rfl q)) ?_
    refine GL_gt (t := 16) rfl rfl rfl (fun q => PS_eql (cvE rfl q) rfl) ?_
    refine GL_step rfl (PS_and rfl rfl (fun h => h)) ?_
    refine GL_step rfl (PS_move rfl) ?_
    refine GL_gt (t := 22) rfl rfl rfl (fun q => PS_fieldAddr fa25_3 rfl) ?_
    refine GL_gt (t := 22) rfl rfl rfl (fun q => PS_load (cvE rfl q) tys23 (.head _) LineV.l3 rfl rfl) ?_
    refine GL_gt (t := 22) rfl rfl rfl (fun q => by have q1 := q; (try simp at q1); exact PS_idxS is23 (by decide) (Kn.own (.tail _ (.head _))) (cvE rfl q) rfl (by omega) (by omega)) ?_
    refine GL_gt (t := 22) rfl rfl rfl (fun q => PS_ldStr (cvE rfl q) tys9 (Kn.own (.tail _ (.head _))) (by decide)) ?_
    refine GL_gt (t := 22) rfl rfl rfl (fun q => PS_eql_str (cvE rfl q) rfl) ?_
    refine GL_step rfl (PS_and rfl rfl (fun h => h)) ?_
    refine GL_step rfl (PS_move rfl) ?_
    refine GL_gt (t := 29) rfl rfl rfl (fun q => PS_fieldAddr fa25_0 rfl) ?_
    refine GL_gt (t := 29) rfl rfl rfl (fun q => PS_load (cvE rfl q) tys9 (.head _) LineV.l0 rfl rfl) ?_
    refine GL_gt (t := 29) rfl rfl rfl (fun q => PS_eql_str (cvE rfl q) rfl) ?_
    refine GL_step rfl (PS_and rfl rfl (fun h => h)) ?_
    refine GL_step rfl (PS_assign rfl) ?_
    refine GL_nil ?_
    refine GQ_sub (.cons (k := 0) rfl (.nil _)) ?_
    refine GQ_then ?_
    refine G_ret ?_
    refine GQ_ret rfl (.tmp rfl .nil) ?_
    intro w1 hS; refine ⟨?_, hS.toKeep⟩; have e : y4.len = 1 := y5
    rw [e]
    rfl
theorem law_LineFeeds_spec {t0 : Nat} (l : LineV) (qs : List Str) (u : Str) (hu : u.length ≤ 9000000000000000000) (hb : qs.length ≤ 17592186044416) (hs : ∀ s ∈ qs, s.length ≤ 9223372036854775807) (hn : l.now.length ≤ 9223372036854775807) (w : World) (r0 : Rd w l.queue t0 1 (qs.flatMap encS)) (k0 : l.queue.len ≤ l.queue.cap) : Ret Try.prog 6 #[.agg l.enc.toArray, vstr u] w fun v w' => v = .bool true ∧ Keep w w' := by
  have hl0 := r0.len1 flS (by decide)
  have hx : qs.length ≤ 9223372036854775807 := by omega
  refine Ret_body [] [] Try.func6 rfl rfl rfl (St.start w []) ?_
  refine G_seq ?_
  refine G_region ?_
  refine GL_box rfl rfl rfl (fun b1 => ?_)
  refine GL_step rfl (PS_assign rfl) ?_
  refine GL_nil ?_
  refine GQ_sub (.cons (k := 1) rfl (.cons (k := 2) rfl (.nil _))) ?_
  refine GQ_then ?_
  refine G_seq ?_
  refine G_region ?_
  refine GL_step rfl (PS_loadA rfl tya25 (.head _) (Lens.id LineV.fl.len LineV.fl.one) rfl) ?_
  refine GL_callR rfl cf19 (.cons rfl .nil) .nil (ref_CopyLine_spec _ _ hb) (fun w hS => (Kn.old r0) w hS) (fun v1 B hv => ?_)
  obtain ⟨y2, rfl, y3, rfl⟩ := hv
  refine GL_alloc rfl zv25 rfl (fun b2 => ?_)
  refine GL_unit (PU_store (Lens.id LineV.fl.len LineV.fl.one) rfl rfl rfl sz25 rfl .head) ?_
  refine GL_nil ?_
  refine GQ_sub (.cons (k := 1) rfl (.cons (k := 2) rfl (.cons (k := 5) rfl (.nil _)))) ?_
  refine GQ_then ?_
  refine G_seq ?_
  refine G_region ?_
  refine GL_step rfl (PS_loadA rfl tya25 (.head _) (Lens.id LineV.fl.len LineV.fl.one) rfl) ?_
  refine GL_step rfl (PS_move rfl) ?_
  refine GL_callR rfl cf13 (.cons rfl (.cons rfl .nil)) .nil (line_Feed_spec _ _ _ hu) (fun w hS => (Kn.own (.tail _ (.head _))) w hS) (fun v5 B hv => ?_)
  rcases hv with ⟨y6, rfl, rfl⟩ | ⟨y7, y8, rfl, y9, rfl⟩
  · skip
    refine GL_step rfl (PS_move rfl) ?_
    refine GL_step rfl (PS_extract rfl rfl) ?_
    refine GL_step rfl (PS_extract rfl rfl) ?_
    refine GL_step rfl (PS_extract rfl rfl) ?_
    refine GL_alloc rfl zv25 rfl (fun b3 => ?_)
    refine GL_unit (PU_store (Lens.id LineV.fl.len LineV.fl.one) rfl rfl rfl sz25 rfl .head) ?_
    refine GL_step rfl (PS_assign rfl) ?_
    refine GL_step rfl (PS_assign rfl) ?_
    refine GL_nil ?_
    refine GQ_sub (.cons (k := 1) rfl (.cons (k := 2) rfl (.cons (k := 5) rfl (.cons (k := 6) rfl (.cons (k := 7) rfl (.cons (k := 8) rfl (.nil _))))))) ?_
    refine GQ_then ?_
    refine G_seq ?_
    refine G_region ?_
    refine GL_step rfl (PS_loadA rfl tya25 (.tail _ (.tail _ (.tail _ (.head _)))) (Lens.id LineV.fl.len LineV.fl.one) rfl) ?_
    refine GL_step rfl (PS_move rfl) ?_
    refine GL_callR rfl cf20 (.cons rfl (.cons rfl .nil)) .nil (ref_FeedText_spec _ _ _ hu hs hn hx) (fun w hS => (Kn.old r0) w hS) (fun v11 B hv => ?_)
    rcases hv with ⟨y12, rfl, rfl⟩ | ⟨y13, y14, rfl, y15, rfl⟩
    · skip
      refine GL_step rfl (PS_move rfl) ?_
      refine GL_step rfl (PS_extract rfl rfl) ?_
      refine GL_step rfl (PS_extract rfl rfl) ?_
      refine GL_step rfl (PS_extract rfl rfl) ?_
      refine GL_alloc rfl zv25 rfl (fun b4 => ?_)
      refine GL_unit (PU_store (Lens.id LineV.fl.len LineV.fl.one) rfl rfl rfl sz25 rfl .head) ?_
      refine GL_step rfl (PS_assign rfl) ?_
      refine GL_step rfl (PS_assign rfl) ?_
      refine GL_nil ?_
      refine GQ_sub (.cons (k := 2) rfl (.cons (k := 5) rfl (.cons (k := 6) rfl (.cons (k := 7) rfl (.cons (k := 8) rfl (.cons (k := 9) rfl (.cons (k := 10) rfl (.cons (k := 11) rfl (.nil _))))))))) ?_
      refine GQ_then ?_
      refine G_seq ?_
      refine G_seq ?_
      refine G_planN (N := 28) [0, 0, 3, 7, 15, 31, 31, 127, 255, 511, 1023, 1023, 4095, 8191, 16383, 32767, 32767, 131071, 262143, 524287, 1048575, 2097151, 4194303, 8388607, 2097151, 33554431, 67108863, 134217727] mix (by kernel_rfl) rfl ?_
      refine Plan_float 0 rfl rfl (by kernel_rfl) (OK_s (EX_s (PS_loadA rfl tya25 (.tail _ (.head _)) (Lens.id LineV.fl.len LineV.fl.one) rfl))) ?_
      refine Plan_float 1 rfl rfl (by kernel_rfl) (OK_s (EX_s (PS_loadA rfl tya25 (.head _) (Lens.id LineV.fl.len LineV.fl.one) rfl))) ?_
      refine Plan_float 2 rfl rfl (by kernel_rfl) (OK_s (EX_c (PC_of cf21 (.cons rfl (.cons rfl .nil)) (fun w hS => ref_SameLine_spec _ _ _ _ (by first | exact Line.q_start hx | assumption | omega | exact Line.tail_le (by assumption) hx) w ((Kn.own (.tail _ (.tail _ (.tail _ (.head _))))) w hS) ((Kn.old r0) w hS))))) ?_
      refine Plan_float 3 rfl rfl (by kernel_rfl) (OK_s (EX_s (PS_not rfl))) ?_
      refine Plan_float 4 rfl rfl (by kernel_rfl) (OK_s (EX_s (PS_move rfl))) ?_
      refine Plan_float 5 rfl rfl (by kernel_rfl) (OK_gf (t := 36) rfl rfl (fun q => EX_s (PS_move rfl))) ?_
      refine Plan_float 6 rfl rfl (by kernel_rfl) (OK_gf (t := 36) rfl rfl (fun q => EX_s (PS_move rfl))) ?_
      refine Plan_float 7 rfl rfl (by kernel_rfl) (OK_gf (t := 36) rfl rfl (fun q => EX_s (PS_neq (cvE rfl (by rw [q]; rfl)) (cvE rfl (by rw [q]; rfl))))) ?_
      refine Plan_float 8 rfl rfl (by kernel_rfl) (OK_s (EX_s (PS_or rfl rfl (fun h => by rw [h]; rfl)))) ?_
      refine Plan_float 9 rfl rfl (by kernel_rfl) (OK_s (EX_s (PS_move rfl))) ?_
      refine Plan_float 10 rfl rfl (by kernel_rfl) (OK_gf (t := 41) rfl rfl (fun q => EX_s (PS_move rfl))) ?_
      refine Plan_float 11 rfl rfl (by kernel_rfl) (OK_gf (t := 41) rfl rfl (fun q => EX_s (PS_move rfl))) ?_
      refine Plan_float 12 rfl rfl (by kernel_rfl) (OK_gf (t := 41) rfl rfl (fun q => EX_s (PS_neq (cvE rfl (by rw [q]; rfl)) (cvE rfl (by rw [q]; rfl))))) ?_
      refine Plan_float 13 rfl rfl (by kernel_rfl) (OK_s (EX_s (PS_or rfl rfl (fun h => by rw [h]; rfl)))) ?_
      refine Plan_float 14 rfl rfl (by kernel_rfl) (OK_s (EX_s (PS_move rfl))) ?_
      refine Plan_float 15 rfl rfl (by kernel_rfl) (OK_gf (t := 46) rfl rfl (fun q => EX_s (PS_loadA rfl tya25 (.tail _ (.tail _ (.head _))) (Lens.id LineV.fl.len LineV.fl.one) rfl))) ?_
      refine Plan_float 16 rfl rfl (by kernel_rfl) (OK_gf (t := 46) rfl rfl (fun q => EX_s (PS_loadA rfl tya25 (.tail _ (.tail _ (.tail _ (.tail _ (.head _))))) (Lens.id LineV.fl.len LineV.fl.one) rfl))) ?_
      refine Plan_float 17 rfl rfl (by kernel_rfl) (OK_gf (t := 46) rfl rfl (fun q => by have q1 := q; (try simp at q1); exact EX_c (PC_of cf21 (.cons (cvE rfl (by rw [q]; rfl)) (.cons (cvE rfl (by rw [q]; rfl)) .nil)) (fun w hS => ref_SameLine_spec _ _ _ _ (by first | exact Line.q_start hx | assumption | omega | exact Line.tail_le (by assumption) hx) w ((Kn.own (.tail _ (.tail _ (.tail _ (.head _))))) w hS) ((Kn.old r0) w hS))))) ?_
      refine Plan_float 18 rfl rfl (by kernel_rfl) (OK_gf (t := 46) rfl rfl (fun q => EX_s (PS_not (cvE rfl (by rw [q]; rfl))))) ?_
      refine Plan_float 19 rfl rfl (by kernel_rfl) (OK_s (EX_s (PS_or rfl rfl (fun h => by rw [h]; rfl)))) ?_
      refine Plan_float 20 rfl rfl (by kernel_rfl) (OK_s (EX_s (PS_move rfl))) ?_
      refine Plan_float 21 rfl rfl (by kernel_rfl) (OK_gf (t := 52) rfl rfl (fun q => EX_s (PS_loadA rfl tya25 (.tail _ (.tail _ (.tail _ (.tail _ (.head _))))) (Lens.id LineV.fl.len LineV.fl.one) rfl))) ?_
      refine Plan_float 24 rfl rfl (by kernel_rfl) (OK_gf (t := 52) rfl rfl (fun q => EX_s (PS_loadA rfl tya25 (.tail _ (.tail _ (.tail _ (.tail _ (.head _))))) (Lens.id LineV.fl.len LineV.fl.one) rfl))) ?_
      refine Plan_chain 22 rfl (by kernel_rfl) ?_
      refine GL_fork 52 rfl (fun c1 => ?_) (fun c1 => ?_)
      · exact absurd c1 (by simp [Line.start])
      · skip
        have c1p := c1
        try simp only [decide_eq_true_eq, decide_eq_false_iff_not, Bool.not_eq_true', Bool.not_eq_false', Bool.or_eq_true, Bool.and_eq_true, Bool.or_eq_false_iff, Bool.and_eq_false_iff, Int.not_lt, Int.not_le] at c1p
        refine GL_callR_g (t := 52) rfl rfl rfl cf19 (.cons (cvE rfl (by rw [c1]; rfl)) .nil) .nil (ref_CopyLine_spec _ _ hb) (fun w hS => (Kn.old r0) w hS) (fun v17 B hv => ?_)
        obtain ⟨y18, rfl, y19, rfl⟩ := hv
        refine GL_hand rfl ⟨?_, ?_⟩
        · exact (Pend_okv rfl (OK_gf (t := 52) rfl rfl (fun q => EX_s (PS_loadA rfl tya25 (.tail _ (.tail _ (.tail _ (.tail _ (.tail _ (.head _)))))) (Lens.id LineV.fl.len LineV.fl.one) rfl))) rfl rfl (Pend_skip (by kernel_rfl) (Pend_skip (by kernel_rfl) (Pend_skip (by kernel_rfl) (Pend_skip (by kernel_rfl) (Pend_skip (by kernel_rfl) (Pend_skip (by kernel_rfl) (Pend_skip (by kernel_rfl) (Pend_skip (by kernel_rfl) (Pend_skip (by kernel_rfl) (Pend_skip (by kernel_rfl) (Pend_skip (by kernel_rfl) (Pend_skip (by kernel_rfl) (Pend_skip (by kernel_rfl) (Pend_skip (by kernel_rfl) (Pend_skip (by kernel_rfl) (Pend_skip (by kernel_rfl) (Pend_skip (by kernel_rfl) (Pend_skip (by kernel_rfl) (Pend_skip (by kernel_rfl) (Pend_skip (by kernel_rfl) (Pend_skip (by kernel_rfl) (Pend_skip (by kernel_rfl) Pend_nil)))))))))))))))))))))))
        refine Plan_float 23 rfl rfl (by kernel_rfl) (OK_on (t := 52) rfl (lkE rfl c1) (EX_c (PC_of cf16 (.cons rfl .nil) (fun w hS => line_Good_spec _ _ w ((Kn.own (.head _)) w hS))))) ?_
        refine Plan_float 25 rfl rfl (by kernel_rfl) (OK_on (t := 52) rfl (lkE rfl c1) (EX_c (PC_of cf22 (.cons (cvE rfl (by rw [c1]; rfl)) .nil) (fun w hS => ref_GoodLine_spec _ _ hs hn hx w ((Kn.old r0) w hS))))) ?_
        refine Plan_float 26 rfl rfl (by kernel_rfl) (OK_on (t := 52) rfl (lkE rfl c1) (EX_s (PS_neq_bool Try.underlying4 rfl rfl))) ?_
        refine Plan_float 27 rfl rfl (by kernel_rfl) (OK_s (EX_s (PS_pick_false (lkE rfl c1) rfl))) ?_
        refine Plan_end (by kernel_rfl) ?_
        refine GQ_sub (.cons (k := 2) rfl (.cons (k := 5) rfl (.cons (k := 6) rfl (.cons (k := 9) rfl (.cons (k := 59) rfl (.nil _)))))) ?_
        refine GQ_then ?_
        refine G_false rfl (by rw [Line.refGood_eq, Line.good_q l qs (by assumption) hl0]; simp) ?_
        refine G_skip ?_
        refine GQ_sub (.cons (k := 2) rfl (.cons (k := 5) rfl (.cons (k := 6) rfl (.cons (k := 9) rfl (.nil _))))) ?_
        refine GQ_then ?_
        refine G_seq ?_
        refine G_region ?_
        refine GL_step rfl (PS_loadA rfl tya25 (.tail _ (.tail _ (.tail _ (.head _)))) (Lens.id LineV.fl.len LineV.fl.one) rfl) ?_
        refine GL_callR rfl cf23 (.cons rfl .nil) .nil (line_Next_spec _ _ hb) (fun w hS => ⟨(Kn.own (.tail _ (.tail _ (.tail _ (.tail _ (.head _)))))) w hS, (KnC.own (.tail _ (.tail _ (.tail _ (.tail _ (.head _)))))) w hS⟩) (fun v21 B hv => ?_)
        rcases hv with ⟨y22, rfl, rfl⟩ | ⟨y23, y24, y25, y26, rfl, y27, rfl⟩
        · skip
          refine GL_step rfl (PS_move rfl) ?_
          refine GL_step rfl (PS_extract rfl rfl) ?_
          refine GL_step rfl (PS_extract rfl rfl) ?_
          refine GL_step rfl (PS_extract rfl rfl) ?_
          refine GL_unit (PU_store (Lens.id LineV.fl.len LineV.fl.one) rfl rfl rfl sz25 rfl (.tail (.tail .head))) ?_
          refine GL_step rfl (PS_assign rfl) ?_
          refine GL_step rfl (PS_assign rfl) ?_
          refine GL_nil ?_
          refine GQ_sub (.cons (k := 2) rfl (.cons (k := 5) rfl (.cons (k := 6) rfl (.cons (k := 9) rfl (.cons (k := 12) rfl (.cons (k := 13) rfl (.nil _))))))) ?_
          refine GQ_then ?_
          refine G_seq ?_
          refine G_region ?_
          refine GL_step rfl (PS_loadA rfl tya25 (.tail _ (.tail _ (.tail _ (.tail _ (.tail _ (.head _)))))) (Lens.id LineV.fl.len LineV.fl.one) rfl) ?_
          refine GL_callR rfl cf24 (.cons rfl .nil) .nil (ref_NextLine_spec _ _ hb) (fun w hS => ⟨(Kn.old r0) w hS, (KnC.of k0) w hS⟩) (fun v29 B hv => ?_)
          rcases hv with ⟨y30, rfl, rfl⟩ | ⟨y31, y32, y33, y34, rfl, y35, rfl⟩
          · skip
            refine GL_step rfl (PS_move rfl) ?_
            refine GL_step rfl (PS_extract rfl rfl) ?_
            refine GL_step rfl (PS_extract rfl rfl) ?_
            refine GL_step rfl (PS_extract rfl rfl) ?_
            refine GL_unit (PU_store (Lens.id LineV.fl.len LineV.fl.one) rfl rfl rfl sz25 rfl (.tail .head)) ?_
            refine GL_step rfl (PS_assign rfl) ?_
            refine GL_step rfl (PS_assign rfl) ?_
            refine GL_nil ?_
            refine GQ_sub (.cons (k := 2) rfl (.cons (k := 5) rfl (.cons (k := 6) rfl (.cons (k := 9) rfl (.cons (k := 12) rfl (.cons (k := 13) rfl (.cons (k := 14) rfl (.cons (k := 15) rfl (.nil _))))))))) ?_
            refine GQ_then ?_
            refine G_seq ?_
            refine G_region ?_
            refine GL_step rfl (PS_loadA rfl tya25 (.tail _ (.tail _ (.head _))) (Lens.id LineV.fl.len LineV.fl.one) rfl) ?_
            refine GL_step rfl (PS_loadA rfl tya25 (.tail _ (.head _)) (Lens.id LineV.fl.len LineV.fl.one) rfl) ?_
            refine GL_pure rfl cf21 (.cons rfl (.cons rfl .nil)) (fun w hS => ref_SameLine_spec _ _ _ _ (by first | exact Line.q_start hx | assumption | omega | exact Line.tail_le (by assumption) hx) w ((Kn.own (.tail _ (.tail _ (.tail _ (.tail _ (.head _)))))) w hS) ((Kn.old r0) w hS)) ?_
            refine GL_step rfl (PS_move rfl) ?_
            refine GL_gt (t := 75) rfl rfl rfl (fun q => PS_move rfl) ?_
            refine GL_gt (t := 75) rfl rfl rfl (fun q => PS_move rfl) ?_
            refine GL_gt (t := 75) rfl rfl rfl (fun q => PS_eql_str (cvE rfl q) (cvE rfl q)) ?_
            refine GL_step rfl (PS_and rfl rfl (fun h => h)) ?_
            refine GL_step rfl (PS_move rfl) ?_
            refine GL_gt (t := 80) rfl rfl rfl (fun q => PS_move rfl) ?_
            refine GL_gt (t := 80) rfl rfl rfl (fun q => PS_move rfl) ?_
            refine GL_gt (t := 80) rfl rfl rfl (fun q => PS_eql_bool Try.underlying4 (cvE rfl q) (cvE rfl q)) ?_
            refine GL_step rfl (PS_and rfl rfl (fun h => h)) ?_
            refine GL_step rfl (PS_move rfl) ?_
            refine GL_gt (t := 85) rfl rfl rfl (fun q => PS_loadA rfl tya25 (.tail _ (.tail _ (.tail _ (.head _)))) (Lens.id LineV.fl.len LineV.fl.one) rfl) ?_
            refine GL_gt (t := 85) rfl rfl rfl (fun q => PS_loadA rfl tya25 (.tail _ (.tail _ (.tail _ (.tail _ (.tail _ (.head _)))))) (Lens.id LineV.fl.len LineV.fl.one) rfl) ?_
            refine GL_pgt (t := 85) rfl rfl rfl (fun q => by have q1 := q; (try simp at q1); exact PC_of cf21 (.cons (cvE rfl q) (.cons (cvE rfl q) .nil)) (fun w hS => ref_SameLine_spec _ _ _ _ (by first | exact Line.q_start hx | assumption | omega | exact Line.tail_le (by assumption) hx) w ((Kn.own (.tail _ (.tail _ (.tail _ (.tail _ (.head _)))))) w hS) ((Kn.old r0) w hS))) ?_
            refine GL_step rfl (PS_and rfl rfl (fun h => h)) ?_
            refine GL_step rfl (PS_move rfl) ?_
            refine GL_pgt (t := 90) rfl rfl rfl (fun q => PC_of cf25 .nil (fun w hS => law_reads_spec w)) ?_
            refine GL_step rfl (PS_and rfl rfl (fun h => h)) ?_
            refine GL_step rfl (PS_assign rfl) ?_
            refine GL_nil ?_
            refine GQ_sub (.cons (k := 4) rfl (.nil _)) ?_
            refine GQ_then ?_
            refine G_ret ?_
            refine GQ_ret rfl (.tmp rfl .nil) ?_
            intro w1 hS; refine ⟨?_, hS.toKeep⟩; exact congrArg Value.bool (by simp)
          · exact absurd (y22.symm.trans y33) (by simp)
        · skip
          refine GL_step rfl (PS_move rfl) ?_
          refine GL_step rfl (PS_extract rfl rfl) ?_
          refine GL_step rfl (PS_extract rfl rfl) ?_
          refine GL_step rfl (PS_extract rfl rfl) ?_
          refine GL_unit (PU_store (Lens.id LineV.fl.len LineV.fl.one) rfl rfl rfl sz25 rfl (.tail (.tail (.tail .head)))) ?_
          refine GL_step rfl (PS_assign rfl) ?_
          refine GL_step rfl (PS_assign rfl) ?_
          refine GL_nil ?_
          refine GQ_sub (.cons (k := 2) rfl (.cons (k := 5) rfl (.cons (k := 6) rfl (.cons (k := 9) rfl (.cons (k := 12) rfl (.cons (k := 13) rfl (.nil _))))))) ?_
          refine GQ_then ?_
          refine G_seq ?_
          refine G_region ?_
          refine GL_step rfl (PS_loadA rfl tya25 (.tail _ (.tail _ (.tail _ (.tail _ (.tail _ (.tail _ (.head _))))))) (Lens.id LineV.fl.len LineV.fl.one) rfl) ?_
          refine GL_callR rfl cf24 (.cons rfl .nil) .nil (ref_NextLine_spec _ _ hb) (fun w hS => ⟨(Kn.old r0) w hS, (KnC.of k0) w hS⟩) (fun v37 B hv => ?_)
          rcases hv with ⟨y38, rfl, rfl⟩ | ⟨y39, y40, y41, y42, rfl, y43, rfl⟩
          · exact absurd (y25.symm.trans y38) (by simp)
          · skip
            refine GL_step rfl (PS_move rfl) ?_
            refine GL_step rfl (PS_extract rfl rfl) ?_
            refine GL_step rfl (PS_extract rfl rfl) ?_
            refine GL_step rfl (PS_extract rfl rfl) ?_
            refine GL_unit (PU_store (Lens.id LineV.fl.len LineV.fl.one) rfl rfl rfl sz25 rfl (.tail (.tail (.tail .head)))) ?_
            refine GL_step rfl (PS_assign rfl) ?_
            refine GL_step rfl (PS_assign rfl) ?_
            refine GL_nil ?_
            refine GQ_sub (.cons (k := 2) rfl (.cons (k := 5) rfl (.cons (k := 6) rfl (.cons (k := 9) rfl (.cons (k := 12) rfl (.cons (k := 13) rfl (.cons (k := 14) rfl (.cons (k := 15) rfl (.nil _))))))))) ?_
            refine GQ_then ?_
            refine G_seq ?_
            refine G_region ?_
            refine GL_step rfl (PS_loadA rfl tya25 (.tail _ (.tail _ (.tail _ (.tail _ (.head _))))) (Lens.id LineV.fl.len LineV.fl.one) rfl) ?_
            refine GL_step rfl (PS_loadA rfl tya25 (.tail _ (.tail _ (.tail _ (.head _)))) (Lens.id LineV.fl.len LineV.fl.one) rfl) ?_
            refine GL_pure rfl cf21 (.cons rfl (.cons rfl .nil)) (fun w hS => ref_SameLine_spec _ _ _ _ (by first | exact Line.q_start hx | assumption | omega | exact Line.tail_le (by assumption) hx) w ((Kn.own (.tail _ (.head _))) w hS) ((Kn.own (.head _)) w hS)) ?_
            refine GL_step rfl (PS_move rfl) ?_
            refine GL_gt (t := 75) rfl rfl rfl (fun q => PS_move rfl) ?_
            refine GL_gt (t := 75) rfl rfl rfl (fun q => PS_move rfl) ?_
            refine GL_gt (t := 75) rfl rfl rfl (fun q => PS_eql_str (cvE rfl q) (cvE rfl q)) ?_
            refine GL_step rfl (PS_and rfl rfl (fun h => h)) ?_
            refine GL_step rfl (PS_move rfl) ?_
            refine GL_gt (t := 80) rfl rfl rfl (fun q => PS_move rfl) ?_
            refine GL_gt (t := 80) rfl rfl rfl (fun q => PS_move rfl) ?_
            refine GL_gt (t := 80) rfl rfl rfl (fun q => PS_eql_bool Try.underlying4 (cvE rfl q) (cvE rfl q)) ?_
            refine GL_step rfl (PS_and rfl rfl (fun h => h)) ?_
            refine GL_step rfl (PS_move rfl) ?_
            refine GL_gt (t := 85) rfl rfl rfl (fun q => PS_loadA rfl tya25 (.tail _ (.tail _ (.tail _ (.tail _ (.tail _ (.head _)))))) (Lens.id LineV.fl.len LineV.fl.one) rfl) ?_
            refine GL_gt (t := 85) rfl rfl rfl (fun q => PS_loadA rfl tya25 (.tail _ (.tail _ (.tail _ (.tail _ (.tail _ (.tail _ (.tail _ (.head _)))))))) (Lens.id LineV.fl.len LineV.fl.one) rfl) ?_
            refine GL_pgt (t := 85) rfl rfl rfl (fun q => by have q1 := q; (try simp at q1); exact PC_of cf21 (.cons (cvE rfl q) (.cons (cvE rfl q) .nil)) (fun w hS => ref_SameLine_spec _ _ _ _ (by first | exact Line.q_start hx | assumption | omega | exact Line.tail_le (by assumption) hx) w ((Kn.own (.tail _ (.tail _ (.tail _ (.tail _ (.tail _ (.tail _ (.head _)))))))) w hS) ((Kn.old r0) w hS))) ?_
            refine GL_step rfl (PS_and rfl rfl (fun h => h)) ?_
            refine GL_step rfl (PS_move rfl) ?_
            refine GL_pgt (t := 90) rfl rfl rfl (fun q => PC_of cf25 .nil (fun w hS => law_reads_spec w)) ?_
            refine GL_step rfl (PS_and rfl rfl (fun h => h)) ?_
            refine GL_step rfl (PS_assign rfl) ?_
            refine GL_nil ?_
            refine GQ_sub (.cons (k := 4) rfl (.nil _)) ?_
            refine GQ_then ?_
            refine G_ret ?_
            refine GQ_ret rfl (.tmp rfl .nil) ?_
            intro w1 hS; refine ⟨?_, hS.toKeep⟩; have e := y25.symm.trans y41
            injection e with e1 e2
            subst e1
            subst e2
            exact congrArg Value.bool (by simp)
    · exact absurd (((Line.good_q l qs y3 hl0).symm.trans y6).symm.trans y13) (by decide)
  · skip
    refine GL_step rfl (PS_move rfl) ?_
    refine GL_step rfl (PS_extract rfl rfl) ?_
    refine GL_step rfl (PS_extract rfl rfl) ?_
    refine GL_step rfl (PS_extract rfl rfl) ?_
    refine GL_alloc rfl zv25 rfl (fun b5 => ?_)
    refine GL_unit (PU_store (Lens.id LineV.fl.len LineV.fl.one) rfl rfl rfl sz25 rfl .head) ?_
    refine GL_step rfl (PS_assign rfl) ?_
    refine GL_step rfl (PS_assign rfl) ?_
    refine GL_nil ?_
    refine GQ_sub (.cons (k := 1) rfl (.cons (k := 2) rfl (.cons (k := 5) rfl (.cons (k := 6) rfl (.cons (k := 7) rfl (.cons (k := 8) rfl (.nil _))))))) ?_
    refine GQ_then ?_
    refine G_seq ?_
    refine G_region ?_
    refine GL_step rfl (PS_loadA rfl tya25 (.tail _ (.tail _ (.tail _ (.tail _ (.head _))))) (Lens.id LineV.fl.len LineV.fl.one) rfl) ?_
    refine GL_step rfl (PS_move rfl) ?_
    refine GL_callR rfl cf20 (.cons rfl (.cons rfl .nil)) .nil (ref_FeedText_spec _ _ _ hu hs hn hx) (fun w hS => (Kn.old r0) w hS) (fun v45 B hv => ?_)
    rcases hv with ⟨y46, rfl, rfl⟩ | ⟨y47, y48, rfl, y49, rfl⟩
    · exact absurd (((Line.good_q l qs y3 hl0).symm.trans y7).symm.trans y46) (by decide)
    · skip
      refine GL_step rfl (PS_move rfl) ?_
      refine GL_step rfl (PS_extract rfl rfl) ?_
      refine GL_step rfl (PS_extract rfl rfl) ?_
      refine GL_step rfl (PS_extract rfl rfl) ?_
      refine GL_alloc rfl zv25 rfl (fun b6 => ?_)
      refine GL_unit (PU_store (Lens.id LineV.fl.len LineV.fl.one) rfl rfl rfl sz25 rfl .head) ?_
      refine GL_step rfl (PS_assign rfl) ?_
      refine GL_step rfl (PS_assign rfl) ?_
      refine GL_nil ?_
      refine GQ_sub (.cons (k := 2) rfl (.cons (k := 5) rfl (.cons (k := 6) rfl (.cons (k := 7) rfl (.cons (k := 8) rfl (.cons (k := 9) rfl (.cons (k := 10) rfl (.cons (k := 11) rfl (.nil _))))))))) ?_
      refine GQ_then ?_
      refine G_seq ?_
      refine G_seq ?_
      refine G_planN (N := 28) [0, 0, 3, 7, 15, 31, 31, 127, 255, 511, 1023, 1023, 4095, 8191, 16383, 32767, 32767, 131071, 262143, 524287, 1048575, 2097151, 4194303, 8388607, 2097151, 33554431, 67108863, 134217727] mix (by kernel_rfl) rfl ?_
      refine Plan_float 0 rfl rfl (by kernel_rfl) (OK_s (EX_s (PS_loadA rfl tya25 (.tail _ (.tail _ (.head _))) (Lens.id LineV.fl.len LineV.fl.one) rfl))) ?_
      refine Plan_float 1 rfl rfl (by kernel_rfl) (OK_s (EX_s (PS_loadA rfl tya25 (.head _) (Lens.id LineV.fl.len LineV.fl.one) rfl))) ?_
      refine Plan_float 2 rfl rfl (by kernel_rfl) (OK_s (EX_c (PC_of cf21 (.cons rfl (.cons rfl .nil)) (fun w hS => ref_SameLine_spec _ _ _ _ (by first | exact Line.q_start hx | assumption | omega | exact Line.tail_le (by assumption) hx) w ((Kn.own (.tail _ (.tail _ (.tail _ (.head _))))) w hS) ((Kn.own (.tail _ (.head _))) w hS))))) ?_
      refine Plan_float 3 rfl rfl (by kernel_rfl) (OK_s (EX_s (PS_not rfl))) ?_
      refine Plan_float 4 rfl rfl (by kernel_rfl) (OK_s (EX_s (PS_move rfl))) ?_
      refine Plan_float 5 rfl rfl (by kernel_rfl) (OK_gf (t := 36) rfl rfl (fun q => EX_s (PS_move rfl))) ?_
      refine Plan_float 6 rfl rfl (by kernel_rfl) (OK_gf (t := 36) rfl rfl (fun q => EX_s (PS_move rfl))) ?_
      refine Plan_float 7 rfl rfl (by kernel_rfl) (OK_gf (t := 36) rfl rfl (fun q => EX_s (PS_neq (cvE rfl (by rw [q]; rfl)) (cvE rfl (by rw [q]; rfl))))) ?_
      refine Plan_float 8 rfl rfl (by kernel_rfl) (OK_s (EX_s (PS_or rfl rfl (fun h => by rw [h]; rfl)))) ?_
      refine Plan_float 9 rfl rfl (by kernel_rfl) (OK_s (EX_s (PS_move rfl))) ?_
      refine Plan_float 10 rfl rfl (by kernel_rfl) (OK_gf (t := 41) rfl rfl (fun q => EX_s (PS_move rfl))) ?_
      refine Plan_float 11 rfl rfl (by kernel_rfl) (OK_gf (t := 41) rfl rfl (fun q => EX_s (PS_move rfl))) ?_
      refine Plan_float 12 rfl rfl (by kernel_rfl) (OK_gf (t := 41) rfl rfl (fun q => EX_s (PS_neq (cvE rfl (by rw [q]; rfl)) (cvE rfl (by rw [q]; rfl))))) ?_
      refine Plan_float 13 rfl rfl (by kernel_rfl) (OK_s (EX_s (PS_or rfl rfl (fun h => by rw [h]; rfl)))) ?_
      refine Plan_float 14 rfl rfl (by kernel_rfl) (OK_s (EX_s (PS_move rfl))) ?_
      refine Plan_float 15 rfl rfl (by kernel_rfl) (OK_gf (t := 46) rfl rfl (fun q => EX_s (PS_loadA rfl tya25 (.tail _ (.tail _ (.tail _ (.tail _ (.head _))))) (Lens.id LineV.fl.len LineV.fl.one) rfl))) ?_
      refine Plan_float 16 rfl rfl (by kernel_rfl) (OK_gf (t := 46) rfl rfl (fun q => EX_s (PS_loadA rfl tya25 (.tail _ (.tail _ (.tail _ (.tail _ (.tail _ (.tail _ (.head _))))))) (Lens.id LineV.fl.len LineV.fl.one) rfl))) ?_
      refine Plan_float 17 rfl rfl (by kernel_rfl) (OK_gf (t := 46) rfl rfl (fun q => by have q1 := q; (try simp at q1); exact EX_c (PC_of cf21 (.cons (cvE rfl (by rw [q]; rfl)) (.cons (cvE rfl (by rw [q]; rfl)) .nil)) (fun w hS => ref_SameLine_spec _ _ _ _ (by first | exact Line.q_start hx | assumption | omega | exact Line.tail_le (by assumption) hx) w ((Kn.own (.tail _ (.tail _ (.tail _ (.tail _ (.tail _ (.head _))))))) w hS) ((Kn.old r0) w hS))))) ?_
      refine Plan_float 18 rfl rfl (by kernel_rfl) (OK_gf (t := 46) rfl rfl (fun q => EX_s (PS_not (cvE rfl (by rw [q]; rfl))))) ?_
      refine Plan_float 19 rfl rfl (by kernel_rfl) (OK_s (EX_s (PS_or rfl rfl (fun h => by rw [h]; rfl)))) ?_
      refine Plan_float 20 rfl rfl (by kernel_rfl) (OK_s (EX_s (PS_move rfl))) ?_
      refine Plan_float 21 rfl rfl (by kernel_rfl) (OK_gf (t := 52) rfl rfl (fun q => EX_s (PS_loadA rfl tya25 (.tail _ (.tail _ (.tail _ (.tail _ (.tail _ (.tail _ (.head _))))))) (Lens.id LineV.fl.len LineV.fl.one) rfl))) ?_
      refine Plan_float 24 rfl rfl (by kernel_rfl) (OK_gf (t := 52) rfl rfl (fun q => EX_s (PS_loadA rfl tya25 (.tail _ (.tail _ (.tail _ (.tail _ (.tail _ (.tail _ (.head _))))))) (Lens.id LineV.fl.len LineV.fl.one) rfl))) ?_
      refine Plan_chain 22 rfl (by kernel_rfl) ?_
      refine GL_fork 52 rfl (fun c2 => ?_) (fun c2 => ?_)
      · exact absurd c2 (by simp [Line.start])
      · skip
        have c2p := c2
        try simp only [decide_eq_true_eq, decide_eq_false_iff_not, Bool.not_eq_true', Bool.not_eq_false', Bool.or_eq_true, Bool.and_eq_true, Bool.or_eq_false_iff, Bool.and_eq_false_iff, Int.not_lt, Int.not_le] at c2p
        refine GL_callR_g (t := 52) rfl rfl rfl cf19 (.cons (cvE rfl (by rw [c2]; rfl)) .nil) .nil (ref_CopyLine_spec _ _ hb) (fun w hS => (Kn.old r0) w hS) (fun v51 B hv => ?_)
        obtain ⟨y52, rfl, y53, rfl⟩ := hv
        refine GL_hand rfl ⟨?_, ?_⟩
        · exact (Pend_okv rfl (OK_gf (t := 52) rfl rfl (fun q => EX_s (PS_loadA rfl tya25 (.tail _ (.tail _ (.tail _ (.tail _ (.tail _ (.tail _ (.tail _ (.head _)))))))) (Lens.id LineV.fl.len LineV.fl.one) rfl))) rfl rfl (Pend_skip (by kernel_rfl) (Pend_skip (by kernel_rfl) (Pend_skip (by kernel_rfl) (Pend_skip (by kernel_rfl) (Pend_skip (by kernel_rfl) (Pend_skip (by kernel_rfl) (Pend_skip (by kernel_rfl) (Pend_skip (by kernel_rfl) (Pend_skip (by kernel_rfl) (Pend_skip (by kernel_rfl) (Pend_skip (by kernel_rfl) (Pend_skip (by kernel_rfl) (Pend_skip (by kernel_rfl) (Pend_skip (by kernel_rfl) (Pend_skip (by kernel_rfl) (Pend_skip (by kernel_rfl) (Pend_skip (by kernel_rfl) (Pend_skip (by kernel_rfl) (Pend_skip (by kernel_rfl) (Pend_skip (by kernel_rfl) (Pend_skip (by kernel_rfl) (Pend_skip (by kernel_rfl) Pend_nil)))))))))))))))))))))))
        refine Plan_float 23 rfl rfl (by kernel_rfl) (OK_on (t := 52) rfl (lkE rfl c2) (EX_c (PC_of cf16 (.cons rfl .nil) (fun w hS => line_Good_spec _ _ w ((Kn.own (.head _)) w hS))))) ?_
        refine Plan_float 25 rfl rfl (by kernel_rfl) (OK_on (t := 52) rfl (lkE rfl c2) (EX_c (PC_of cf22 (.cons (cvE rfl (by rw [c2]; rfl)) .nil) (fun w hS => ref_GoodLine_spec _ _ hs hn hx w ((Kn.old r0) w hS))))) ?_
        refine Plan_float 26 rfl rfl (by kernel_rfl) (OK_on (t := 52) rfl (lkE rfl c2) (EX_s (PS_neq_bool Try.underlying4 rfl rfl))) ?_
        refine Plan_float 27 rfl rfl (by kernel_rfl) (OK_s (EX_s (PS_pick_false (lkE rfl c2) rfl))) ?_
        refine Plan_end (by kernel_rfl) ?_
        refine GQ_sub (.cons (k := 2) rfl (.cons (k := 5) rfl (.cons (k := 6) rfl (.cons (k := 9) rfl (.cons (k := 59) rfl (.nil _)))))) ?_
        refine GQ_then ?_
        refine G_false rfl (by rw [Line.refGood_eq, Line.good_q l qs (by assumption) hl0]; simp) ?_
        refine G_skip ?_
        refine GQ_sub (.cons (k := 2) rfl (.cons (k := 5) rfl (.cons (k := 6) rfl (.cons (k := 9) rfl (.nil _))))) ?_
        refine GQ_then ?_
        refine G_seq ?_
        refine G_region ?_
        refine GL_step rfl (PS_loadA rfl tya25 (.tail _ (.tail _ (.tail _ (.tail _ (.tail _ (.head _)))))) (Lens.id LineV.fl.len LineV.fl.one) rfl) ?_
        refine GL_callR rfl cf23 (.cons rfl .nil) .nil (line_Next_spec _ _ hb) (fun w hS => ⟨(Kn.own (.tail _ (.tail _ (.tail _ (.tail _ (.tail _ (.tail _ (.head _)))))))) w hS, (KnC.own (.tail _ (.tail _ (.tail _ (.tail _ (.tail _ (.tail _ (.head _)))))))) w hS⟩) (fun v55 B hv => ?_)
        rcases hv with ⟨y56, rfl, rfl⟩ | ⟨y57, y58, y59, y60, rfl, y61, rfl⟩
        · skip
          refine GL_step rfl (PS_move rfl) ?_
          refine GL_step rfl (PS_extract rfl rfl) ?_
          refine GL_step rfl (PS_extract rfl rfl) ?_
          refine GL_step rfl (PS_extract rfl rfl) ?_
          refine GL_unit (PU_store (Lens.id LineV.fl.len LineV.fl.one) rfl rfl rfl sz25 rfl (.tail (.tail (.tail .head)))) ?_
          refine GL_step rfl (PS_assign rfl) ?_
          refine GL_step rfl (PS_assign rfl) ?_
          refine GL_nil ?_
          refine GQ_sub (.cons (k := 2) rfl (.cons (k := 5) rfl (.cons (k := 6) rfl (.cons (k := 9) rfl (.cons (k := 12) rfl (.cons (k := 13) rfl (.nil _))))))) ?_
          refine GQ_then ?_
          refine G_seq ?_
          refine G_region ?_
          refine GL_step rfl (PS_loadA rfl tya25 (.tail _ (.tail _ (.tail _ (.tail _ (.tail _ (.tail _ (.tail _ (.head _)))))))) (Lens.id LineV.fl.len LineV.fl.one) rfl) ?_
          refine GL_callR rfl cf24 (.cons rfl .nil) .nil (ref_NextLine_spec _ _ hb) (fun w hS => ⟨(Kn.old r0) w hS, (KnC.of k0) w hS⟩) (fun v63 B hv => ?_)
          rcases hv with ⟨y64, rfl, rfl⟩ | ⟨y65, y66, y67, y68, rfl, y69, rfl⟩
          · skip
            refine GL_step rfl (PS_move rfl) ?_
            refine GL_step rfl (PS_extract rfl rfl) ?_
            refine GL_step rfl (PS_extract rfl rfl) ?_
            refine GL_step rfl (PS_extract rfl rfl) ?_
            refine GL_unit (PU_store (Lens.id LineV.fl.len LineV.fl.one) rfl rfl rfl sz25 rfl (.tail .head)) ?_
            refine GL_step rfl (PS_assign rfl) ?_
            refine GL_step rfl (PS_assign rfl) ?_
            refine GL_nil ?_
            refine GQ_sub (.cons (k := 2) rfl (.cons (k := 5) rfl (.cons (k := 6) rfl (.cons (k := 9) rfl (.cons (k := 12) rfl (.cons (k := 13) rfl (.cons (k := 14) rfl (.cons (k := 15) rfl (.nil _))))))))) ?_
            refine GQ_then ?_
            refine G_seq ?_
            refine G_region ?_
            refine GL_step rfl (PS_loadA rfl tya25 (.tail _ (.tail _ (.tail _ (.head _)))) (Lens.id LineV.fl.len LineV.fl.one) rfl) ?_
            refine GL_step rfl (PS_loadA rfl tya25 (.tail _ (.head _)) (Lens.id LineV.fl.len LineV.fl.one) rfl) ?_
            refine GL_pure rfl cf21 (.cons rfl (.cons rfl .nil)) (fun w hS => ref_SameLine_spec _ _ _ _ (by first | exact Line.q_start hx | assumption | omega | exact Line.tail_le (by assumption) hx) w ((Kn.own (.tail _ (.tail _ (.tail _ (.tail _ (.tail _ (.tail _ (.head _)))))))) w hS) ((Kn.old r0) w hS)) ?_
            refine GL_step rfl (PS_move rfl) ?_
            refine GL_gt (t := 75) rfl rfl rfl (fun q => PS_move rfl) ?_
            refine GL_gt (t := 75) rfl rfl rfl (fun q => PS_move rfl) ?_
            refine GL_gt (t := 75) rfl rfl rfl (fun q => PS_eql_str (cvE rfl q) (cvE rfl q)) ?_
            refine GL_step rfl (PS_and rfl rfl (fun h => h)) ?_
            refine GL_step rfl (PS_move rfl) ?_
            refine GL_gt (t := 80) rfl rfl rfl (fun q => PS_move rfl) ?_
            refine GL_gt (t := 80) rfl rfl rfl (fun q => PS_move rfl) ?_
            refine GL_gt (t := 80) rfl rfl rfl (fun q => PS_eql_bool Try.underlying4 (cvE rfl q) (cvE rfl q)) ?_
            refine GL_step rfl (PS_and rfl rfl (fun h => h)) ?_
            refine GL_step rfl (PS_move rfl) ?_
            refine GL_gt (t := 85) rfl rfl rfl (fun q => PS_loadA rfl tya25 (.tail _ (.tail _ (.tail _ (.tail _ (.tail _ (.head _)))))) (Lens.id LineV.fl.len LineV.fl.one) rfl) ?_
            refine GL_gt (t := 85) rfl rfl rfl (fun q => PS_loadA rfl tya25 (.tail _ (.tail _ (.tail _ (.tail _ (.tail _ (.tail _ (.tail _ (.head _)))))))) (Lens.id LineV.fl.len LineV.fl.one) rfl) ?_
            refine GL_pgt (t := 85) rfl rfl rfl (fun q => by have q1 := q; (try simp at q1); exact PC_of cf21 (.cons (cvE rfl q) (.cons (cvE rfl q) .nil)) (fun w hS => ref_SameLine_spec _ _ _ _ (by first | exact Line.q_start hx | assumption | omega | exact Line.tail_le (by assumption) hx) w ((Kn.own (.tail _ (.tail _ (.tail _ (.tail _ (.tail _ (.tail _ (.head _)))))))) w hS) ((Kn.old r0) w hS))) ?_
            refine GL_step rfl (PS_and rfl rfl (fun h => h)) ?_
            refine GL_step rfl (PS_move rfl) ?_
            refine GL_pgt (t := 90) rfl rfl rfl (fun q => PC_of cf25 .nil (fun w hS => law_reads_spec w)) ?_
            refine GL_step rfl (PS_and rfl rfl (fun h => h)) ?_
            refine GL_step rfl (PS_assign rfl) ?_
            refine GL_nil ?_
            refine GQ_sub (.cons (k := 4) rfl (.nil _)) ?_
            refine GQ_then ?_
            refine G_ret ?_
            refine GQ_ret rfl (.tmp rfl .nil) ?_
            intro w1 hS; refine ⟨?_, hS.toKeep⟩; exact congrArg Value.bool (by simp)
          · exact absurd (y56.symm.trans y67) (by simp)
        · skip
          refine GL_step rfl (PS_move rfl) ?_
          refine GL_step rfl (PS_extract rfl rfl) ?_
          refine GL_step rfl (PS_extract rfl rfl) ?_
          refine GL_step rfl (PS_extract rfl rfl) ?_
          refine GL_unit (PU_store (Lens.id LineV.fl.len LineV.fl.one) rfl rfl rfl sz25 rfl (.tail (.tail (.tail (.tail .head))))) ?_
          refine GL_step rfl (PS_assign rfl) ?_
          refine GL_step rfl (PS_assign rfl) ?_
          refine GL_nil ?_
          refine GQ_sub (.cons (k := 2) rfl (.cons (k := 5) rfl (.cons (k := 6) rfl (.cons (k := 9) rfl (.cons (k := 12) rfl (.cons (k := 13) rfl (.nil _))))))) ?_
          refine GQ_then ?_
          refine G_seq ?_
          refine G_region ?_
          refine GL_step rfl (PS_loadA rfl tya25 (.tail _ (.tail _ (.tail _ (.tail _ (.tail _ (.tail _ (.tail _ (.tail _ (.head _))))))))) (Lens.id LineV.fl.len LineV.fl.one) rfl) ?_
          refine GL_callR rfl cf24 (.cons rfl .nil) .nil (ref_NextLine_spec _ _ hb) (fun w hS => ⟨(Kn.old r0) w hS, (KnC.of k0) w hS⟩) (fun v71 B hv => ?_)
          rcases hv with ⟨y72, rfl, rfl⟩ | ⟨y73, y74, y75, y76, rfl, y77, rfl⟩
          · exact absurd (y59.symm.trans y72) (by simp)
          · skip
            refine GL_step rfl (PS_move rfl) ?_
            refine GL_step rfl (PS_extract rfl rfl) ?_
            refine GL_step rfl (PS_extract rfl rfl) ?_
            refine GL_step rfl (PS_extract rfl rfl) ?_
            refine GL_unit (PU_store (Lens.id LineV.fl.len LineV.fl.one) rfl rfl rfl sz25 rfl (.tail (.tail (.tail .head)))) ?_
            refine GL_step rfl (PS_assign rfl) ?_
            refine GL_step rfl (PS_assign rfl) ?_
            refine GL_nil ?_
            refine GQ_sub (.cons (k := 2) rfl (.cons (k := 5) rfl (.cons (k := 6) rfl (.cons (k := 9) rfl (.cons (k := 12) rfl (.cons (k := 13) rfl (.cons (k := 14) rfl (.cons (k := 15) rfl (.nil _))))))))) ?_
            refine GQ_then ?_
            refine G_seq ?_
            refine G_region ?_
            refine GL_step rfl (PS_loadA rfl tya25 (.tail _ (.tail _ (.tail _ (.tail _ (.tail _ (.head _)))))) (Lens.id LineV.fl.len LineV.fl.one) rfl) ?_
            refine GL_step rfl (PS_loadA rfl tya25 (.tail _ (.tail _ (.tail _ (.head _)))) (Lens.id LineV.fl.len LineV.fl.one) rfl) ?_
            refine GL_pure rfl cf21 (.cons rfl (.cons rfl .nil)) (fun w hS => ref_SameLine_spec _ _ _ _ (by first | exact Line.q_start hx | assumption | omega | exact Line.tail_le (by assumption) hx) w ((Kn.own (.tail _ (.head _))) w hS) ((Kn.own (.head _)) w hS)) ?_
            refine GL_step rfl (PS_move rfl) ?_
            refine GL_gt (t := 75) rfl rfl rfl (fun q => PS_move rfl) ?_
            refine GL_gt (t := 75) rfl rfl rfl (fun q => PS_move rfl) ?_
            refine GL_gt (t := 75) rfl rfl rfl (fun q => PS_eql_str (cvE rfl q) (cvE rfl q)) ?_
            refine GL_step rfl (PS_and rfl rfl (fun h => h)) ?_
            refine GL_step rfl (PS_move rfl) ?_
            refine GL_gt (t := 80) rfl rfl rfl (fun q => PS_move rfl) ?_
            refine GL_gt (t := 80) rfl rfl rfl (fun q => PS_move rfl) ?_
            refine GL_gt (t := 80) rfl rfl rfl (fun q => PS_eql_bool Try.underlying4 (cvE rfl q) (cvE rfl q)) ?_
            refine GL_step rfl (PS_and rfl rfl (fun h => h)) ?_
            refine GL_step rfl (PS_move rfl) ?_
            refine GL_gt (t := 85) rfl rfl rfl (fun q => PS_loadA rfl tya25 (.tail _ (.tail _ (.tail _ (.tail _ (.tail _ (.tail _ (.tail _ (.head _)))))))) (Lens.id LineV.fl.len LineV.fl.one) rfl) ?_
            refine GL_gt (t := 85) rfl rfl rfl (fun q => PS_loadA rfl tya25 (.tail _ (.tail _ (.tail _ (.tail _ (.tail _ (.tail _ (.tail _ (.tail _ (.tail _ (.head _)))))))))) (Lens.id LineV.fl.len LineV.fl.one) rfl) ?_
            refine GL_pgt (t := 85) rfl rfl rfl (fun q => by have q1 := q; (try simp at q1); exact PC_of cf21 (.cons (cvE rfl q) (.cons (cvE rfl q) .nil)) (fun w hS => ref_SameLine_spec _ _ _ _ (by first | exact Line.q_start hx | assumption | omega | exact Line.tail_le (by assumption) hx) w ((Kn.own (.tail _ (.tail _ (.tail _ (.tail _ (.tail _ (.tail _ (.tail _ (.tail _ (.head _)))))))))) w hS) ((Kn.old r0) w hS))) ?_
            refine GL_step rfl (PS_and rfl rfl (fun h => h)) ?_
            refine GL_step rfl (PS_move rfl) ?_
            refine GL_pgt (t := 90) rfl rfl rfl (fun q => PC_of cf25 .nil (fun w hS => law_reads_spec w)) ?_
            refine GL_step rfl (PS_and rfl rfl (fun h => h)) ?_
            refine GL_step rfl (PS_assign rfl) ?_
            refine GL_nil ?_
            refine GQ_sub (.cons (k := 4) rfl (.nil _)) ?_
            refine GQ_then ?_
            refine G_ret ?_
            refine GQ_ret rfl (.tmp rfl .nil) ?_
            intro w1 hS; refine ⟨?_, hS.toKeep⟩; have e := y59.symm.trans y75
            injection e with e1 e2
            subst e1
            subst e2
            exact congrArg Value.bool (by simp)
set_option maxRecDepth 100000 in
theorem lineFeeds_lifted (os : Os) (started : os.Started) (H : Type) (enc : TypeId × Value → H) :
    ReturnsInHanded {} Try.checked os 6 .any (Rows.lineFeedsSpec.pre6 enc Try.prog Try.f6 Rows.lineFeedsRow.domain false) (Rows.lineFeedsSpec.post enc Try.prog Try.f6 false true false false) := by
  refine returnsInHanded_of_change_sized (C := Try.checked) own started (by kernel_rfl) Try.func6
    (ChangeSpec.witness6 (enc := enc) (C := Try.checked) false ⟨#[], #[.agg (LineV.enc ⟨[], false, false, ⟨none, 0, 0⟩⟩).toArray, vstr []], []⟩ 8 (by kernel_rfl) (by kernel_rfl) (by kernel_rfl) (by kernel_rfl)) ?_
  intro W base args ds gs before hval hW _ hsz _
  refine law_post (B := 4) laidOut (by kernel_rfl) Try.underlying4 (by kernel_rfl) rfl (fun ds h => by rw [Try.params6] at h; match ds, h with | [d1, d2], _ => rfl) hW ?_
  obtain ⟨p, q, hA, hV, _, _, _⟩ := hW
  rw [Try.params6] at hA
  obtain ⟨v0, vs0, d0, ds0, p0, q0, hv0, rfl, rfl, hd0, hA⟩ := trodAll_cons hA
  obtain ⟨v1, vs1, d1, ds1, p1, q1, hv1, rfl, rfl, hd1, hA⟩ := trodAll_cons hA
  obtain ⟨hvn, rfl, rfl⟩ := trodAll_nil hA
  obtain rfl : args = #[v0, v1] := by cases args; simp_all
  obtain ⟨l, rfl, w0⟩ := open_ag (P := Try.prog) (t := 25) (by rw [Try.underlying25]) (hval 0 _ _ rfl rfl) dc25 hd0
  obtain ⟨u, rfl, rfl, rfl, w1⟩ := open_str Try.underlying9 (hval 1 _ _ rfl rfl) hd1
  obtain ⟨_, qs, r0, hl0, k0, hm0, hw0⟩ := w0.2.2.2
  have z1 : u.length ≤ 140737488351232 := sized_string hsz (j := 1) rfl rfl
  exact law_LineFeeds_spec _ _ _ (by omega) (by have hc := reach_field (i := 3) (o := 3) Try.underlying25 rfl Try.underlying23 (by kernel_rfl) hd0 rfl (sized_arg hsz (j := 0) rfl rfl); rw [show Try.prog.bytesOf 9 = 16 from by kernel_rfl] at hc; have hrb : reachBytes = 140737488351232 := rfl; omega) (by exact hw0) (by exact w0.1) W r0 k0
theorem lineFeeds_holds : Rows.LineFeedsSaid :=
  OpenClaim.holds_of_wide 6 Try.f6 rfl rfl rfl rfl rfl rfl rfl ⟨rfl, rfl, rfl, rfl, rfl⟩ rfl rfl rfl rfl rfl (by kernel_rfl) Try.func6 (by kernel_rfl)
    (of_decide_eq_true (by kernel_rfl)) (by unfold Func.isWrapper; first | (rw [if_pos (by decide +kernel)]; kernel_rfl) | (rw [if_neg (by decide +kernel)]; exact ⟨rfl, rfl⟩))
    (fun os started H enc _ => lineFeeds_lifted os started H enc)
end Go.Proofs.Ytnpbkbianmogoaa
