/- For every input the law PagerShows returns true. No condition. -/
import Derived.Test.YtiimccommiokjaaDoorCards
import Derived.Test.YtiimccommiokjaaDoorTie
import Derived.Deep.DeepHandedRow
import Derived.Test.YtiimccommiokjaaDoorRows
import Derived.Test.YtiimccommiokjaaDoorEc2
import Derived.Test.YtiimccommiokjaaDoorPagerShowsPlain
set_option linter.unusedSimpArgs false
set_option linter.unusedVariables false
set_option maxRecDepth 100000
namespace Go.Proofs.YtiimccommiokjaaDoor
open Go Go.Ing Go.RowKit Go.ChangeShapes Go.WideShapes Go.ChangeAt
theorem own : ownKnob Tryd.prog.godebug = none := by kernel_rfl
theorem laidOut : laidOutB Tryd.prog = true := by kernel_rfl
theorem sz22 : Sz Tryd.prog 22 1 := Sz_of (by kernel_rfl)
theorem fa24_0 : FA Tryd.prog 24 0 0 := FA_of Tryd.underlying24 rfl sz22
theorem tys22 : TyS Tryd.prog 22 := TyS_of Tryd.underlying22 rfl
theorem sz9 : Sz Tryd.prog 9 1 := Sz_of (by kernel_rfl)
theorem fa24_3 : FA Tryd.prog 24 3 3 := FA_of Tryd.underlying24 rfl sz9
theorem tys9 : TyS Tryd.prog 9 := TyS_of Tryd.underlying9 rfl
theorem sz3 : Sz Tryd.prog 3 1 := Sz_of (by kernel_rfl)
theorem fa24_1 : FA Tryd.prog 24 1 1 := FA_of Tryd.underlying24 rfl sz3
theorem tys3 : TyS Tryd.prog 3 := TyS_of Tryd.underlying3 rfl
theorem zv9 : ZV Tryd.prog 9 (vstr []) := ZV_of (by kernel_rfl)
theorem by9 : BY Tryd.prog 9 16 := BY_of (by kernel_rfl)
theorem zv24 : ZV Tryd.prog 24 (.agg (PageV.enc ⟨⟨none, 0, 0⟩, 0, false, [], false⟩).toArray) := ZV_of (by kernel_rfl)
theorem sz24 : Sz Tryd.prog 24 5 := Sz_of (by kernel_rfl)
theorem tya24 : TyA Tryd.prog 24 5 := TyA_of Tryd.underlying24 rfl sz24
theorem cf11 : CF Tryd.prog 11 := Tryd.call11
theorem sz4 : Sz Tryd.prog 4 1 := Sz_of (by kernel_rfl)
theorem fa24_4 : FA Tryd.prog 24 4 4 := FA_of Tryd.underlying24 rfl sz4
theorem tys4 : TyS Tryd.prog 4 := TyS_of Tryd.underlying4 rfl
theorem cf30 : CF Tryd.prog 30 := Tryd.call30
theorem cf58 : CF Tryd.prog 58 := Tryd.call58
theorem cf55 : CF Tryd.prog 55 := Tryd.call55
theorem sz49 : Sz Tryd.prog 49 1 := Sz_of (by kernel_rfl)
theorem fa52_0 : FA Tryd.prog 52 0 0 := FA_of Tryd.underlying52 rfl sz49
theorem tys49 : TyS Tryd.prog 49 := TyS_of Tryd.underlying49 rfl
theorem inf52 : ∃ i, Tryd.prog.info? 52 = some i ∧ i.size ≠ 0 := by
  have h : (Tryd.prog.info? 52).map (·.size) = some 2 := by kernel_rfl
  obtain ⟨i, h1, h2⟩ := Option.map_eq_some_iff.1 h
  exact ⟨i, h1, by omega⟩
theorem mix : Tryd.prog.follows .mixedOrders = true := by kernel_rfl
theorem sz50 : Sz Tryd.prog 50 1 := Sz_of (by kernel_rfl)
theorem fa52_1 : FA Tryd.prog 52 1 1 := FA_of Tryd.underlying52 rfl sz50
theorem tys50 : TyS Tryd.prog 50 := TyS_of Tryd.underlying50 rfl
theorem sz5 : Sz Tryd.prog 5 1 := Sz_of (by kernel_rfl)
theorem cf43 : CF Tryd.prog 43 := Tryd.call43
theorem cf54 : CF Tryd.prog 54 := Tryd.call54
theorem zv5 : ZV Tryd.prog 5 (.int .u8 0) := ZV_of (by kernel_rfl)
theorem by5 : BY Tryd.prog 5 1 := BY_of (by kernel_rfl)
theorem ce5 : Tryd.prog.cellsOf 5 = 1 := by kernel_rfl
theorem cf47 : CF Tryd.prog 47 := Tryd.call47
theorem zv52 : ZV Tryd.prog 52 (.agg (BldV.enc ⟨none, ⟨none, 0, 0⟩⟩).toArray) := ZV_of (by kernel_rfl)
theorem cf48 : CF Tryd.prog 48 := Tryd.call48
theorem cf49 : CF Tryd.prog 49 := Tryd.call49
theorem cf34 : CF Tryd.prog 34 := Tryd.call34
theorem cf38 : CF Tryd.prog 38 := Tryd.call38
theorem cf42 : CF Tryd.prog 42 := Tryd.call42
theorem cf32 : CF Tryd.prog 32 := Tryd.call32
theorem fa24_2 : FA Tryd.prog 24 2 2 := FA_of Tryd.underlying24 rfl sz4
theorem cf13 : CF Tryd.prog 13 := Tryd.call13
theorem is22 : IS Tryd.prog 22 1 := IS_of Tryd.underlying22 sz9
theorem cf21 : CF Tryd.prog 21 := Tryd.call21
theorem pl24 : Places Tryd.prog 24 [(0, 1), (1, 1), (2, 1), (3, 1), (4, 1)] := ⟨_, Tryd.underlying24, fun w => by simp [sz22 w, sz3 w, sz4 w, sz9 w]⟩
theorem cf8 : CF Tryd.prog 8 := Tryd.call8
theorem cf22 : CF Tryd.prog 22 := Tryd.call22
theorem cf19 : CF Tryd.prog 19 := Tryd.call19
theorem cf20 : CF Tryd.prog 20 := Tryd.call20
theorem cf15 : CF Tryd.prog 15 := Tryd.call15
theorem cf17 : CF Tryd.prog 17 := Tryd.call17
theorem dc9 {H : Type} {enc : TypeId × Value → H} {w : World} : Dc H enc Tryd.prog w (encS) wfS 9 := Dc_string Tryd.underlying9
theorem keep_pick_spec (k n : Int) (h0 : 0 < n) (h1 : n ≤ 1000000000) (w : World) : Ret Tryd.prog 19 #[.int .i64 k, .int .i64 n] w fun v w' => v = .int .i64 (Line.pick k n) ∧ Keep w w' := by
  have hb := Int.tmod_lt_of_pos k h0
  have hc := Int.lt_tmod_of_pos k h0
  refine Ret_body [] [] Tryd.func19 rfl rfl rfl (St.start w []) ?_
  refine G_seq ?_
  refine G_region ?_
  refine GL_step rfl (PS_assign rfl) ?_
  refine GL_nil ?_
  refine GQ_sub (.cons (k := 0) rfl (.cons (k := 1) rfl (.nil _))) ?_
  refine GQ_then ?_
  refine G_seq ?_
  refine G_region ?_
  refine GL_step rfl (PS_move rfl) ?_
  refine GL_step rfl (PS_move rfl) ?_
  refine GL_step rfl (PS_rem rfl rfl (by omega)) ?_
  refine GL_step rfl (PS_assign rfl) ?_
  refine GL_nil ?_
  refine GQ_sub (.cons (k := 0) rfl (.cons (k := 1) rfl (.nil _))) ?_
  refine GQ_then ?_
  refine G_seq ?_
  refine G_seq ?_
  refine G_region ?_
  refine GL_step rfl (PS_move rfl) ?_
  refine GL_step rfl (PS_lss rfl rfl) ?_
  refine GL_nil ?_
  refine GQ_sub (.cons (k := 0) rfl (.cons (k := 1) rfl (.cons (k := 9) rfl (.nil _)))) ?_
  refine GQ_then ?_
  refine G_cond rfl (fun c1 => ?_) (fun c1 => ?_)
  · skip
    have c1p := c1
    try simp only [decide_eq_true_eq, decide_eq_false_iff_not, Bool.not_eq_true', Bool.not_eq_false', Bool.or_eq_true, Bool.and_eq_true, Bool.or_eq_false_iff, Bool.and_eq_false_iff, Int.not_lt, Int.not_le] at c1p
    refine G_region ?_
    refine GL_step rfl (PS_move rfl) ?_
    refine GL_step rfl (PS_move rfl) ?_
    refine GL_step rfl (PS_add rfl rfl (IntWalk.i64_in _ (by omega))) ?_
    refine GL_step rfl (PS_assign rfl) ?_
    refine GL_nil ?_
    refine GQ_sub (.cons (k := 0) rfl (.nil _)) ?_
    refine GQ_then ?_
    refine G_seq ?_
    refine G_region ?_
    refine GL_step rfl (PS_move rfl) ?_
    refine GL_step rfl (PS_assign rfl) ?_
    refine GL_nil ?_
    refine GQ_sub (.cons (k := 4) rfl (.nil _)) ?_
    refine GQ_then ?_
    refine G_ret ?_
    refine GQ_ret rfl (.tmp rfl .nil) ?_
    intro w1 hS; refine ⟨?_, hS.toKeep⟩; rw [Line.pick, if_pos c1p]; rfl
  · skip
    have c1p := c1
    try simp only [decide_eq_true_eq, decide_eq_false_iff_not, Bool.not_eq_true', Bool.not_eq_false', Bool.or_eq_true, Bool.and_eq_true, Bool.or_eq_false_iff, Bool.and_eq_false_iff, Int.not_lt, Int.not_le] at c1p
    refine G_skip ?_
    refine GQ_sub (.cons (k := 0) rfl (.nil _)) ?_
    refine GQ_then ?_
    refine G_seq ?_
    refine G_region ?_
    refine GL_step rfl (PS_move rfl) ?_
    refine GL_step rfl (PS_assign rfl) ?_
    refine GL_nil ?_
    refine GQ_sub (.cons (k := 4) rfl (.nil _)) ?_
    refine GQ_then ?_
    refine G_ret ?_
    refine GQ_ret rfl (.tmp rfl .nil) ?_
    intro w1 hS; refine ⟨?_, hS.toKeep⟩; rw [Line.pick, if_neg (by omega), Int.add_zero]; rfl
theorem pager_Good_spec (p : PageV) (w : World) : Ret Tryd.prog 11 #[.agg p.enc.toArray] w fun v w' => v = .bool (Page.good p) ∧ Keep w w' := by
  refine Ret_body [] [] Tryd.func11 rfl rfl rfl (St.start w []) ?_
  refine G_seq ?_
  refine G_region ?_
  refine GL_box rfl rfl rfl (fun b1 => ?_)
  refine GL_step rfl (PS_assign rfl) ?_
  refine GL_nil ?_
  refine GQ_sub (.cons (k := 1) rfl (.nil _)) ?_
  refine GQ_then ?_
  refine G_seq ?_
  refine G_region ?_
  refine GL_step rfl (PS_fieldAddr fa24_0 rfl) ?_
  refine GL_step rfl (PS_load rfl tys22 (.head _) PageV.l0 rfl rfl) ?_
  refine GL_step rfl (PS_len_slice rfl Tryd.underlying22 rfl) ?_
  refine GL_step rfl (PS_leq rfl rfl) ?_
  refine GL_step rfl (PS_move rfl) ?_
  refine GL_gt (t := 7) rfl rfl rfl (fun q => PS_fieldAddr fa24_3 rfl) ?_
  refine GL_gt (t := 7) rfl rfl rfl (fun q => PS_load (cvE rfl q) tys9 (.head _) PageV.l3 rfl rfl) ?_
  refine GL_gt (t := 7) rfl rfl rfl (fun q => PS_len_str rfl Tryd.underlying9 (cvE rfl q)) ?_
  refine GL_gt (t := 7) rfl rfl rfl (fun q => PS_leq (cvE rfl q) rfl) ?_
  refine GL_step rfl (PS_and rfl rfl (fun h => h)) ?_
  refine GL_step rfl (PS_move rfl) ?_
  refine GL_gt (t := 13) rfl rfl rfl (fun q => PS_fieldAddr fa24_1 rfl) ?_
  refine GL_gt (t := 13) rfl rfl rfl (fun q => PS_load (cvE rfl q) tys3 (.head _) PageV.l1 rfl rfl) ?_
  refine GL_gt (t := 13) rfl rfl rfl (fun q => PS_geq (cvE rfl q) rfl) ?_
  refine GL_step rfl (PS_and rfl rfl (fun h => h)) ?_
  refine GL_step rfl (PS_move rfl) ?_
  refine GL_gt (t := 18) rfl rfl rfl (fun q => PS_fieldAddr fa24_1 rfl) ?_
  refine GL_gt (t := 18) rfl rfl rfl (fun q => PS_load (cvE rfl q) tys3 (.head _) PageV.l1 rfl rfl) ?_
  refine GL_gt (t := 18) rfl rfl rfl (fun q => PS_leq (cvE rfl q) rfl) ?_
  refine GL_step rfl (PS_and rfl rfl (fun h => h)) ?_
  refine GL_step rfl (PS_assign rfl) ?_
  refine GL_nil ?_
  refine GQ_sub (.cons (k := 2) rfl (.nil _)) ?_
  refine GQ_then ?_
  refine G_ret ?_
  refine GQ_ret rfl (.tmp rfl .nil) ?_
  intro w1 hS; refine ⟨congrArg Value.bool ?_, hS.toKeep⟩; rfl
theorem slices_Clone_string_string_spec {t0 : Nat} (h : Hd) (xs : List Str) (hb : xs.length ≤ 17592186044416) : CtrR Tryd.prog 30 #[h.val] [] (fun w => Rd w h t0 1 (xs.flatMap encS)) (fun v B => ∃ h' : Hd, v = h'.val ∧ h'.len = xs.length ∧ B = [Res.own h' 9 1 (xs.flatMap encS)]) := by
  intro w hS0 hH
  have r0 := hH
  have hl := r0.len1 flS (by decide)
  refine Ret_body _ _ Tryd.func30 rfl rfl rfl (hS0) ?_
  refine G_seq ?_
  refine G_region ?_
  refine GL_step rfl (PS_assign rfl) ?_
  refine GL_nil ?_
  refine GQ_sub (.cons (k := 0) rfl (.nil _)) ?_
  refine GQ_then ?_
  refine G_seq ?_
  refine G_seq ?_
  refine G_region ?_
  refine GL_step rfl (PS_move rfl) ?_
  refine GL_step rfl (PS_eqs_nil Tryd.underlying22 rfl) ?_
  refine GL_nil ?_
  refine GQ_sub (.cons (k := 0) rfl (.cons (k := 4) rfl (.nil _))) ?_
  refine GQ_then ?_
  refine G_cond rfl (fun c1 => ?_) (fun c1 => ?_)
  · skip
    have c1p := c1
    try simp only [decide_eq_true_eq, decide_eq_false_iff_not, Bool.not_eq_true', Bool.not_eq_false', Bool.or_eq_true, Bool.and_eq_true, Bool.or_eq_false_iff, Bool.and_eq_false_iff, Int.not_lt, Int.not_le] at c1p
    refine G_seq ?_
    refine G_region ?_
    refine GL_step rfl (PS_assign rfl) ?_
    refine GL_nil ?_
    refine GQ_sub (.cons (k := 2) rfl (.nil _)) ?_
    refine GQ_then ?_
    refine G_ret ?_
    refine GQ_then_ret ?_
    refine GQ_ret rfl (.tmp rfl .nil) ?_
    intro w1 hS
    have hS := (hS.perm (Pulls.perm .nil)).headL
    have hx : xs = [] := by
      rcases xs with _ | ⟨x, xs⟩
      · rfl
      · exfalso
        obtain ⟨b, o, C, fz, e1, _⟩ := r0.2 (by simp [encS])
        rw [e1] at c1
        cases c1
    subst hx
    exact ⟨_, ⟨⟨none, 0, 0⟩, rfl, rfl, rfl⟩, hS.own_nil _ _⟩
  · skip
    have c1p := c1
    try simp only [decide_eq_true_eq, decide_eq_false_iff_not, Bool.not_eq_true', Bool.not_eq_false', Bool.or_eq_true, Bool.and_eq_true, Bool.or_eq_false_iff, Bool.and_eq_false_iff, Int.not_lt, Int.not_le] at c1p
    refine G_skip ?_
    refine GQ_sub (.cons (k := 0) rfl (.nil _)) ?_
    refine GQ_then ?_
    refine G_seq ?_
    refine G_region ?_
    refine GL_bs0F encS rfl Tryd.underlying22 sz9 (fun b1 => ?_)
    refine GL_step rfl (PS_move rfl) ?_
    refine GL_append0 (e := encS) rfl Tryd.underlying22 sz9 zv9 rfl by9 (by decide) rfl rfl (fun w hS => Src.sliceT Tryd.underlying22 ((Kn.old r0) w hS)) rfl rfl (by omega) (fun _ => .head) (fun h1 h1l => ?_)
    refine GL_step rfl (PS_assign rfl) ?_
    refine GL_nil ?_
    refine GQ_sub (.cons (k := 2) rfl (.nil _)) ?_
    refine GQ_then ?_
    refine G_ret ?_
    refine GQ_ret rfl (.tmp rfl .nil) ?_
    intro w1 hS
    have hS := (hS.perm (Pulls.perm (.cons .head .nil))).headL
    exact ⟨_, ⟨_, rfl, by omega, rfl⟩, hS⟩
theorem pager_Tell_spec {t0 : Nat} (p : PageV) (qs : List Str) (s : Str) : CtrR Tryd.prog 8 #[.agg p.enc.toArray, vstr s] [] (fun w => Rd w p.wait t0 1 (qs.flatMap encS)) (fun v B => (Page.good p = false ∧ v = .tuple #[.agg p.enc.toArray, .int .i64 2] ∧ B = []) ∨ (Page.good p = true ∧ p.cut = true ∧ v = .tuple #[.agg p.enc.toArray, .int .i64 6] ∧ B = []) ∨ (Page.good p = true ∧ p.cut = false ∧ 60 ≤ qs.length ∧ v = .tuple #[.agg (PageV.enc ⟨p.wait, p.shown, p.asking, p.ring, true⟩).toArray, .int .i64 0] ∧ B = []) ∨ (Page.good p = true ∧ p.cut = false ∧ qs.length < 60 ∧ ∃ h' : Hd, v = .tuple #[.agg (PageV.enc ⟨h', p.shown, p.asking, p.ring, p.cut⟩).toArray, .int .i64 0] ∧ h'.len = qs.length + 1 ∧ B = [Res.own h' 9 1 ((qs ++ [s]).flatMap encS)])) := by
  intro w hS0 hH
  have r0 := hH
  have hl := r0.len1 flS (by decide)
  refine Ret_body _ _ Tryd.func8 rfl rfl rfl (hS0) ?_
  refine G_seq ?_
  refine G_region ?_
  refine GL_box rfl rfl rfl (fun b1 => ?_)
  refine GL_alloc rfl zv24 rfl (fun b2 => ?_)
  refine GL_step rfl (PS_assign rfl) ?_
  refine GL_nil ?_
  refine GQ_sub (.cons (k := 1) rfl (.cons (k := 2) rfl (.cons (k := 4) rfl (.nil _)))) ?_
  refine GQ_then ?_
  refine G_seq ?_
  refine G_block ?_
  refine G_seq ?_
  refine G_region ?_
  refine GL_step rfl (PS_loadA rfl tya24 (.tail _ (.head _)) (Lens.id PageV.fl.len PageV.fl.one) rfl) ?_
  refine GL_pure rfl cf11 (.cons rfl .nil) (fun w hS => pager_Good_spec _ w) ?_
  refine GL_step rfl (PS_not rfl) ?_
  refine GL_step rfl (PS_assign rfl) ?_
  refine GL_nil ?_
  refine GQ_sub (.cons (k := 1) rfl (.cons (k := 2) rfl (.cons (k := 4) rfl (.cons (k := 6) rfl (.nil _))))) ?_
  refine GQ_then ?_
  refine G_cond rfl (fun c1 => ?_) (fun c1 => ?_)
  · skip
    have c1p := c1
    try simp only [decide_eq_true_eq, decide_eq_false_iff_not, Bool.not_eq_true', Bool.not_eq_false', Bool.or_eq_true, Bool.and_eq_true, Bool.or_eq_false_iff, Bool.and_eq_false_iff, Int.not_lt, Int.not_le] at c1p
    refine G_seq ?_
    refine G_region ?_
    refine GL_step rfl (PS_loadA rfl tya24 (.tail _ (.head _)) (Lens.id PageV.fl.len PageV.fl.one) rfl) ?_
    refine GL_unit (PU_store (Lens.id PageV.fl.len PageV.fl.one) rfl rfl rfl sz24 rfl .head) ?_
    refine GL_step rfl (PS_assign rfl) ?_
    refine GL_nil ?_
    refine GQ_sub (.cons (k := 4) rfl (.cons (k := 5) rfl (.nil _))) ?_
    refine GQ_then ?_
    refine G_ret ?_
    refine GQ_block_ret ?_
    refine GQ_then_ret ?_
    refine GQ_ret rfl (.cell rfl (.head _) (.inl ⟨(by rw [PageV.fl.len]; exact tya24), rfl⟩) (.tmp rfl .nil)) ?_
    intro w1 hS
    have hS := (hS.perm (Pulls.perm .nil)).headL
    exact ⟨_, .inl ⟨by simpa using c1, rfl, rfl⟩, hS⟩
  · skip
    have c1p := c1
    try simp only [decide_eq_true_eq, decide_eq_false_iff_not, Bool.not_eq_true', Bool.not_eq_false', Bool.or_eq_true, Bool.and_eq_true, Bool.or_eq_false_iff, Bool.and_eq_false_iff, Int.not_lt, Int.not_le] at c1p
    have hgd : Page.good p = true := by simpa using c1
    have hg := (Page.good_iff p).1 hgd
    refine G_seq ?_
    refine G_region ?_
    refine GL_step rfl (PS_fieldAddr fa24_4 rfl) ?_
    refine GL_step rfl (PS_load rfl tys4 (.tail _ (.head _)) PageV.l4 rfl rfl) ?_
    refine GL_step rfl (PS_assign rfl) ?_
    refine GL_nil ?_
    refine GQ_sub (.cons (k := 1) rfl (.cons (k := 2) rfl (.cons (k := 4) rfl (.cons (k := 11) rfl (.nil _))))) ?_
    refine GQ_then ?_
    refine G_cond rfl (fun c2 => ?_) (fun c2 => ?_)
    · skip
      have c2p := c2
      try simp only [decide_eq_true_eq, decide_eq_false_iff_not, Bool.not_eq_true', Bool.not_eq_false', Bool.or_eq_true, Bool.and_eq_true, Bool.or_eq_false_iff, Bool.and_eq_false_iff, Int.not_lt, Int.not_le] at c2p
      refine G_seq ?_
      refine G_region ?_
      refine GL_step rfl (PS_loadA rfl tya24 (.tail _ (.head _)) (Lens.id PageV.fl.len PageV.fl.one) rfl) ?_
      refine GL_unit (PU_store (Lens.id PageV.fl.len PageV.fl.one) rfl rfl rfl sz24 rfl .head) ?_
      refine GL_step rfl (PS_assign rfl) ?_
      refine GL_nil ?_
      refine GQ_sub (.cons (k := 4) rfl (.cons (k := 5) rfl (.nil _))) ?_
      refine GQ_then ?_
      refine G_ret ?_
      refine GQ_block_ret ?_
      refine GQ_then_ret ?_
      refine GQ_ret rfl (.cell rfl (.head _) (.inl ⟨(by rw [PageV.fl.len]; exact tya24), rfl⟩) (.tmp rfl .nil)) ?_
      intro w1 hS
      have hS := (hS.perm (Pulls.perm .nil)).headL
      exact ⟨_, .inr (.inl ⟨hgd, c2, rfl, rfl⟩), hS⟩
    · skip
      have c2p := c2
      try simp only [decide_eq_true_eq, decide_eq_false_iff_not, Bool.not_eq_true', Bool.not_eq_false', Bool.or_eq_true, Bool.and_eq_true, Bool.or_eq_false_iff, Bool.and_eq_false_iff, Int.not_lt, Int.not_le] at c2p
      refine G_seq ?_
      refine G_region ?_
      refine GL_step rfl (PS_fieldAddr fa24_0 rfl) ?_
      refine GL_step rfl (PS_load rfl tys22 (.tail _ (.head _)) PageV.l0 rfl rfl) ?_
      refine GL_step rfl (PS_len_slice rfl Tryd.underlying22 rfl) ?_
      refine GL_step rfl (PS_geq rfl rfl) ?_
      refine GL_step rfl (PS_assign rfl) ?_
      refine GL_nil ?_
      refine GQ_sub (.cons (k := 1) rfl (.cons (k := 2) rfl (.cons (k := 4) rfl (.cons (k := 15) rfl (.nil _))))) ?_
      refine GQ_then ?_
      refine G_cond rfl (fun c3 => ?_) (fun c3 => ?_)
      · skip
        have c3p := c3
        try simp only [decide_eq_true_eq, decide_eq_false_iff_not, Bool.not_eq_true', Bool.not_eq_false', Bool.or_eq_true, Bool.and_eq_true, Bool.or_eq_false_iff, Bool.and_eq_false_iff, Int.not_lt, Int.not_le] at c3p
        refine G_seq ?_
        refine G_region ?_
        refine GL_step rfl (PS_fieldAddr fa24_4 rfl) ?_
        refine GL_unit (PU_store PageV.l4 rfl rfl rfl sz4 rfl (.tail .head)) ?_
        refine GL_nil ?_
        refine GQ_sub (.cons (k := 2) rfl (.cons (k := 4) rfl (.nil _))) ?_
        refine GQ_then ?_
        refine G_seq ?_
        refine G_region ?_
        refine GL_step rfl (PS_loadA rfl tya24 (.tail _ (.head _)) (Lens.id PageV.fl.len PageV.fl.one) rfl) ?_
        refine GL_unit (PU_store (Lens.id PageV.fl.len PageV.fl.one) rfl rfl rfl sz24 rfl .head) ?_
        refine GL_step rfl (PS_assign rfl) ?_
        refine GL_nil ?_
        refine GQ_sub (.cons (k := 4) rfl (.cons (k := 5) rfl (.nil _))) ?_
        refine GQ_then ?_
        refine G_ret ?_
        refine GQ_block_ret ?_
        refine GQ_then_ret ?_
        refine GQ_ret rfl (.cell rfl (.head _) (.inl ⟨(by rw [PageV.fl.len]; exact tya24), rfl⟩) (.tmp rfl .nil)) ?_
        intro w1 hS
        have hS := (hS.perm (Pulls.perm .nil)).headL
        exact ⟨_, .inr (.inr (.inl ⟨hgd, by simpa using c2, by simp at c3; omega, rfl, rfl⟩)), hS⟩
      · skip
        have c3p := c3
        try simp only [decide_eq_true_eq, decide_eq_false_iff_not, Bool.not_eq_true', Bool.not_eq_false', Bool.or_eq_true, Bool.and_eq_true, Bool.or_eq_false_iff, Bool.and_eq_false_iff, Int.not_lt, Int.not_le] at c3p
        refine G_skip ?_
        refine GQ_sub (.cons (k := 1) rfl (.cons (k := 2) rfl (.cons (k := 4) rfl (.nil _)))) ?_
        refine GQ_block ?_
        refine GQ_then ?_
        refine G_seq ?_
        refine G_region ?_
        refine GL_step rfl (PS_fieldAddr fa24_0 rfl) ?_
        refine GL_step rfl (PS_load rfl tys22 (.tail _ (.head _)) PageV.l0 rfl rfl) ?_
        refine GL_callR rfl cf30 (.cons rfl .nil) .nil (slices_Clone_string_string_spec _ _ (by first | assumption | omega)) (fun w hS => (Kn.old r0) w hS) (fun v1 B hv => ?_)
        obtain ⟨y2, rfl, y3, rfl⟩ := hv
        refine GL_step rfl (PS_move rfl) ?_
        refine GL_bs1F encS flS rfl Tryd.underlying22 sz9 zv9 rfl (by decide) (by decide) rfl rfl (fun b3 => ?_)
        refine GL_appendF flS rfl Tryd.underlying22 sz9 zv9 rfl by9 (by decide) (by decide) rfl rfl (fun w hS => Src.sliceT Tryd.underlying22 ((Kn.own (.head _)) w hS)) (by (try dsimp only); omega) (fun _ => (.tail .head)) (fun h5 h5l h5z => ?_)
        refine GL_step rfl (PS_fieldAddr fa24_0 rfl) ?_
        refine GL_unit (PU_store PageV.l0 rfl rfl rfl sz22 rfl (.tail (.tail (.tail .head)))) ?_
        refine GL_nil ?_
        refine GQ_sub (.cons (k := 2) rfl (.cons (k := 4) rfl (.nil _))) ?_
        refine GQ_then ?_
        refine G_seq ?_
        refine G_region ?_
        refine GL_step rfl (PS_loadA rfl tya24 (.tail _ (.tail _ (.tail _ (.head _)))) (Lens.id PageV.fl.len PageV.fl.one) rfl) ?_
        refine GL_unit (PU_store (Lens.id PageV.fl.len PageV.fl.one) rfl rfl rfl sz24 rfl (.tail (.tail .head))) ?_
        refine GL_step rfl (PS_assign rfl) ?_
        refine GL_nil ?_
        refine GQ_sub (.cons (k := 4) rfl (.cons (k := 5) rfl (.nil _))) ?_
        refine GQ_then ?_
        refine G_ret ?_
        refine GQ_ret rfl (.cell rfl (.tail _ (.tail _ (.head _))) (.inl ⟨(by rw [PageV.fl.len]; exact tya24), rfl⟩) (.tmp rfl .nil)) ?_
        intro w1 hS
        have hS := (hS.perm (Pulls.perm (.cons (.tail .head) .nil))).headL
        exact ⟨_, .inr (.inr (.inr ⟨hgd, by simpa using c2, by simp at c3; omega, _, rfl, by (try dsimp only at *); (try simp only [List.length_cons, List.length_nil] at *); omega, rfl⟩)), hS⟩
theorem pager_Send_spec (p : PageV) (s : Str) (hs : s.length ≤ 9000000000000000000) (w : World) : Ret Tryd.prog 13 #[.agg p.enc.toArray, vstr s] w fun v w' => v = .tuple #[.agg (PageV.enc ⟨p.wait, (Page.send p s).1.shown, (Page.send p s).1.asking, (Page.send p s).1.ring, (Page.send p s).1.cut⟩).toArray, .int .i64 (Page.send p s).2] ∧ Keep w w' := by
  refine Ret_body [] [] Tryd.func13 rfl rfl rfl (St.start w []) ?_
  refine G_seq ?_
  refine G_region ?_
  refine GL_box rfl rfl rfl (fun b1 => ?_)
  refine GL_alloc rfl zv24 rfl (fun b2 => ?_)
  refine GL_step rfl (PS_assign rfl) ?_
  refine GL_nil ?_
  refine GQ_sub (.cons (k := 1) rfl (.cons (k := 2) rfl (.cons (k := 4) rfl (.nil _)))) ?_
  refine GQ_then ?_
  refine G_seq ?_
  refine G_block ?_
  refine G_seq ?_
  refine G_region ?_
  refine GL_step rfl (PS_loadA rfl tya24 (.tail _ (.head _)) (Lens.id PageV.fl.len PageV.fl.one) rfl) ?_
  refine GL_pure rfl cf11 (.cons rfl .nil) (fun w hS => pager_Good_spec _ w) ?_
  refine GL_step rfl (PS_not rfl) ?_
  refine GL_step rfl (PS_assign rfl) ?_
  refine GL_nil ?_
  refine GQ_sub (.cons (k := 1) rfl (.cons (k := 2) rfl (.cons (k := 4) rfl (.cons (k := 6) rfl (.nil _))))) ?_
  refine GQ_then ?_
  refine G_cond rfl (fun c1 => ?_) (fun c1 => ?_)
  · skip
    have c1p := c1
    try simp only [decide_eq_true_eq, decide_eq_false_iff_not, Bool.not_eq_true', Bool.not_eq_false', Bool.or_eq_true, Bool.and_eq_true, Bool.or_eq_false_iff, Bool.and_eq_false_iff, Int.not_lt, Int.not_le] at c1p
    refine G_seq ?_
    refine G_region ?_
    refine GL_step rfl (PS_loadA rfl tya24 (.tail _ (.head _)) (Lens.id PageV.fl.len PageV.fl.one) rfl) ?_
    refine GL_unit (PU_store (Lens.id PageV.fl.len PageV.fl.one) rfl rfl rfl sz24 rfl .head) ?_
    refine GL_step rfl (PS_assign rfl) ?_
    refine GL_nil ?_
    refine GQ_sub (.cons (k := 4) rfl (.cons (k := 5) rfl (.nil _))) ?_
    refine GQ_then ?_
    refine G_ret ?_
    refine GQ_block_ret ?_
    refine GQ_then_ret ?_
    refine GQ_ret rfl (.cell rfl (.head _) (.inl ⟨(by rw [PageV.fl.len]; exact tya24), rfl⟩) (.tmp rfl .nil)) ?_
    intro w1 hS; refine ⟨?_, hS.toKeep⟩; simp only [Page.send, Page.put, Page.of, c1, ↓reduceIte, Bool.false_eq_true]; rfl
  · skip
    have c1p := c1
    try simp only [decide_eq_true_eq, decide_eq_false_iff_not, Bool.not_eq_true', Bool.not_eq_false', Bool.or_eq_true, Bool.and_eq_true, Bool.or_eq_false_iff, Bool.and_eq_false_iff, Int.not_lt, Int.not_le] at c1p
    have hg := (Page.good_iff p).1 (by simpa using c1)
    refine G_seq ?_
    refine G_region ?_
    refine GL_step rfl (PS_fieldAddr fa24_4 rfl) ?_
    refine GL_step rfl (PS_load rfl tys4 (.tail _ (.head _)) PageV.l4 rfl rfl) ?_
    refine GL_step rfl (PS_assign rfl) ?_
    refine GL_nil ?_
    refine GQ_sub (.cons (k := 1) rfl (.cons (k := 2) rfl (.cons (k := 4) rfl (.cons (k := 11) rfl (.nil _))))) ?_
    refine GQ_then ?_
    refine G_cond rfl (fun c2 => ?_) (fun c2 => ?_)
    · skip
      have c2p := c2
      try simp only [decide_eq_true_eq, decide_eq_false_iff_not, Bool.not_eq_true', Bool.not_eq_false', Bool.or_eq_true, Bool.and_eq_true, Bool.or_eq_false_iff, Bool.and_eq_false_iff, Int.not_lt, Int.not_le] at c2p
      refine G_seq ?_
      refine G_region ?_
      refine GL_step rfl (PS_loadA rfl tya24 (.tail _ (.head _)) (Lens.id PageV.fl.len PageV.fl.one) rfl) ?_
      refine GL_unit (PU_store (Lens.id PageV.fl.len PageV.fl.one) rfl rfl rfl sz24 rfl .head) ?_
      refine GL_step rfl (PS_assign rfl) ?_
      refine GL_nil ?_
      refine GQ_sub (.cons (k := 4) rfl (.cons (k := 5) rfl (.nil _))) ?_
      refine GQ_then ?_
      refine G_ret ?_
      refine GQ_block_ret ?_
      refine GQ_then_ret ?_
      refine GQ_ret rfl (.cell rfl (.head _) (.inl ⟨(by rw [PageV.fl.len]; exact tya24), rfl⟩) (.tmp rfl .nil)) ?_
      intro w1 hS; refine ⟨?_, hS.toKeep⟩; rw [show Page.send p s = (Page.of p, 6) from by simp only [Page.send, c1, c2, ↓reduceIte, Bool.false_eq_true]]; rfl
    · skip
      have c2p := c2
      try simp only [decide_eq_true_eq, decide_eq_false_iff_not, Bool.not_eq_true', Bool.not_eq_false', Bool.or_eq_true, Bool.and_eq_true, Bool.or_eq_false_iff, Bool.and_eq_false_iff, Int.not_lt, Int.not_le] at c2p
      refine G_seq ?_
      refine G_region ?_
      refine GL_step rfl (PS_move rfl) ?_
      refine GL_step rfl (PS_len_str rfl Tryd.underlying9 rfl) ?_
      refine GL_step rfl (PS_fieldAddr fa24_3 rfl) ?_
      refine GL_step rfl (PS_load rfl tys9 (.tail _ (.head _)) PageV.l3 rfl rfl) ?_
      refine GL_step rfl (PS_len_str rfl Tryd.underlying9 rfl) ?_
      refine GL_step rfl (PS_sub rfl rfl (IntWalk.i64_in _ (by first | omega | (simp at *; omega)))) ?_
      refine GL_step rfl (PS_gtr rfl rfl) ?_
      refine GL_step rfl (PS_assign rfl) ?_
      refine GL_nil ?_
      refine GQ_sub (.cons (k := 1) rfl (.cons (k := 2) rfl (.cons (k := 4) rfl (.cons (k := 15) rfl (.nil _))))) ?_
      refine GQ_then ?_
      refine G_cond rfl (fun c3 => ?_) (fun c3 => ?_)
      · skip
        have c3p := c3
        try simp only [decide_eq_true_eq, decide_eq_false_iff_not, Bool.not_eq_true', Bool.not_eq_false', Bool.or_eq_true, Bool.and_eq_true, Bool.or_eq_false_iff, Bool.and_eq_false_iff, Int.not_lt, Int.not_le] at c3p
        refine G_seq ?_
        refine G_region ?_
        refine GL_step rfl (PS_fieldAddr fa24_4 rfl) ?_
        refine GL_unit (PU_store PageV.l4 rfl rfl rfl sz4 rfl (.tail .head)) ?_
        refine GL_nil ?_
        refine GQ_sub (.cons (k := 2) rfl (.cons (k := 4) rfl (.nil _))) ?_
        refine GQ_then ?_
        refine G_seq ?_
        refine G_region ?_
        refine GL_step rfl (PS_loadA rfl tya24 (.tail _ (.head _)) (Lens.id PageV.fl.len PageV.fl.one) rfl) ?_
        refine GL_unit (PU_store (Lens.id PageV.fl.len PageV.fl.one) rfl rfl rfl sz24 rfl .head) ?_
        refine GL_step rfl (PS_assign rfl) ?_
        refine GL_nil ?_
        refine GQ_sub (.cons (k := 4) rfl (.cons (k := 5) rfl (.nil _))) ?_
        refine GQ_then ?_
        refine G_ret ?_
        refine GQ_block_ret ?_
        refine GQ_then_ret ?_
        refine GQ_ret rfl (.cell rfl (.head _) (.inl ⟨(by rw [PageV.fl.len]; exact tya24), rfl⟩) (.tmp rfl .nil)) ?_
        intro w1 hS; refine ⟨?_, hS.toKeep⟩; simp only [Page.send, Page.put, Page.of, c1, c2, c3, ↓reduceIte, Bool.false_eq_true]; rfl
      · skip
        have c3p := c3
        try simp only [decide_eq_true_eq, decide_eq_false_iff_not, Bool.not_eq_true', Bool.not_eq_false', Bool.or_eq_true, Bool.and_eq_true, Bool.or_eq_false_iff, Bool.and_eq_false_iff, Int.not_lt, Int.not_le] at c3p
        refine G_skip ?_
        refine GQ_sub (.cons (k := 1) rfl (.cons (k := 2) rfl (.cons (k := 4) rfl (.nil _)))) ?_
        refine GQ_block ?_
        refine GQ_then ?_
        refine G_seq ?_
        refine G_region ?_
        refine GL_step rfl (PS_fieldAddr fa24_3 rfl) ?_
        refine GL_step rfl (PS_load rfl tys9 (.tail _ (.head _)) PageV.l3 rfl rfl) ?_
        refine GL_step rfl (PS_move rfl) ?_
        refine GL_step rfl (PS_add_str rfl rfl (by first | omega | (simp at *; omega))) ?_
        refine GL_step rfl (PS_fieldAddr fa24_3 rfl) ?_
        refine GL_unit (PU_store PageV.l3 rfl rfl rfl sz9 rfl (.tail .head)) ?_
        refine GL_nil ?_
        refine GQ_sub (.cons (k := 2) rfl (.cons (k := 4) rfl (.nil _))) ?_
        refine GQ_then ?_
        refine G_seq ?_
        refine G_region ?_
        refine GL_step rfl (PS_loadA rfl tya24 (.tail _ (.head _)) (Lens.id PageV.fl.len PageV.fl.one) rfl) ?_
        refine GL_unit (PU_store (Lens.id PageV.fl.len PageV.fl.one) rfl rfl rfl sz24 rfl .head) ?_
        refine GL_step rfl (PS_assign rfl) ?_
        refine GL_nil ?_
        refine GQ_sub (.cons (k := 4) rfl (.cons (k := 5) rfl (.nil _))) ?_
        refine GQ_then ?_
        refine G_ret ?_
        refine GQ_ret rfl (.cell rfl (.head _) (.inl ⟨(by rw [PageV.fl.len]; exact tya24), rfl⟩) (.tmp rfl .nil)) ?_
        intro w1 hS; refine ⟨?_, hS.toKeep⟩; simp only [Page.send, Page.put, Page.of, c1, c2, c3, ↓reduceIte, Bool.false_eq_true]; rfl
theorem internal_stringslite_IndexByte_spec (s : Str) (c : UInt8) (w : World) : Ret Tryd.prog 58 #[vstr s, .int .u8 (c.toNat : Int)] w fun v w' => v = .int .i64 (Lib.indexByte s c) ∧ Keep w w' := by
  refine Ret_body [] [] Tryd.func58 rfl rfl rfl (St.start w []) ?_
  refine G_seq ?_
  refine G_region ?_
  refine GL_step rfl (PS_assign rfl) ?_
  refine GL_nil ?_
  refine GQ_sub (.cons (k := 0) rfl (.cons (k := 1) rfl (.nil _))) ?_
  refine GQ_then ?_
  refine G_seq ?_
  refine G_region ?_
  refine GL_step rfl (PS_move rfl) ?_
  refine GL_step rfl (PS_move rfl) ?_
  refine GL_step rfl (PS_indexByteString Tryd.func62 (by kernel_rfl) (by kernel_rfl) (by kernel_rfl) (by kernel_rfl) rfl rfl) ?_
  refine GL_step rfl (PS_assign rfl) ?_
  refine GL_nil ?_
  refine GQ_sub (.cons (k := 4) rfl (.nil _)) ?_
  refine GQ_then ?_
  refine G_ret ?_
  refine GQ_ret rfl (.tmp rfl .nil) ?_
  intro w1 hS; refine ⟨?_, hS.toKeep⟩; rfl
theorem internal_stringslite_Index_spec (s : Str) (c : UInt8) (w : World) : Ret Tryd.prog 55 #[vstr s, vstr [c]] w fun v w' => v = .int .i64 (Lib.indexByte s c) ∧ Keep w w' := by
  refine Ret_body [] [] Tryd.func55 rfl rfl rfl (St.start w []) ?_
  refine G_seq ?_
  refine G_region ?_
  refine GL_step rfl (PS_assign rfl) ?_
  refine GL_nil ?_
  refine GQ_sub (.cons (k := 0) rfl (.cons (k := 1) rfl (.nil _))) ?_
  refine GQ_then ?_
  refine G_seq ?_
  refine G_region ?_
  refine GL_step rfl (PS_move rfl) ?_
  refine GL_step rfl (PS_len_str rfl Tryd.underlying9 rfl) ?_
  refine GL_step rfl (PS_assign rfl) ?_
  refine GL_nil ?_
  refine GQ_sub (.cons (k := 0) rfl (.cons (k := 1) rfl (.cons (k := 5) rfl (.nil _)))) ?_
  refine GQ_then ?_
  refine G_seq ?_
  refine G_block ?_
  refine G_seq ?_
  refine G_region ?_
  refine GL_step rfl (PS_move rfl) ?_
  refine GL_step rfl (PS_eql rfl rfl) ?_
  refine GL_step rfl (PS_move rfl) ?_
  refine GL_gf (t := 19) rfl rfl rfl (fun q => PS_move rfl) ?_
  refine GL_gf (t := 19) rfl rfl rfl (fun q => PS_move rfl) ?_
  refine GL_gf (t := 19) rfl rfl rfl (fun q => PS_eql_str (cvE rfl (by rw [q]; rfl)) (cvE rfl (by rw [q]; rfl))) ?_
  refine GL_step rfl (PS_or rfl rfl (fun h => by rw [h]; rfl)) ?_
  refine GL_step rfl (PS_assign rfl) ?_
  refine GL_nil ?_
  refine GQ_sub (.cons (k := 0) rfl (.cons (k := 1) rfl (.cons (k := 5) rfl (.cons (k := 16) rfl (.nil _))))) ?_
  refine GQ_then ?_
  refine G_cond rfl (fun c1 => ?_) (fun c1 => ?_)
  · skip
    have c1p := c1
    try simp only [decide_eq_true_eq, decide_eq_false_iff_not, Bool.not_eq_true', Bool.not_eq_false', Bool.or_eq_true, Bool.and_eq_true, Bool.or_eq_false_iff, Bool.and_eq_false_iff, Int.not_lt, Int.not_le] at c1p
    refine G_seq ?_
    refine G_region ?_
    refine GL_step rfl (PS_assign rfl) ?_
    refine GL_nil ?_
    refine GQ_sub (.cons (k := 4) rfl (.nil _)) ?_
    refine GQ_then ?_
    refine G_ret ?_
    refine GQ_block_ret ?_
    refine GQ_then_ret ?_
    refine GQ_ret rfl (.tmp rfl .nil) ?_
    intro w1 hS; refine ⟨?_, hS.toKeep⟩; have e : [c] = s := by simpa using c1
    rw [← e, Page.index_one]; rfl
  · skip
    have c1p := c1
    try simp only [decide_eq_true_eq, decide_eq_false_iff_not, Bool.not_eq_true', Bool.not_eq_false', Bool.or_eq_true, Bool.and_eq_true, Bool.or_eq_false_iff, Bool.and_eq_false_iff, Int.not_lt, Int.not_le] at c1p
    refine G_seq ?_
    refine G_region ?_
    refine GL_step rfl (PS_move rfl) ?_
    refine GL_step rfl (PS_eql rfl rfl) ?_
    refine GL_step rfl (PS_assign rfl) ?_
    refine GL_nil ?_
    refine GQ_sub (.cons (k := 0) rfl (.cons (k := 1) rfl (.cons (k := 5) rfl (.cons (k := 24) rfl (.nil _))))) ?_
    refine GQ_then ?_
    refine G_true rfl (by simp) ?_
    refine G_seq ?_
    refine G_region ?_
    refine GL_step rfl (PS_move rfl) ?_
    refine GL_step rfl (PS_move rfl) ?_
    refine GL_step rfl (PS_index_str Tryd.underlying9 rfl rfl (by decide) (by first | omega | simp)) ?_
    refine GL_pure rfl cf58 (.cons rfl (.cons rfl .nil)) (fun w hS => internal_stringslite_IndexByte_spec _ _ w) ?_
    refine GL_step rfl (PS_assign rfl) ?_
    refine GL_nil ?_
    refine GQ_sub (.cons (k := 4) rfl (.nil _)) ?_
    refine GQ_then ?_
    refine G_ret ?_
    refine GQ_block_ret ?_
    refine GQ_then_ret ?_
    refine GQ_ret rfl (.tmp rfl .nil) ?_
    intro w1 hS; refine ⟨?_, hS.toKeep⟩; rfl
theorem strings_Index_spec (s : Str) (c : UInt8) (w : World) : Ret Tryd.prog 49 #[vstr s, vstr [c]] w fun v w' => v = .int .i64 (Lib.indexByte s c) ∧ Keep w w' := by
  refine Ret_body [] [] Tryd.func49 rfl rfl rfl (St.start w []) ?_
  refine G_seq ?_
  refine G_region ?_
  refine GL_step rfl (PS_assign rfl) ?_
  refine GL_nil ?_
  refine GQ_sub (.cons (k := 0) rfl (.cons (k := 1) rfl (.nil _))) ?_
  refine GQ_then ?_
  refine G_seq ?_
  refine G_region ?_
  refine GL_step rfl (PS_move rfl) ?_
  refine GL_step rfl (PS_move rfl) ?_
  refine GL_pure rfl cf55 (.cons rfl (.cons rfl .nil)) (fun w hS => internal_stringslite_Index_spec _ _ w) ?_
  refine GL_step rfl (PS_assign rfl) ?_
  refine GL_nil ?_
  refine GQ_sub (.cons (k := 4) rfl (.nil _)) ?_
  refine GQ_then ?_
  refine G_ret ?_
  refine GQ_ret rfl (.tmp rfl .nil) ?_
  intro w1 hS; refine ⟨?_, hS.toKeep⟩; rfl
theorem strings_Count_spec (s : Str) (c : UInt8) (w : World) : Ret Tryd.prog 47 #[vstr s, vstr [c]] w fun v w' => v = .int .i64 ((s.count c : Nat) : Int) ∧ Keep w w' := by
  refine Ret_body [] [] Tryd.func47 rfl rfl rfl (St.start w []) ?_
  refine G_seq ?_
  refine G_region ?_
  refine GL_step rfl (PS_assign rfl) ?_
  refine GL_nil ?_
  refine GQ_sub (.cons (k := 0) rfl (.cons (k := 1) rfl (.nil _))) ?_
  refine GQ_then ?_
  refine G_seq ?_
  refine G_seq ?_
  refine G_region ?_
  refine GL_step rfl (PS_move rfl) ?_
  refine GL_step rfl (PS_len_str rfl Tryd.underlying9 rfl) ?_
  refine GL_step rfl (PS_eql rfl rfl) ?_
  refine GL_nil ?_
  refine GQ_sub (.cons (k := 0) rfl (.cons (k := 1) rfl (.cons (k := 9) rfl (.nil _)))) ?_
  refine GQ_then ?_
  refine G_false rfl (by simp) ?_
  refine G_skip ?_
  refine GQ_sub (.cons (k := 0) rfl (.cons (k := 1) rfl (.nil _))) ?_
  refine GQ_then ?_
  refine G_seq ?_
  refine G_seq ?_
  refine G_region ?_
  refine GL_step rfl (PS_move rfl) ?_
  refine GL_step rfl (PS_len_str rfl Tryd.underlying9 rfl) ?_
  refine GL_step rfl (PS_eql rfl rfl) ?_
  refine GL_nil ?_
  refine GQ_sub (.cons (k := 0) rfl (.cons (k := 1) rfl (.cons (k := 15) rfl (.nil _)))) ?_
  refine GQ_then ?_
  refine G_true rfl (by simp) ?_
  refine G_seq ?_
  refine G_region ?_
  refine GL_step rfl (PS_move rfl) ?_
  refine GL_step rfl (PS_move rfl) ?_
  refine GL_step rfl (PS_index_str Tryd.underlying9 rfl rfl (by decide) (by first | omega | simp)) ?_
  refine GL_step rfl (PS_countString Tryd.func53 (by kernel_rfl) (by kernel_rfl) (by kernel_rfl) (by kernel_rfl) rfl rfl) ?_
  refine GL_step rfl (PS_assign rfl) ?_
  refine GL_nil ?_
  refine GQ_sub (.cons (k := 4) rfl (.nil _)) ?_
  refine GQ_then ?_
  refine G_ret ?_
  refine GQ_then_ret ?_
  refine GQ_ret rfl (.tmp rfl .nil) ?_
  intro w1 hS; refine ⟨?_, hS.toKeep⟩; rfl
theorem strings_Builder_copyCheck_spec (b : Nat) (p : Option Addr) (h : Hd) (hp : p = none ∨ p = some ⟨b, 0, none⟩) : Ctr Tryd.prog 43 #[.pointer (some ⟨b, 0, none⟩)] [Res.box b 52 (BldV.enc ⟨p, h⟩)] (fun v B => v = .tuple #[] ∧ B = [Res.box b 52 (BldV.enc ⟨some ⟨b, 0, none⟩, h⟩)]) := by
  intro w hS0
  refine Ret_body _ _ Tryd.func43 rfl rfl rfl (hS0) ?_
  refine G_seq ?_
  refine G_region ?_
  refine GL_step rfl (PS_move rfl) ?_
  refine GL_step rfl (PS_nilCheck rfl) ?_
  refine GL_step rfl (PS_fieldAddr fa52_0 rfl) ?_
  refine GL_step rfl (PS_load rfl tys49 (.head _) BldV.l0 rfl rfl) ?_
  refine GL_step rfl (PS_eqp_nil Tryd.underlying49 rfl) ?_
  refine GL_nil ?_
  refine GQ_sub (.cons (k := 0) rfl (.cons (k := 6) rfl (.nil _))) ?_
  refine GQ_then ?_
  refine G_cond rfl (fun c1 => ?_) (fun c1 => ?_)
  · skip
    have c1p := c1
    try simp only [decide_eq_true_eq, decide_eq_false_iff_not, Bool.not_eq_true', Bool.not_eq_false', Bool.or_eq_true, Bool.and_eq_true, Bool.or_eq_false_iff, Bool.and_eq_false_iff, Int.not_lt, Int.not_le] at c1p
    obtain rfl : p = none := by simpa using c1
    refine G_region ?_
    refine GL_step rfl (PS_move rfl) ?_
    refine GL_step rfl (PS_move rfl) ?_
    refine GL_step rfl ((let ⟨_, h, h2⟩ := inf52; PS_toUnsafe Tryd.underlying49 Tryd.underlying81 h h2 rfl (.head _) (by rw [BldV.fl.len]; decide))) ?_
    refine GL_step rfl (PS_noEscape Tryd.func51 (by kernel_rfl) (by kernel_rfl) (by kernel_rfl) (by kernel_rfl) rfl) ?_
    refine GL_step rfl ((let ⟨_, h, _⟩ := inf52; PS_fromUnsafe Tryd.underlying81 Tryd.underlying49 h rfl (.head _) (by rw [BldV.fl.len]; kernel_rfl))) ?_
    refine GL_step rfl (PS_nilCheck rfl) ?_
    refine GL_step rfl (PS_fieldAddr fa52_0 rfl) ?_
    refine GL_unit (PU_store BldV.l0 rfl rfl rfl sz49 rfl .head) ?_
    refine GL_nil ?_
    refine GQ_end rfl .nil ?_
    intro w1 hS
    have hS := (hS.perm (Pulls.perm (.cons .head .nil))).headL
    exact ⟨_, ⟨rfl, rfl⟩, hS⟩
  · skip
    have c1p := c1
    try simp only [decide_eq_true_eq, decide_eq_false_iff_not, Bool.not_eq_true', Bool.not_eq_false', Bool.or_eq_true, Bool.and_eq_true, Bool.or_eq_false_iff, Bool.and_eq_false_iff, Int.not_lt, Int.not_le] at c1p
    obtain rfl : p = some ⟨b, 0, none⟩ := by rcases hp with h | h; (subst h; simp at c1); exact h
    refine G_seq ?_
    refine G_region ?_
    refine GL_step rfl (PS_move rfl) ?_
    refine GL_step rfl (PS_nilCheck rfl) ?_
    refine GL_step rfl (PS_fieldAddr fa52_0 rfl) ?_
    refine GL_step rfl (PS_load rfl tys49 (.head _) BldV.l0 rfl rfl) ?_
    refine GL_step rfl (PS_move rfl) ?_
    refine GL_step rfl ((let ⟨_, h, _⟩ := inf52; PS_neqp_same Tryd.underlying49 h rfl rfl)) ?_
    refine GL_nil ?_
    refine GQ_sub (.cons (k := 19) rfl (.nil _)) ?_
    refine GQ_then ?_
    refine G_false rfl rfl ?_
    refine G_skip ?_
    refine GQ_end rfl .nil ?_
    intro w1 hS
    have hS := (hS.perm (Pulls.perm (.cons .head .nil))).headL
    exact ⟨_, ⟨rfl, rfl⟩, hS⟩
theorem strings_Builder_grow_spec (b : Nat) (m : Int) (h0 : 0 < m) (h1 : m ≤ 281474976710656) : Ctr Tryd.prog 54 #[.pointer (some ⟨b, 0, none⟩), .int .i64 m] [Res.box b 52 (BldV.enc ⟨some ⟨b, 0, none⟩, ⟨none, 0, 0⟩⟩)] (fun v B => ∃ h', v = .tuple #[] ∧ h'.Z ∧ h'.len = 0 ∧ B = [Res.box b 52 (BldV.enc ⟨some ⟨b, 0, none⟩, h'⟩), Res.own h' 5 1 (([] : Str).flatMap encY)]) := by
  intro w hS0
  refine Ret_body _ _ Tryd.func54 rfl rfl rfl (hS0) ?_
  refine G_seq ?_
  refine G_planN (N := 16) [0, 1, 3, 7, 15, 31, 0, 127, 255, 0, 512, 1536, 3584, 7680, 16383, 32767] mix (by kernel_rfl) rfl ?_
  refine Plan_float 0 rfl rfl (by kernel_rfl) (OK_s (EX_s (PS_move rfl))) ?_
  refine Plan_float 1 rfl rfl (by kernel_rfl) (OK_s (EX_s (PS_nilCheck rfl))) ?_
  refine Plan_float 2 rfl rfl (by kernel_rfl) (OK_s (EX_s (PS_fieldAddr fa52_1 rfl))) ?_
  refine Plan_float 3 rfl rfl (by kernel_rfl) (OK_s (EX_s (PS_load rfl tys50 (.head _) BldV.l1 rfl rfl))) ?_
  refine Plan_float 4 rfl rfl (by kernel_rfl) (OK_s (EX_s (PS_cap_slice rfl Tryd.underlying50 rfl))) ?_
  refine Plan_float 5 rfl rfl (by kernel_rfl) (OK_s (EX_s (PS_mul rfl rfl (IntWalk.i64_in _ (by first | omega | (dsimp only; omega)))))) ?_
  refine Plan_float 6 rfl rfl (by kernel_rfl) (OK_s (EX_s (PS_move rfl))) ?_
  refine Plan_float 7 rfl rfl (by kernel_rfl) (OK_s (EX_s (PS_add rfl rfl (IntWalk.i64_in _ (by first | omega | (dsimp only; omega)))))) ?_
  refine Plan_float 9 rfl rfl (by kernel_rfl) (OK_s (EX_s (PS_move rfl))) ?_
  refine Plan_float 10 rfl rfl (by kernel_rfl) (OK_s (EX_s (PS_nilCheck rfl))) ?_
  refine Plan_float 11 rfl rfl (by kernel_rfl) (OK_s (EX_s (PS_fieldAddr fa52_1 rfl))) ?_
  refine Plan_float 12 rfl rfl (by kernel_rfl) (OK_s (EX_s (PS_load rfl tys50 (.head _) BldV.l1 rfl rfl))) ?_
  refine Plan_float 13 rfl rfl (by kernel_rfl) (OK_s (EX_s (PS_len_slice rfl Tryd.underlying50 rfl))) ?_
  refine Plan_chain 8 rfl (by kernel_rfl) ?_
  refine GL_mkNoZero (ps := #[3]) rfl Tryd.func57 (by kernel_rfl) (by kernel_rfl) (by kernel_rfl) (by kernel_rfl) Tryd.underlying50 sz5 rfl (by first | omega | (dsimp only; omega)) (by first | omega | (dsimp only; omega)) (fun b1 b1c b1x b1l b1k => ?_)
  refine GL_hand rfl ⟨?_, ?_⟩
  · exact (Pend_okv rfl (OK_s (EX_s (PS_len_slice rfl Tryd.underlying50 rfl))) rfl rfl (Pend_okv rfl (OK_s (EX_s (PS_load rfl tys50 (.tail _ (.head _)) BldV.l1 rfl rfl))) rfl rfl (Pend_okv rfl (OK_s (EX_s (PS_fieldAddr fa52_1 rfl))) rfl rfl (Pend_okv rfl (OK_s (EX_s (PS_nilCheck rfl))) rfl rfl (Pend_okv rfl (OK_s (EX_s (PS_move rfl))) rfl rfl (Pend_skip (by kernel_rfl) (Pend_skip (by kernel_rfl) (Pend_skip (by kernel_rfl) (Pend_skip (by kernel_rfl) (Pend_skip (by kernel_rfl) (Pend_skip (by kernel_rfl) (Pend_skip (by kernel_rfl) (Pend_skip (by kernel_rfl) Pend_nil)))))))))))))
  refine Plan_chain 14 rfl (by kernel_rfl) ?_
  refine GL_cutToF flY rfl Tryd.underlying50 sz5 rfl rfl (by first | omega | (dsimp only; omega)) (by first | omega | (dsimp only; omega)) (fun _ => .head) ?_
  refine GL_hand rfl ⟨?_, ?_⟩
  · exact (Pend_skip (by kernel_rfl) (Pend_skip (by kernel_rfl) (Pend_skip (by kernel_rfl) (Pend_skip (by kernel_rfl) (Pend_skip (by kernel_rfl) (Pend_skip (by kernel_rfl) (Pend_skip (by kernel_rfl) (Pend_skip (by kernel_rfl) (Pend_skip (by kernel_rfl) (Pend_skip (by kernel_rfl) (Pend_skip (by kernel_rfl) (Pend_skip (by kernel_rfl) (Pend_skip (by kernel_rfl) Pend_nil)))))))))))))
  refine Plan_float 15 rfl rfl (by kernel_rfl) (OK_s (EX_s (PS_assign rfl))) ?_
  refine Plan_end (by kernel_rfl) ?_
  refine GQ_sub (.cons (k := 0) rfl (.cons (k := 4) rfl (.nil _))) ?_
  refine GQ_then ?_
  refine G_seq ?_
  refine G_region ?_
  refine GL_step rfl (PS_move rfl) ?_
  refine GL_step rfl (PS_move rfl) ?_
  refine GL_step rfl (PS_nilCheck rfl) ?_
  refine GL_step rfl (PS_fieldAddr fa52_1 rfl) ?_
  refine GL_step rfl (PS_load rfl tys50 (.tail _ (.head _)) BldV.l1 rfl rfl) ?_
  refine GL_step rfl (PS_copy0 rfl Tryd.underlying50 sz5 rfl rfl) ?_
  refine GL_nil ?_
  refine GQ_sub (.cons (k := 0) rfl (.cons (k := 4) rfl (.nil _))) ?_
  refine GQ_then ?_
  refine G_region ?_
  refine GL_step rfl (PS_move rfl) ?_
  refine GL_step rfl (PS_move rfl) ?_
  refine GL_step rfl (PS_nilCheck rfl) ?_
  refine GL_step rfl (PS_fieldAddr fa52_1 rfl) ?_
  refine GL_unit (PU_store BldV.l1 rfl rfl rfl sz50 rfl (.tail .head)) ?_
  refine GL_nil ?_
  refine GQ_end rfl .nil ?_
  intro w1 hS
  have hS := (hS.perm (Pulls.perm (.cons (.tail .head) (.cons .head .nil)))).headL
  exact ⟨_, ⟨_, rfl, ⟨by intro a h; cases h; rfl, fun _ => by dsimp only at b1k ⊢; omega⟩, rfl, rfl⟩, hS⟩
theorem strings_Builder_Grow_spec (b : Nat) (m : Int) (h0 : 0 ≤ m) (h1 : m ≤ 281474976710656) : Ctr Tryd.prog 48 #[.pointer (some ⟨b, 0, none⟩), .int .i64 m] [Res.box b 52 (BldV.enc ⟨none, ⟨none, 0, 0⟩⟩)] (fun v B => ∃ h', v = .tuple #[] ∧ h'.Z ∧ h'.len = 0 ∧ B = [Res.box b 52 (BldV.enc ⟨some ⟨b, 0, none⟩, h'⟩), Res.own h' 5 1 (([] : Str).flatMap encY)]) := by
  intro w hS0
  refine Ret_body _ _ Tryd.func48 rfl rfl rfl (hS0) ?_
  refine G_seq ?_
  refine G_region ?_
  refine GL_step rfl (PS_move rfl) ?_
  refine GL_callL rfl cf43 (.cons rfl .nil) (.cons .head .nil) (strings_Builder_copyCheck_spec _ _ _ (.inl rfl)) (fun v1 B hv => ?_)
  obtain ⟨rfl, rfl⟩ := hv
  refine GL_nil ?_
  refine GQ_sub (.cons (k := 0) rfl (.cons (k := 1) rfl (.nil _))) ?_
  refine GQ_then ?_
  refine G_seq ?_
  refine G_seq ?_
  refine G_region ?_
  refine GL_step rfl (PS_move rfl) ?_
  refine GL_step rfl (PS_lss rfl rfl) ?_
  refine GL_nil ?_
  refine GQ_sub (.cons (k := 0) rfl (.cons (k := 1) rfl (.cons (k := 7) rfl (.nil _)))) ?_
  refine GQ_then ?_
  refine G_false rfl (by simp; omega) ?_
  refine G_skip ?_
  refine GQ_sub (.cons (k := 0) rfl (.cons (k := 1) rfl (.nil _))) ?_
  refine GQ_then ?_
  refine G_seq ?_
  refine G_planN (N := 13) [0, 1, 3, 7, 15, 0, 32, 96, 224, 480, 1023, 0, 4095] mix (by kernel_rfl) rfl ?_
  refine Plan_float 0 rfl rfl (by kernel_rfl) (OK_s (EX_s (PS_move rfl))) ?_
  refine Plan_float 1 rfl rfl (by kernel_rfl) (OK_s (EX_s (PS_nilCheck rfl))) ?_
  refine Plan_float 2 rfl rfl (by kernel_rfl) (OK_s (EX_s (PS_fieldAddr fa52_1 rfl))) ?_
  refine Plan_float 3 rfl rfl (by kernel_rfl) (OK_s (EX_s (PS_load rfl tys50 (.head _) BldV.l1 rfl rfl))) ?_
  refine Plan_float 4 rfl rfl (by kernel_rfl) (OK_s (EX_s (PS_cap_slice rfl Tryd.underlying50 rfl))) ?_
  refine Plan_float 5 rfl rfl (by kernel_rfl) (OK_s (EX_s (PS_move rfl))) ?_
  refine Plan_float 6 rfl rfl (by kernel_rfl) (OK_s (EX_s (PS_nilCheck rfl))) ?_
  refine Plan_float 7 rfl rfl (by kernel_rfl) (OK_s (EX_s (PS_fieldAddr fa52_1 rfl))) ?_
  refine Plan_float 8 rfl rfl (by kernel_rfl) (OK_s (EX_s (PS_load rfl tys50 (.head _) BldV.l1 rfl rfl))) ?_
  refine Plan_float 9 rfl rfl (by kernel_rfl) (OK_s (EX_s (PS_len_slice rfl Tryd.underlying50 rfl))) ?_
  refine Plan_float 10 rfl rfl (by kernel_rfl) (OK_s (EX_s (PS_sub rfl rfl (IntWalk.i64_in _ (by first | omega | (dsimp only; omega)))))) ?_
  refine Plan_float 11 rfl rfl (by kernel_rfl) (OK_s (EX_s (PS_move rfl))) ?_
  refine Plan_float 12 rfl rfl (by kernel_rfl) (OK_s (EX_s (PS_lss rfl rfl))) ?_
  refine Plan_end (by kernel_rfl) ?_
  refine GQ_sub (.cons (k := 0) rfl (.cons (k := 1) rfl (.cons (k := 21) rfl (.nil _)))) ?_
  refine GQ_then ?_
  refine G_cond rfl (fun c1 => ?_) (fun c1 => ?_)
  · skip
    have c1p := c1
    try simp only [decide_eq_true_eq, decide_eq_false_iff_not, Bool.not_eq_true', Bool.not_eq_false', Bool.or_eq_true, Bool.and_eq_true, Bool.or_eq_false_iff, Bool.and_eq_false_iff, Int.not_lt, Int.not_le] at c1p
    refine G_region ?_
    refine GL_step rfl (PS_move rfl) ?_
    refine GL_step rfl (PS_move rfl) ?_
    refine GL_callL rfl cf54 (.cons rfl (.cons rfl .nil)) (.cons .head .nil) (strings_Builder_grow_spec _ _ (by dsimp only at *; omega) h1) (fun v2 B hv => ?_)
    obtain ⟨y3, rfl, y4, y5, rfl⟩ := hv
    refine GL_nil ?_
    refine GQ_end rfl .nil ?_
    intro w1 hS
    have hS := (hS.perm (Pulls.perm (.cons .head (.cons .head .nil)))).headL
    exact ⟨_, ⟨_, rfl, by assumption, by assumption, rfl⟩, hS⟩
  · skip
    have c1p := c1
    try simp only [decide_eq_true_eq, decide_eq_false_iff_not, Bool.not_eq_true', Bool.not_eq_false', Bool.or_eq_true, Bool.and_eq_true, Bool.or_eq_false_iff, Bool.and_eq_false_iff, Int.not_lt, Int.not_le] at c1p
    refine G_skip ?_
    refine GQ_end rfl .nil ?_
    intro w1 hS
    have hS := hS.own_nil 5 1
    have hS := (hS.perm (Pulls.perm (.cons (.tail .head) (.cons .head .nil)))).headL
    exact ⟨_, ⟨_, rfl, Hd.Z_nil, rfl, rfl⟩, hS⟩
theorem strings_Builder_WriteString_spec (b : Nat) (p : Option Addr) (h : Hd) (s : Str) (hp : p = none ∨ p = some ⟨b, 0, none⟩) (hz : h.Z) (hl : h.len = s.length) (t : Str) (hb : s.length + t.length < 140737488355000) : Ctr Tryd.prog 34 #[.pointer (some ⟨b, 0, none⟩), vstr t] [Res.box b 52 (BldV.enc ⟨p, h⟩), Res.own h 5 1 (s.flatMap encY)] (fun v B => ∃ p' h', v = .tuple #[.int .i64 t.length, .nilIface] ∧ (p' = none ∨ p' = some ⟨b, 0, none⟩) ∧ h'.Z ∧ h'.len = (s ++ t).length ∧ B = [Res.box b 52 (BldV.enc ⟨p', h'⟩), Res.own h' 5 1 ((s ++ t).flatMap encY)]) := by
  intro w hS0
  refine Ret_body _ _ Tryd.func34 rfl rfl rfl (hS0) ?_
  refine G_seq ?_
  refine G_region ?_
  refine GL_step rfl (PS_assign rfl) ?_
  refine GL_step rfl (PS_assign rfl) ?_
  refine GL_nil ?_
  refine GQ_sub (.cons (k := 0) rfl (.cons (k := 1) rfl (.nil _))) ?_
  refine GQ_then ?_
  refine G_seq ?_
  refine G_region ?_
  refine GL_step rfl (PS_move rfl) ?_
  refine GL_callL rfl cf43 (.cons rfl .nil) (.cons .head .nil) (strings_Builder_copyCheck_spec _ _ _ (by first | assumption | omega)) (fun v1 B hv => ?_)
  obtain ⟨rfl, rfl⟩ := hv
  refine GL_nil ?_
  refine GQ_sub (.cons (k := 0) rfl (.cons (k := 1) rfl (.nil _))) ?_
  refine GQ_then ?_
  refine G_seq ?_
  refine G_region ?_
  refine GL_step rfl (PS_move rfl) ?_
  refine GL_step rfl (PS_move rfl) ?_
  refine GL_step rfl (PS_nilCheck rfl) ?_
  refine GL_step rfl (PS_fieldAddr fa52_1 rfl) ?_
  refine GL_step rfl (PS_load rfl tys50 (.head _) BldV.l1 rfl rfl) ?_
  refine GL_step rfl (PS_move rfl) ?_
  refine GL_appendF flY rfl Tryd.underlying50 sz5 zv5 rfl by5 (by decide) (by decide) rfl rfl (fun _ _ => Src.str Tryd.underlying9) (by dsimp only; omega) (fun _ => (.tail .head)) (fun h2 h2l h2z => ?_)
  have h2z := h2z hz; dsimp only at h2l
  refine GL_step rfl (PS_nilCheck rfl) ?_
  refine GL_step rfl (PS_fieldAddr fa52_1 rfl) ?_
  refine GL_unit (PU_store BldV.l1 rfl rfl rfl sz50 rfl .head) ?_
  refine GL_nil ?_
  refine GQ_sub (.cons (k := 1) rfl (.nil _)) ?_
  refine GQ_then ?_
  refine G_seq ?_
  refine G_region ?_
  refine GL_step rfl (PS_move rfl) ?_
  refine GL_step rfl (PS_len_str rfl Tryd.underlying9 rfl) ?_
  refine GL_step rfl (PS_assign rfl) ?_
  refine GL_step rfl (PS_assign rfl) ?_
  refine GL_nil ?_
  refine GQ_sub (.cons (k := 4) rfl (.cons (k := 5) rfl (.nil _))) ?_
  refine GQ_then ?_
  refine G_ret ?_
  refine GQ_ret rfl (.tmp rfl (.tmp rfl .nil)) ?_
  intro w1 hS
  have hS := (hS.perm (Pulls.perm (.cons .head (.cons .head .nil)))).headL
  exact ⟨_, ⟨_, _, rfl, .inr rfl, by assumption, by simp; omega, by rw [List.flatMap_append]⟩, hS⟩
theorem strings_Builder_String_spec (b : Nat) (p : Option Addr) (h : Hd) (s : Str) (hz : h.Z) (hl : h.len = s.length) (hb : s.length < 140737488355000) : Ctr Tryd.prog 38 #[.pointer (some ⟨b, 0, none⟩)] [Res.box b 52 (BldV.enc ⟨p, h⟩), Res.own h 5 1 (s.flatMap encY)] (fun v B => v = vstr s ∧ B = [Res.box b 52 (BldV.enc ⟨p, h⟩)]) := by
  intro w hS0
  refine Ret_body _ _ Tryd.func38 rfl rfl rfl (hS0) ?_
  refine G_seq ?_
  refine G_region ?_
  refine GL_step rfl (PS_assign rfl) ?_
  refine GL_nil ?_
  refine GQ_sub (.cons (k := 0) rfl (.nil _)) ?_
  refine GQ_then ?_
  refine G_seq ?_
  refine G_planN (N := 12) [0, 1, 3, 7, 15, 0, 32, 96, 224, 480, 1023, 2047] mix (by kernel_rfl) rfl ?_
  refine Plan_float 0 rfl rfl (by kernel_rfl) (OK_s (EX_s (PS_move rfl))) ?_
  refine Plan_float 1 rfl rfl (by kernel_rfl) (OK_s (EX_s (PS_nilCheck rfl))) ?_
  refine Plan_float 2 rfl rfl (by kernel_rfl) (OK_s (EX_s (PS_fieldAddr fa52_1 rfl))) ?_
  refine Plan_float 3 rfl rfl (by kernel_rfl) (OK_s (EX_s (PS_load rfl tys50 (.head _) BldV.l1 rfl rfl))) ?_
  refine Plan_float 4 rfl rfl (by kernel_rfl) (OK_s (EX_s (PS_sliceData rfl (by assumption)))) ?_
  refine Plan_float 5 rfl rfl (by kernel_rfl) (OK_s (EX_s (PS_move rfl))) ?_
  refine Plan_float 6 rfl rfl (by kernel_rfl) (OK_s (EX_s (PS_nilCheck rfl))) ?_
  refine Plan_float 7 rfl rfl (by kernel_rfl) (OK_s (EX_s (PS_fieldAddr fa52_1 rfl))) ?_
  refine Plan_float 8 rfl rfl (by kernel_rfl) (OK_s (EX_s (PS_load rfl tys50 (.head _) BldV.l1 rfl rfl))) ?_
  refine Plan_float 9 rfl rfl (by kernel_rfl) (OK_s (EX_s (PS_len_slice rfl Tryd.underlying50 rfl))) ?_
  refine Plan_chain 10 rfl (by kernel_rfl) ?_
  refine GL_unsafeString rfl Tryd.underlying73 ce5 rfl rfl (by assumption) (by omega) (.tail .head) ?_
  refine GL_hand rfl ⟨?_, ?_⟩
  · exact (Pend_skip (by kernel_rfl) (Pend_skip (by kernel_rfl) (Pend_skip (by kernel_rfl) (Pend_skip (by kernel_rfl) (Pend_skip (by kernel_rfl) (Pend_skip (by kernel_rfl) (Pend_skip (by kernel_rfl) (Pend_skip (by kernel_rfl) (Pend_skip (by kernel_rfl) (Pend_skip (by kernel_rfl) Pend_nil))))))))))
  refine Plan_float 11 rfl rfl (by kernel_rfl) (OK_s (EX_s (PS_assign rfl))) ?_
  refine Plan_end (by kernel_rfl) ?_
  refine GQ_sub (.cons (k := 2) rfl (.nil _)) ?_
  refine GQ_then ?_
  refine G_ret ?_
  refine GQ_ret rfl (.tmp rfl .nil) ?_
  intro w1 hS
  have hS := (hS.perm (Pulls.perm (.cons .head .nil))).headL
  exact ⟨_, ⟨rfl, rfl⟩, hS⟩
theorem strings_Replace_spec (s : Str) (hs : s.length ≤ 70368744000000) (w : World) : Ret Tryd.prog 42 #[vstr s, vstr [255], vstr [255, 255], .int .i64 (-1)] w fun v w' => v = vstr (Page.escape s) ∧ Keep w w' := by
  have hcl := List.count_le_length (a := (255 : UInt8)) (l := s)
  refine Ret_body [] [] Tryd.func42 rfl rfl rfl (St.start w []) ?_
  refine G_seq ?_
  refine G_region ?_
  refine GL_step rfl (PS_assign rfl) ?_
  refine GL_nil ?_
  refine GQ_sub (.cons (k := 0) rfl (.cons (k := 1) rfl (.cons (k := 2) rfl (.cons (k := 3) rfl (.nil _))))) ?_
  refine GQ_then ?_
  refine G_seq ?_
  refine G_seq ?_
  refine G_region ?_
  refine GL_step rfl (PS_move rfl) ?_
  refine GL_step rfl (PS_move rfl) ?_
  refine GL_step rfl (PS_eql_str rfl rfl) ?_
  refine GL_step rfl (PS_move rfl) ?_
  refine GL_gf (t := 19) rfl rfl rfl (fun q => PS_move rfl) ?_
  refine GL_gf (t := 19) rfl rfl rfl (fun q => PS_eql (cvE rfl (by rw [q]; rfl)) rfl) ?_
  refine GL_step rfl (PS_or rfl rfl (fun h => by rw [h]; rfl)) ?_
  refine GL_nil ?_
  refine GQ_sub (.cons (k := 0) rfl (.cons (k := 1) rfl (.cons (k := 2) rfl (.cons (k := 3) rfl (.cons (k := 22) rfl (.nil _)))))) ?_
  refine GQ_then ?_
  refine G_false rfl (by simp) ?_
  refine G_skip ?_
  refine GQ_sub (.cons (k := 0) rfl (.cons (k := 1) rfl (.cons (k := 2) rfl (.cons (k := 3) rfl (.nil _))))) ?_
  refine GQ_then ?_
  refine G_seq ?_
  refine G_seq ?_
  refine G_region ?_
  refine GL_step rfl (PS_move rfl) ?_
  refine GL_step rfl (PS_move rfl) ?_
  refine GL_pure rfl cf47 (.cons rfl (.cons rfl .nil)) (fun w hS => strings_Count_spec _ 255 w) ?_
  refine GL_step rfl (PS_assign rfl) ?_
  refine GL_nil ?_
  refine GQ_sub (.cons (k := 0) rfl (.cons (k := 1) rfl (.cons (k := 2) rfl (.cons (k := 3) rfl (.cons (k := 9) rfl (.nil _)))))) ?_
  refine GQ_then ?_
  refine G_seq ?_
  refine G_region ?_
  refine GL_step rfl (PS_move rfl) ?_
  refine GL_step rfl (PS_eql rfl rfl) ?_
  refine GL_nil ?_
  refine GQ_sub (.cons (k := 0) rfl (.cons (k := 1) rfl (.cons (k := 2) rfl (.cons (k := 3) rfl (.cons (k := 9) rfl (.cons (k := 28) rfl (.nil _))))))) ?_
  refine GQ_then ?_
  refine G_cond rfl (fun c1 => ?_) (fun c1 => ?_)
  · skip
    have c1p := c1
    try simp only [decide_eq_true_eq, decide_eq_false_iff_not, Bool.not_eq_true', Bool.not_eq_false', Bool.or_eq_true, Bool.and_eq_true, Bool.or_eq_false_iff, Bool.and_eq_false_iff, Int.not_lt, Int.not_le] at c1p
    refine G_seq ?_
    refine G_region ?_
    refine GL_step rfl (PS_move rfl) ?_
    refine GL_step rfl (PS_assign rfl) ?_
    refine GL_nil ?_
    refine GQ_sub (.cons (k := 8) rfl (.nil _)) ?_
    refine GQ_then ?_
    refine G_ret ?_
    refine GQ_then_ret ?_
    refine GQ_ret rfl (.tmp rfl .nil) ?_
    intro w1 hS; refine ⟨?_, hS.toKeep⟩; have e : s.count 255 = 0 := by simp at c1; omega
    rw [Page.escape_none _ e]; rfl
  · skip
    have c1p := c1
    try simp only [decide_eq_true_eq, decide_eq_false_iff_not, Bool.not_eq_true', Bool.not_eq_false', Bool.or_eq_true, Bool.and_eq_true, Bool.or_eq_false_iff, Bool.and_eq_false_iff, Int.not_lt, Int.not_le] at c1p
    refine G_seq ?_
    refine G_region ?_
    refine GL_step rfl (PS_move rfl) ?_
    refine GL_step rfl (PS_lss rfl rfl) ?_
    refine GL_step rfl (PS_move rfl) ?_
    refine GL_gf (t := 32) rfl rfl rfl (fun q => PS_move rfl) ?_
    refine GL_gf (t := 32) rfl rfl rfl (fun q => PS_move rfl) ?_
    refine GL_gf (t := 32) rfl rfl rfl (fun q => PS_lss (cvE rfl (by rw [q]; rfl)) (cvE rfl (by rw [q]; rfl))) ?_
    refine GL_step rfl (PS_or rfl rfl (fun h => by rw [h]; rfl)) ?_
    refine GL_nil ?_
    refine GQ_sub (.cons (k := 0) rfl (.cons (k := 1) rfl (.cons (k := 2) rfl (.cons (k := 3) rfl (.cons (k := 9) rfl (.cons (k := 36) rfl (.nil _))))))) ?_
    refine GQ_then ?_
    refine G_true rfl rfl ?_
    refine G_region ?_
    refine GL_step rfl (PS_move rfl) ?_
    refine GL_step rfl (PS_assign rfl) ?_
    refine GL_nil ?_
    refine GQ_sub (.cons (k := 0) rfl (.cons (k := 1) rfl (.cons (k := 2) rfl (.cons (k := 3) rfl (.nil _))))) ?_
    refine GQ_then ?_
    refine G_seq ?_
    refine G_region ?_
    refine GL_alloc rfl zv52 rfl (fun b1 => ?_)
    refine GL_nilF encY 5 1 ?_
    refine GL_nil ?_
    refine GQ_then ?_
    refine G_seq ?_
    refine G_region ?_
    refine GL_step rfl (PS_move rfl) ?_
    refine GL_step rfl (PS_len_str rfl Tryd.underlying9 rfl) ?_
    refine GL_step rfl (PS_move rfl) ?_
    refine GL_step rfl (PS_move rfl) ?_
    refine GL_step rfl (PS_len_str rfl Tryd.underlying9 rfl) ?_
    refine GL_step rfl (PS_move rfl) ?_
    refine GL_step rfl (PS_len_str rfl Tryd.underlying9 rfl) ?_
    refine GL_step rfl (PS_sub rfl rfl (IntWalk.i64_in _ (by (try simp only [List.length_cons, List.length_nil]); omega))) ?_
    refine GL_step rfl (PS_mul rfl rfl (IntWalk.i64_in _ (by (try simp only [List.length_cons, List.length_nil]); omega))) ?_
    refine GL_step rfl (PS_add rfl rfl (IntWalk.i64_in _ (by (try simp only [List.length_cons, List.length_nil]); omega))) ?_
    refine GL_callL rfl cf48 (.cons rfl (.cons rfl .nil)) (.cons (.tail .head) .nil) (strings_Builder_Grow_spec _ _ (by simp only [List.length_cons, List.length_nil]; omega) (by simp only [List.length_cons, List.length_nil]; omega)) (fun v1 B hv => ?_)
    obtain ⟨y2, rfl, y3, y4, rfl⟩ := hv
    refine GL_nil ?_
    refine GQ_sub (.cons (k := 0) rfl (.cons (k := 1) rfl (.cons (k := 2) rfl (.cons (k := 3) rfl (.cons (k := 10) rfl (.nil _)))))) ?_
    refine GQ_then ?_
    refine G_seq ?_
    refine G_region ?_
    refine GL_step rfl (PS_assign rfl) ?_
    refine GL_nil ?_
    refine GQ_then ?_
    refine G_seq ?_
    refine G_seq ?_
    refine G_region ?_
    refine GL_step rfl (PS_move rfl) ?_
    refine GL_step rfl (PS_len_str rfl Tryd.underlying9 rfl) ?_
    refine GL_step rfl (PS_gtr rfl rfl) ?_
    refine GL_nil ?_
    refine GQ_sub (.cons (k := 0) rfl (.cons (k := 1) rfl (.cons (k := 2) rfl (.cons (k := 3) rfl (.cons (k := 10) rfl (.cons (k := 11) rfl (.cons (k := 51) rfl (.nil _)))))))) ?_
    refine GQ_then ?_
    refine G_true rfl (by simp) ?_
    refine G_seq ?_
    refine G_region ?_
    refine GL_step rfl (PS_move rfl) ?_
    refine GL_step rfl (PS_move rfl) ?_
    refine GL_nil ?_
    refine GQ_sub (.cons (k := 0) rfl (.cons (k := 1) rfl (.cons (k := 2) rfl (.cons (k := 10) rfl (.cons (k := 11) rfl (.cons (k := 52) rfl (.cons (k := 53) rfl (.nil _)))))))) ?_
    refine GQ_then ?_
    refine G_block ?_
    refine G_subF (.cons (k := 11) rfl (.cons (k := 53) rfl (.cons (k := 0) rfl (.cons (k := 1) rfl (.cons (k := 2) rfl (.cons (k := 10) rfl (.cons (k := 52) rfl (.nil _)))))))) ?_
    refine G_pull (.tail .head) ?_
    refine G_pull (.tail .head) ?_
    refine G_loop5_ (fun (k : Int) (start : Int) (x : Str) (p : Option Addr) (h : Hd) => Page.RepI s (s.count 255) k start x ∧ (p = none ∨ p = some ⟨b1, 0, none⟩) ∧ h.Z ∧ h.len = x.length) (fun (k : Int) (start : Int) (x : Str) (p : Option Addr) (h : Hd) => ((s.count 255 : Int) - k).toNat) (fun (k : Int) (start : Int) (x : Str) (p : Option Addr) (h : Hd) => [(11, .int .i64 start), (53, .int .i64 k)]) (fun (k : Int) (start : Int) (x : Str) (p : Option Addr) (h : Hd) => [Res.box b1 52 (BldV.enc ⟨p, h⟩), Res.own h 5 1 (x.flatMap encY)]) (0) (0) ([]) (_) (_) ?_ rfl rfl (fun k start x p h hI1 => ?_)
    · exact ⟨Page.RepI.start rfl, .inr rfl, by assumption, by assumption⟩
    obtain ⟨hI11, hp, hz, hl⟩ := hI1; have hk0 := hI11.k0; have hs0 := hI11.s0; have hs1 := hI11.s1; have hxl := hI11.xl
    refine G_seq ?_
    refine G_region ?_
    refine GL_step rfl (PS_lss rfl rfl) ?_
    refine GL_nil ?_
    refine GQ_then ?_
    refine G_seq ?_
    refine G_cond rfl (fun c2 => ?_) (fun c2 => ?_)
    · skip
      have c2p := c2
      try simp only [decide_eq_true_eq, decide_eq_false_iff_not, Bool.not_eq_true', Bool.not_eq_false', Bool.or_eq_true, Bool.and_eq_true, Bool.or_eq_false_iff, Bool.and_eq_false_iff, Int.not_lt, Int.not_le] at c2p
      obtain ⟨i, hi, hlt, hR⟩ := hI11.idx (by omega)
      rw [← hi] at hR hlt
      refine G_skip ?_
      refine GQ_sub (.cons (k := 0) rfl (.cons (k := 1) rfl (.cons (k := 2) rfl (.cons (k := 10) rfl (.cons (k := 11) rfl (.cons (k := 52) rfl (.cons (k := 53) rfl (.nil _)))))))) ?_
      refine GQ_then ?_
      refine G_seq ?_
      refine G_block ?_
      refine G_seq ?_
      refine G_region ?_
      refine GL_step rfl (PS_move rfl) ?_
      refine GL_step rfl (PS_move rfl) ?_
      refine GL_step rfl (PS_move rfl) ?_
      refine GL_step rfl (PS_subSl Tryd.underlying9 rfl rfl (by (try simp only [List.length_cons, List.length_nil]); omega) (by (try simp only [List.length_cons, List.length_nil]); omega)) ?_
      refine GL_step rfl (PS_move rfl) ?_
      refine GL_pure rfl cf49 (.cons rfl (.cons rfl .nil)) (fun w hS => strings_Index_spec _ 255 w) ?_
      refine GL_step rfl (PS_add rfl rfl (IntWalk.i64_in _ (by (try simp only [List.length_cons, List.length_nil]); omega))) ?_
      refine GL_step rfl (PS_assign rfl) ?_
      refine GL_nil ?_
      refine GQ_sub (.cons (k := 0) rfl (.cons (k := 1) rfl (.cons (k := 2) rfl (.cons (k := 10) rfl (.cons (k := 11) rfl (.cons (k := 12) rfl (.cons (k := 52) rfl (.cons (k := 53) rfl (.nil _))))))))) ?_
      refine GQ_then ?_
      refine G_seq ?_
      refine G_region ?_
      refine GL_step rfl (PS_move rfl) ?_
      refine GL_step rfl (PS_move rfl) ?_
      refine GL_step rfl (PS_move rfl) ?_
      refine GL_step rfl (PS_subS Tryd.underlying9 rfl rfl rfl (by (try simp only [List.length_cons, List.length_nil]); omega) (by (try simp only [List.length_cons, List.length_nil]); omega) (by (try simp only [List.length_cons, List.length_nil]); omega)) ?_
      refine GL_callL rfl cf34 (.cons rfl (.cons rfl .nil)) (.cons .head (.cons .head .nil)) (strings_Builder_WriteString_spec _ _ _ _ (by assumption) (by assumption) (by assumption) _ (by (try simp only [List.length_drop, List.length_take, List.length_append, List.length_cons, List.length_nil]); omega)) (fun v6 B hv => ?_)
      obtain ⟨y7, y8, rfl, y9, y10, y11, rfl⟩ := hv
      refine GL_nil ?_
      refine GQ_sub (.cons (k := 0) rfl (.cons (k := 1) rfl (.cons (k := 2) rfl (.cons (k := 10) rfl (.cons (k := 12) rfl (.cons (k := 52) rfl (.cons (k := 53) rfl (.nil _)))))))) ?_
      refine GQ_then ?_
      refine G_seq ?_
      refine G_region ?_
      refine GL_step rfl (PS_move rfl) ?_
      refine GL_callL rfl cf34 (.cons rfl (.cons rfl .nil)) (.cons .head (.cons .head .nil)) (strings_Builder_WriteString_spec _ _ _ _ (by assumption) (by assumption) (by assumption) _ (by (try simp only [List.length_drop, List.length_take, List.length_append, List.length_cons, List.length_nil]); omega)) (fun v12 B hv => ?_)
      obtain ⟨y13, y14, rfl, y15, y16, y17, rfl⟩ := hv
      refine GL_nil ?_
      refine GQ_sub (.cons (k := 0) rfl (.cons (k := 1) rfl (.cons (k := 2) rfl (.cons (k := 10) rfl (.cons (k := 12) rfl (.cons (k := 52) rfl (.cons (k := 53) rfl (.nil _)))))))) ?_
      refine GQ_then ?_
      refine G_region ?_
      refine GL_step rfl (PS_move rfl) ?_
      refine GL_step rfl (PS_move rfl) ?_
      refine GL_step rfl (PS_len_str rfl Tryd.underlying9 rfl) ?_
      refine GL_step rfl (PS_add rfl rfl (IntWalk.i64_in _ (by (try simp only [List.length_cons, List.length_nil]); omega))) ?_
      refine GL_step rfl (PS_assign rfl) ?_
      refine GL_nil ?_
      refine GQ_sub (.cons (k := 0) rfl (.cons (k := 1) rfl (.cons (k := 2) rfl (.cons (k := 10) rfl (.cons (k := 11) rfl (.cons (k := 52) rfl (.cons (k := 53) rfl (.nil _)))))))) ?_
      refine GQ_block ?_
      refine GQ_then ?_
      refine G_region ?_
      refine GL_step rfl (PS_add rfl rfl (IntWalk.i64_in _ (by (try simp only [List.length_cons, List.length_nil]); omega))) ?_
      refine GL_step rfl (PS_move rfl) ?_
      refine GL_nil ?_
      refine GQ_sub (.cons (k := 0) rfl (.cons (k := 1) rfl (.cons (k := 2) rfl (.cons (k := 10) rfl (.cons (k := 11) rfl (.cons (k := 52) rfl (.cons (k := 53) rfl (.nil _)))))))) ?_
      refine GQ_next5_ (k + 1) _ _ _ _ ?_ ?_ (.cons (k := 11) rfl (.cons (k := 53) rfl (.cons (k := 0) rfl (.cons (k := 1) rfl (.cons (k := 2) rfl (.cons (k := 10) rfl (.cons (k := 52) rfl (.nil _)))))))) (.refl _)
      · exact ⟨hR, by assumption, by assumption, by assumption⟩
      · omega
    · skip
      have c2p := c2
      try simp only [decide_eq_true_eq, decide_eq_false_iff_not, Bool.not_eq_true', Bool.not_eq_false', Bool.or_eq_true, Bool.and_eq_true, Bool.or_eq_false_iff, Bool.and_eq_false_iff, Int.not_lt, Int.not_le] at c2p
      refine G_exit ?_
      refine GQ_then_exit ?_
      refine GQ_then_exit ?_
      refine GQ_block_exit ?_
      refine GQ_sub (.cons (k := 0) rfl (.cons (k := 10) rfl (.cons (k := 11) rfl (.nil _)))) ?_
      refine GQ_then ?_
      refine G_seq ?_
      refine G_region ?_
      refine GL_step rfl (PS_move rfl) ?_
      refine GL_step rfl (PS_move rfl) ?_
      refine GL_step rfl (PS_subSl Tryd.underlying9 rfl rfl (by (try simp only [List.length_cons, List.length_nil]); omega) (by (try simp only [List.length_cons, List.length_nil]); omega)) ?_
      refine GL_callL rfl cf34 (.cons rfl (.cons rfl .nil)) (.cons .head (.cons .head .nil)) (strings_Builder_WriteString_spec _ _ _ _ (by assumption) (by assumption) (by assumption) _ (by (try simp only [List.length_drop, List.length_take, List.length_append, List.length_cons, List.length_nil]); omega)) (fun v18 B hv => ?_)
      obtain ⟨y19, y20, rfl, y21, y22, y23, rfl⟩ := hv
      refine GL_nil ?_
      refine GQ_sub (.cons (k := 10) rfl (.nil _)) ?_
      refine GQ_then ?_
      refine G_seq ?_
      refine G_region ?_
      refine GL_callL rfl cf38 (.cons rfl .nil) (.cons .head (.cons .head .nil)) (strings_Builder_String_spec _ _ _ _ (by assumption) (by assumption) (by (try simp only [List.length_append, List.length_drop]); omega)) (fun v24 B hv => ?_)
      obtain ⟨rfl, rfl⟩ := hv
      refine GL_step rfl (PS_assign rfl) ?_
      refine GL_nil ?_
      refine GQ_sub (.cons (k := 8) rfl (.nil _)) ?_
      refine GQ_then ?_
      refine G_ret ?_
      refine GQ_ret rfl (.tmp rfl .nil) ?_
      intro w1 hS; refine ⟨?_, hS.toKeep⟩; rw [← hI11.done (by omega)]; rfl
theorem strings_ReplaceAll_spec (s : Str) (hs : s.length ≤ 70368744000000) (w : World) : Ret Tryd.prog 32 #[vstr s, vstr [255], vstr [255, 255]] w fun v w' => v = vstr (Page.escape s) ∧ Keep w w' := by
  refine Ret_body [] [] Tryd.func32 rfl rfl rfl (St.start w []) ?_
  refine G_seq ?_
  refine G_region ?_
  refine GL_step rfl (PS_assign rfl) ?_
  refine GL_nil ?_
  refine GQ_sub (.cons (k := 0) rfl (.cons (k := 1) rfl (.cons (k := 2) rfl (.nil _)))) ?_
  refine GQ_then ?_
  refine G_seq ?_
  refine G_region ?_
  refine GL_step rfl (PS_move rfl) ?_
  refine GL_step rfl (PS_move rfl) ?_
  refine GL_step rfl (PS_move rfl) ?_
  refine GL_pure rfl cf42 (.cons rfl (.cons rfl (.cons rfl (.cons rfl .nil)))) (fun w hS => strings_Replace_spec _ (by first | assumption | omega) w) ?_
  refine GL_step rfl (PS_assign rfl) ?_
  refine GL_nil ?_
  refine GQ_sub (.cons (k := 6) rfl (.nil _)) ?_
  refine GQ_then ?_
  refine G_ret ?_
  refine GQ_ret rfl (.tmp rfl .nil) ?_
  intro w1 hS; refine ⟨?_, hS.toKeep⟩; rfl
theorem telnet_Escape_spec (s : Str) (hs : s.length ≤ 70368744000000) (w : World) : Ret Tryd.prog 21 #[vstr s] w fun v w' => v = vstr (Page.escape s) ∧ Keep w w' := by
  refine Ret_body [] [] Tryd.func21 rfl rfl rfl (St.start w []) ?_
  refine G_seq ?_
  refine G_region ?_
  refine GL_step rfl (PS_assign rfl) ?_
  refine GL_nil ?_
  refine GQ_sub (.cons (k := 0) rfl (.nil _)) ?_
  refine GQ_then ?_
  refine G_seq ?_
  refine G_region ?_
  refine GL_step rfl (PS_move rfl) ?_
  refine GL_pure rfl cf32 (.cons rfl (.cons rfl (.cons rfl .nil))) (fun w hS => strings_ReplaceAll_spec _ (by first | assumption | omega) w) ?_
  refine GL_step rfl (PS_assign rfl) ?_
  refine GL_nil ?_
  refine GQ_sub (.cons (k := 2) rfl (.nil _)) ?_
  refine GQ_then ?_
  refine G_ret ?_
  refine GQ_ret rfl (.tmp rfl .nil) ?_
  intro w1 hS; refine ⟨?_, hS.toKeep⟩; rfl
theorem pager_Flow_spec {t0 : Nat} (p : PageV) (qs : List Str) (top : Int) (hs : ∀ s ∈ qs, s.length ≤ 70368744000000) : CtrR Tryd.prog 22 #[.agg p.enc.toArray, .int .i64 top] [] (fun w => Rd w p.wait t0 1 (qs.flatMap encS) ∧ p.wait.len ≤ p.wait.cap) (fun v B => ((!Page.good p || decide (top < 0) || decide (200 < top)) = true ∧ v = .tuple #[.agg p.enc.toArray, .int .i64 2] ∧ B = []) ∨ ((!Page.good p || decide (top < 0) || decide (200 < top)) = false ∧ ∃ (T : Nat) (h' g : Hd) (zs : List Str), v = .tuple #[.agg (PageV.enc ⟨h', (Page.flow top qs (Page.of p)).1.shown, (Page.flow top qs (Page.of p)).1.asking, (Page.flow top qs (Page.of p)).1.ring, (Page.flow top qs (Page.of p)).1.cut⟩).toArray, .int .i64 0] ∧ h'.len = (Page.flow top qs (Page.of p)).2.length ∧ OrQ T h' (Page.flow top qs (Page.of p)).2 t0 p.wait qs 9 g zs ∧ B = [Res.own g 9 1 (zs.flatMap encS)])) := by
  intro w hS0 hH
  obtain ⟨r0, k0⟩ := hH
  have hl0 := r0.len1 flS (by decide)
  refine Ret_body _ _ Tryd.func22 rfl rfl rfl (hS0) ?_
  refine G_seq ?_
  refine G_region ?_
  refine GL_box rfl rfl rfl (fun b1 => ?_)
  refine GL_alloc rfl zv24 rfl (fun b2 => ?_)
  refine GL_step rfl (PS_assign rfl) ?_
  refine GL_nil ?_
  refine GQ_sub (.cons (k := 1) rfl (.cons (k := 2) rfl (.cons (k := 4) rfl (.nil _)))) ?_
  refine GQ_then ?_
  refine G_seq ?_
  refine G_seq ?_
  refine G_region ?_
  refine GL_step rfl (PS_loadA rfl tya24 (.tail _ (.head _)) (Lens.id PageV.fl.len PageV.fl.one) rfl) ?_
  refine GL_pure rfl cf11 (.cons rfl .nil) (fun w hS => pager_Good_spec _ w) ?_
  refine GL_step rfl (PS_not rfl) ?_
  refine GL_step rfl (PS_move rfl) ?_
  refine GL_gf (t := 10) rfl rfl rfl (fun q => PS_move rfl) ?_
  refine GL_gf (t := 10) rfl rfl rfl (fun q => PS_lss (cvE rfl (by rw [q]; rfl)) rfl) ?_
  refine GL_step rfl (PS_or rfl rfl (fun h => by rw [h]; rfl)) ?_
  refine GL_step rfl (PS_move rfl) ?_
  refine GL_gf (t := 14) rfl rfl rfl (fun q => PS_move rfl) ?_
  refine GL_gf (t := 14) rfl rfl rfl (fun q => PS_gtr (cvE rfl (by rw [q]; rfl)) rfl) ?_
  refine GL_step rfl (PS_or rfl rfl (fun h => by rw [h]; rfl)) ?_
  refine GL_nil ?_
  refine GQ_sub (.cons (k := 1) rfl (.cons (k := 2) rfl (.cons (k := 4) rfl (.cons (k := 17) rfl (.nil _))))) ?_
  refine GQ_then ?_
  refine G_cond rfl (fun c1 => ?_) (fun c1 => ?_)
  · skip
    have c1p := c1
    try simp only [decide_eq_true_eq, decide_eq_false_iff_not, Bool.not_eq_true', Bool.not_eq_false', Bool.or_eq_true, Bool.and_eq_true, Bool.or_eq_false_iff, Bool.and_eq_false_iff, Int.not_lt, Int.not_le] at c1p
    refine G_seq ?_
    refine G_region ?_
    refine GL_step rfl (PS_loadA rfl tya24 (.tail _ (.head _)) (Lens.id PageV.fl.len PageV.fl.one) rfl) ?_
    refine GL_unit (PU_store (Lens.id PageV.fl.len PageV.fl.one) rfl rfl rfl sz24 rfl .head) ?_
    refine GL_step rfl (PS_assign rfl) ?_
    refine GL_nil ?_
    refine GQ_sub (.cons (k := 4) rfl (.cons (k := 5) rfl (.nil _))) ?_
    refine GQ_then ?_
    refine G_ret ?_
    refine GQ_then_ret ?_
    refine GQ_ret rfl (.cell rfl (.head _) (.inl ⟨(by rw [PageV.fl.len]; exact tya24), rfl⟩) (.tmp rfl .nil)) ?_
    intro w1 hS
    have hS := (hS.perm (Pulls.perm .nil)).headL
    exact ⟨_, .inl ⟨c1, rfl, rfl⟩, hS⟩
  · skip
    have c1p := c1
    try simp only [decide_eq_true_eq, decide_eq_false_iff_not, Bool.not_eq_true', Bool.not_eq_false', Bool.or_eq_true, Bool.and_eq_true, Bool.or_eq_false_iff, Bool.and_eq_false_iff, Int.not_lt, Int.not_le] at c1p
    have hgd : Page.good p = true ∧ 0 ≤ top ∧ top ≤ 200 := by simp at c1; exact ⟨c1.1.1, by omega, by omega⟩
    refine G_skip ?_
    refine GQ_sub (.cons (k := 1) rfl (.cons (k := 2) rfl (.cons (k := 4) rfl (.nil _)))) ?_
    refine GQ_then ?_
    refine G_seq ?_
    refine G_block ?_
    refine G_subF (.cons (k := 1) rfl (.cons (k := 2) rfl (.cons (k := 4) rfl (.nil _)))) ?_
    refine G_nilF encS 9 1 ?_
    refine G_pull (.tail (.tail .head)) ?_
    refine G_pull (.tail .head) ?_
    refine G_loop9_ (fun (rest : List Str) (sh : Int) (ak : Bool) (ring : Str) (ct : Bool) (T : Nat) (hx : Hd) (g : Hd) (zs : List Str) => Page.FI top qs (Page.of p) rest hx ⟨sh, ak, ring, ct⟩ ∧ OrQ T hx rest t0 p.wait qs 9 g zs) (fun (rest : List Str) (sh : Int) (ak : Bool) (ring : Str) (ct : Bool) (T : Nat) (hx : Hd) (g : Hd) (zs : List Str) => rest.length) (fun (rest : List Str) (sh : Int) (ak : Bool) (ring : Str) (ct : Bool) (T : Nat) (hx : Hd) (g : Hd) (zs : List Str) => []) (fun (rest : List Str) (sh : Int) (ak : Bool) (ring : Str) (ct : Bool) (T : Nat) (hx : Hd) (g : Hd) (zs : List Str) => [Res.own g 9 1 (zs.flatMap encS), Res.box b1 24 (PageV.enc ⟨hx, sh, ak, ring, ct⟩)]) (qs) (p.shown) (p.asking) (p.ring) (p.cut) (t0) (p.wait) (_) (_) ?_ rfl rfl (fun rest sh ak ring ct T hx g zs hI1 => ?_)
    · exact ⟨Page.FI.start hgd.1 hl0 hs, .inl ⟨rfl, rfl, rfl, rfl, rfl⟩⟩
    obtain ⟨hI11, hor⟩ := hI1; have hl := hI11.hl; have hn := hI11.n; have hr := hI11.ring; have hs0 := hI11.s0; have hs1 := hI11.s1; dsimp only at hr hs0 hs1
    refine G_seq ?_
    refine G_seq ?_
    refine G_region ?_
    refine GL_step rfl (PS_fieldAddr fa24_0 rfl) ?_
    refine GL_step rfl (PS_load rfl tys22 (.tail _ (.head _)) PageV.l0 rfl rfl) ?_
    refine GL_step rfl (PS_len_slice rfl Tryd.underlying22 rfl) ?_
    refine GL_step rfl (PS_gtr rfl rfl) ?_
    refine GL_step rfl (PS_move rfl) ?_
    refine GL_gt (t := 23) rfl rfl rfl (fun q => PS_fieldAddr fa24_2 rfl) ?_
    refine GL_gt (t := 23) rfl rfl rfl (fun q => PS_load (cvE rfl q) tys4 (.tail _ (.head _)) PageV.l2 rfl rfl) ?_
    refine GL_gt (t := 23) rfl rfl rfl (fun q => PS_not (cvE rfl q)) ?_
    refine GL_step rfl (PS_and rfl rfl (fun h => h)) ?_
    refine GL_step rfl (PS_move rfl) ?_
    refine GL_gt (t := 28) rfl rfl rfl (fun q => PS_fieldAddr fa24_4 rfl) ?_
    refine GL_gt (t := 28) rfl rfl rfl (fun q => PS_load (cvE rfl q) tys4 (.tail _ (.head _)) PageV.l4 rfl rfl) ?_
    refine GL_gt (t := 28) rfl rfl rfl (fun q => PS_not (cvE rfl q)) ?_
    refine GL_step rfl (PS_and rfl rfl (fun h => h)) ?_
    refine GL_nil ?_
    refine GQ_sub (.cons (k := 1) rfl (.cons (k := 2) rfl (.cons (k := 4) rfl (.cons (k := 32) rfl (.nil _))))) ?_
    refine GQ_then ?_
    refine G_cond rfl (fun c2 => ?_) (fun c2 => ?_)
    · skip
      have c2p := c2
      try simp only [decide_eq_true_eq, decide_eq_false_iff_not, Bool.not_eq_true', Bool.not_eq_false', Bool.or_eq_true, Bool.and_eq_true, Bool.or_eq_false_iff, Bool.and_eq_false_iff, Int.not_lt, Int.not_le] at c2p
      have hc3 : 0 < rest.length ∧ ak = false ∧ ct = false := by simp at c2; exact ⟨by omega, c2.1.2, c2.2⟩
      obtain ⟨hc0, hak, hct⟩ := hc3
      obtain ⟨q, r, rfl⟩ := Line.cons_of (qs := rest) (by omega)
      refine G_skip ?_
      refine GQ_sub (.cons (k := 1) rfl (.cons (k := 2) rfl (.cons (k := 4) rfl (.nil _)))) ?_
      refine GQ_then ?_
      refine G_block ?_
      refine G_seq ?_
      refine G_seq ?_
      refine G_region ?_
      refine GL_step rfl (PS_move rfl) ?_
      refine GL_step rfl (PS_gtr rfl rfl) ?_
      refine GL_step rfl (PS_move rfl) ?_
      refine GL_gt (t := 35) rfl rfl rfl (fun q => PS_fieldAddr fa24_1 rfl) ?_
      refine GL_gt (t := 35) rfl rfl rfl (fun q => PS_load (cvE rfl q) tys3 (.tail _ (.head _)) PageV.l1 rfl rfl) ?_
      refine GL_gt (t := 35) rfl rfl rfl (fun q => PS_move rfl) ?_
      refine GL_gt (t := 35) rfl rfl rfl (fun q => PS_geq (cvE rfl q) (cvE rfl q)) ?_
      refine GL_step rfl (PS_and rfl rfl (fun h => h)) ?_
      refine GL_nil ?_
      refine GQ_sub (.cons (k := 1) rfl (.cons (k := 2) rfl (.cons (k := 4) rfl (.cons (k := 40) rfl (.nil _))))) ?_
      refine GQ_then ?_
      refine G_cond rfl (fun c3 => ?_) (fun c3 => ?_)
      · skip
        have c3p := c3
        try simp only [decide_eq_true_eq, decide_eq_false_iff_not, Bool.not_eq_true', Bool.not_eq_false', Bool.or_eq_true, Bool.and_eq_true, Bool.or_eq_false_iff, Bool.and_eq_false_iff, Int.not_lt, Int.not_le] at c3p
        refine G_seq ?_
        refine G_region ?_
        refine GL_step rfl (PS_fieldAddr fa24_2 rfl) ?_
        refine GL_unit (PU_store PageV.l2 rfl rfl rfl sz4 rfl (.tail .head)) ?_
        refine GL_nil ?_
        refine GQ_sub (.cons (k := 2) rfl (.cons (k := 4) rfl (.nil _))) ?_
        refine GQ_then ?_
        refine G_seq ?_
        refine G_region ?_
        refine GL_step rfl (PS_loadA rfl tya24 (.tail _ (.head _)) (Lens.id PageV.fl.len PageV.fl.one) rfl) ?_
        refine GL_pure rfl cf13 (.cons rfl (.cons rfl .nil)) (fun w hS => pager_Send_spec _ _ (by first | omega | (have h1 := Page.escape_len ((q :: r).getD (0 : Int).toNat []); have h2 := hI11.len ((q :: r).getD (0 : Int).toNat []) (by simp); simp only [List.length_append, List.length_cons, List.length_nil] at *; omega)) w) ?_
        refine GL_step rfl (PS_move rfl) ?_
        refine GL_step rfl (PS_extract rfl rfl) ?_
        refine GL_step rfl (PS_extract rfl rfl) ?_
        refine GL_unit (PU_store (Lens.id PageV.fl.len PageV.fl.one) rfl rfl rfl sz24 rfl (.tail .head)) ?_
        refine GL_nil ?_
        refine GQ_sub (.cons (k := 2) rfl (.cons (k := 4) rfl (.nil _))) ?_
        refine GQ_then ?_
        refine G_exit ?_
        refine GQ_then_exit ?_
        refine GQ_block_other rfl ?_
        refine GQ_then_exit ?_
        refine GQ_block_exit ?_
        refine GQ_then ?_
        refine G_seq ?_
        refine G_region ?_
        refine GL_step rfl (PS_loadA rfl tya24 (.tail _ (.head _)) (Lens.id PageV.fl.len PageV.fl.one) rfl) ?_
        refine GL_unit (PU_store (Lens.id PageV.fl.len PageV.fl.one) rfl rfl rfl sz24 rfl (.tail (.tail .head))) ?_
        refine GL_step rfl (PS_assign rfl) ?_
        refine GL_nil ?_
        refine GQ_sub (.cons (k := 4) rfl (.cons (k := 5) rfl (.nil _))) ?_
        refine GQ_then ?_
        refine G_ret ?_
        refine GQ_ret rfl (.cell rfl (.tail _ (.tail _ (.head _))) (.inl ⟨(by rw [PageV.fl.len]; exact tya24), rfl⟩) (.tmp rfl .nil)) ?_
        intro w1 hS
        have hS := (hS.perm (Pulls.perm (.cons .head .nil))).headL
        have e := hI11.asks hak hct c3
        exact ⟨_, .inr ⟨c1, T, hx, g, zs, (by first | (rw [e]; done) | (rw [e]; rfl)), (by rw [e]; exact hI11.hl), (by rw [e]; exact hor), rfl⟩, hS⟩
      · skip
        have c3p := c3
        try simp only [decide_eq_true_eq, decide_eq_false_iff_not, Bool.not_eq_true', Bool.not_eq_false', Bool.or_eq_true, Bool.and_eq_true, Bool.or_eq_false_iff, Bool.and_eq_false_iff, Int.not_lt, Int.not_le] at c3p
        refine G_skip ?_
        refine GQ_sub (.cons (k := 1) rfl (.cons (k := 2) rfl (.cons (k := 4) rfl (.nil _)))) ?_
        refine GQ_then ?_
        refine G_seq ?_
        refine G_region ?_
        refine GL_step rfl (PS_fieldAddr fa24_0 rfl) ?_
        refine GL_step rfl (PS_load rfl tys22 (.tail _ (.head _)) PageV.l0 rfl rfl) ?_
        refine GL_step rfl (PS_idxS is22 (by decide) (KnOr hor (Kn.old r0) (Kn.own (.head _))) rfl rfl (by omega) (by omega)) ?_
        refine GL_step rfl (PS_ldStr rfl tys9 (KnOr hor (Kn.old r0) (Kn.own (.head _))) (by simp)) ?_
        refine GL_step rfl (PS_assign rfl) ?_
        refine GL_nil ?_
        refine GQ_sub (.cons (k := 1) rfl (.cons (k := 2) rfl (.cons (k := 4) rfl (.cons (k := 6) rfl (.nil _))))) ?_
        refine GQ_then ?_
        refine G_seq ?_
        refine G_region ?_
        refine GL_step rfl (PS_fieldAddr fa24_0 rfl) ?_
        refine GL_step rfl (PS_load rfl tys22 (.tail _ (.head _)) PageV.l0 rfl rfl) ?_
        refine GL_step rfl (PS_subHl Tryd.underlying22 sz9 rfl rfl (by decide) (by first | omega | (have h1 := Page.escape_len ((q :: r).getD (0 : Int).toNat []); have h2 := hI11.len ((q :: r).getD (0 : Int).toNat []) (by simp); simp only [List.length_append, List.length_cons, List.length_nil] at *; omega))) ?_
        refine GL_callR rfl cf30 (.cons rfl .nil) .nil (slices_Clone_string_string_spec _ r (by simp only [List.length_cons] at *; omega)) (fun w hS => by have h := (Kn.cut (l := 1) (r := hx.len) flS (KnOr hor (Kn.old r0) (Kn.own (.head _))) (by omega) (Nat.le_refl _) (KnCOr hor (KnC.of k0) (KnC.own (.head _)))) w hS; rw [show (((q :: r).take hx.len).drop 1) = r from by rw [List.take_of_length_le (by simp only [List.length_cons] at *; omega)]; rfl] at h; exact h) (fun v2 B hv => ?_)
        obtain ⟨y3, rfl, y4, rfl⟩ := hv
        refine GL_step rfl (PS_fieldAddr fa24_0 rfl) ?_
        refine GL_unit (PU_store PageV.l0 rfl rfl rfl sz22 rfl (.tail (.tail .head))) ?_
        refine GL_nil ?_
        refine GQ_sub (.cons (k := 1) rfl (.cons (k := 2) rfl (.cons (k := 4) rfl (.cons (k := 6) rfl (.nil _))))) ?_
        refine GQ_then ?_
        refine G_seq ?_
        refine G_region ?_
        refine GL_step rfl (PS_fieldAddr fa24_1 rfl) ?_
        refine GL_step rfl (PS_load rfl tys3 (.tail _ (.tail _ (.head _))) PageV.l1 rfl rfl) ?_
        refine GL_step rfl (PS_add rfl rfl (IntWalk.i64_in _ (by first | omega | (have h1 := Page.escape_len ((q :: r).getD (0 : Int).toNat []); have h2 := hI11.len ((q :: r).getD (0 : Int).toNat []) (by simp); simp only [List.length_append, List.length_cons, List.length_nil] at *; omega)))) ?_
        refine GL_step rfl (PS_min2 rfl rfl) ?_
        refine GL_step rfl (PS_fieldAddr fa24_1 rfl) ?_
        refine GL_unit (PU_store PageV.l1 rfl rfl rfl sz3 rfl (.tail (.tail .head))) ?_
        refine GL_nil ?_
        refine GQ_sub (.cons (k := 1) rfl (.cons (k := 2) rfl (.cons (k := 4) rfl (.cons (k := 6) rfl (.nil _))))) ?_
        refine GQ_then ?_
        refine G_planN (N := 9) [0, 0, 2, 6, 15, 31, 63, 63, 127] mix (by kernel_rfl) rfl ?_
        refine Plan_float 0 rfl rfl (by kernel_rfl) (OK_s (EX_s (PS_loadA rfl tya24 (.tail _ (.tail _ (.head _))) (Lens.id PageV.fl.len PageV.fl.one) rfl))) ?_
        refine Plan_float 1 rfl rfl (by kernel_rfl) (OK_s (EX_s (PS_move rfl))) ?_
        refine Plan_float 2 rfl rfl (by kernel_rfl) (OK_s (EX_c (PC_of cf21 (.cons rfl .nil) (fun w hS => telnet_Escape_spec _ (hI11.len _ (by simp)) w)))) ?_
        refine Plan_float 3 rfl rfl (by kernel_rfl) (OK_s (EX_s (PS_add_str rfl rfl (by first | omega | (have h1 := Page.escape_len ((q :: r).getD (0 : Int).toNat []); have h2 := hI11.len ((q :: r).getD (0 : Int).toNat []) (by simp); simp only [List.length_append, List.length_cons, List.length_nil] at *; omega))))) ?_
        refine Plan_float 4 rfl rfl (by kernel_rfl) (OK_s (EX_c (PC_of cf13 (.cons rfl (.cons rfl .nil)) (fun w hS => pager_Send_spec _ _ (by first | omega | (have h1 := Page.escape_len ((q :: r).getD (0 : Int).toNat []); have h2 := hI11.len ((q :: r).getD (0 : Int).toNat []) (by simp); simp only [List.length_append, List.length_cons, List.length_nil] at *; omega)) w)))) ?_
        refine Plan_float 5 rfl rfl (by kernel_rfl) (OK_s (EX_s (PS_move rfl))) ?_
        refine Plan_float 6 rfl rfl (by kernel_rfl) (OK_s (EX_s (PS_extract rfl rfl))) ?_
        refine Plan_float 7 rfl rfl (by kernel_rfl) (OK_s (EX_s (PS_extract rfl rfl))) ?_
        refine Plan_chain 8 rfl (by kernel_rfl) ?_
        refine GL_unit (PU_store (Lens.id PageV.fl.len PageV.fl.one) rfl rfl rfl sz24 rfl (.tail (.tail .head))) ?_
        refine GL_hand0 rfl ⟨?_, ?_⟩
        · exact (Pend_okv rfl (OK_s (EX_s (PS_extract rfl rfl))) rfl rfl (Pend_skip (by kernel_rfl) (Pend_skip (by kernel_rfl) (Pend_skip (by kernel_rfl) (Pend_skip (by kernel_rfl) (Pend_skip (by kernel_rfl) (Pend_skip (by kernel_rfl) (Pend_skip (by kernel_rfl) Pend_nil))))))))
        refine Plan_end (by kernel_rfl) ?_
        refine GQ_sub (.cons (k := 1) rfl (.cons (k := 2) rfl (.cons (k := 4) rfl (.nil _)))) ?_
        refine GQ_block ?_
        refine GQ_pulls (.cons .head (.cons (.tail .head) (.cons (.tail .head) .nil))) ?_
        refine GQ_dropr ?_
        refine GQ_next9_ (r) _ _ _ _ (9) _ _ (r) ?_ ?_ (.cons (k := 1) rfl (.cons (k := 2) rfl (.cons (k := 4) rfl (.nil _)))) (.refl _)
        · exact ⟨hI11.next hak hct c3 (by assumption) rfl, .inr ⟨rfl, rfl, rfl⟩⟩
        · simp only [List.length_cons]; omega
    · skip
      have c2p := c2
      try simp only [decide_eq_true_eq, decide_eq_false_iff_not, Bool.not_eq_true', Bool.not_eq_false', Bool.or_eq_true, Bool.and_eq_true, Bool.or_eq_false_iff, Bool.and_eq_false_iff, Int.not_lt, Int.not_le] at c2p
      refine G_exit ?_
      refine GQ_then_exit ?_
      refine GQ_then_exit ?_
      refine GQ_block_exit ?_
      refine GQ_sub (.cons (k := 2) rfl (.cons (k := 4) rfl (.nil _))) ?_
      refine GQ_then ?_
      refine G_seq ?_
      refine G_region ?_
      refine GL_step rfl (PS_loadA rfl tya24 (.tail _ (.head _)) (Lens.id PageV.fl.len PageV.fl.one) rfl) ?_
      refine GL_unit (PU_store (Lens.id PageV.fl.len PageV.fl.one) rfl rfl rfl sz24 rfl (.tail (.tail .head))) ?_
      refine GL_step rfl (PS_assign rfl) ?_
      refine GL_nil ?_
      refine GQ_sub (.cons (k := 4) rfl (.cons (k := 5) rfl (.nil _))) ?_
      refine GQ_then ?_
      refine G_ret ?_
      refine GQ_ret rfl (.cell rfl (.tail _ (.tail _ (.head _))) (.inl ⟨(by rw [PageV.fl.len]; exact tya24), rfl⟩) (.tmp rfl .nil)) ?_
      intro w1 hS
      have hS := (hS.perm (Pulls.perm (.cons .head .nil))).headL
      have e := hI11.endsB c2
      exact ⟨_, .inr ⟨c1, T, hx, g, zs, (by first | (rw [e]; done) | (rw [e]; rfl)), (by rw [e]; exact hI11.hl), (by rw [e]; exact hor), rfl⟩, hS⟩
theorem keep_shows_spec  (w : World) : Ret Tryd.prog 20 #[] w fun v w' => v = .bool true ∧ Keep w w' := by
  refine Ret_body [] [] Tryd.func20 rfl rfl rfl (St.start w []) ?_
  refine G_seq ?_
  refine G_region ?_
  refine GL_step rfl (PS_assign rfl) ?_
  refine GL_nil ?_
  refine GQ_sub (.nil _) ?_
  refine GQ_then ?_
  refine G_seq ?_
  refine G_region ?_
  refine GL_step rfl (PS_build pl24 zv24 rfl .nil) ?_
  refine GL_callR rfl cf8 (.cons rfl (.cons rfl .nil)) .nil (pager_Tell_spec (t0 := 0) _ [] _) (fun w hS => (fun w _ => Rd.nil w _ _) w hS) (fun v1 B hv => ?_)
  rcases hv with ⟨y2, rfl, rfl⟩ | ⟨y3, y4, rfl, rfl⟩ | ⟨y5, y6, y7, rfl, rfl⟩ | ⟨y8, y9, y10, y11, rfl, y12, rfl⟩
  · exact absurd y2 (by decide)
  · exact absurd y4 (by decide)
  · exact absurd y7 (by decide)
  · skip
    refine GL_step rfl (PS_move rfl) ?_
    refine GL_step rfl (PS_extract rfl rfl) ?_
    refine GL_step rfl (PS_extract rfl rfl) ?_
    refine GL_alloc rfl zv24 rfl (fun b1 => ?_)
    refine GL_unit (PU_store (Lens.id PageV.fl.len PageV.fl.one) rfl rfl rfl sz24 rfl .head) ?_
    refine GL_step rfl (PS_assign rfl) ?_
    refine GL_nil ?_
    refine GQ_sub (.cons (k := 1) rfl (.cons (k := 2) rfl (.nil _))) ?_
    refine GQ_then ?_
    refine G_seq ?_
    refine G_region ?_
    refine GL_step rfl (PS_loadA rfl tya24 (.head _) (Lens.id PageV.fl.len PageV.fl.one) rfl) ?_
    refine GL_callR rfl cf22 (.cons rfl (.cons rfl .nil)) .nil (pager_Flow_spec _ _ _ (by intro s hs; simp at hs; subst hs; decide)) (fun w hS => ⟨(Kn.own (.tail _ (.head _))) w hS, (KnC.own (.tail _ (.head _))) w hS⟩) (fun v14 B hv => ?_)
    rcases hv with ⟨y15, rfl, rfl⟩ | ⟨y16, y17, y18, y19, y20, rfl, y21, y22, rfl⟩
    · exact absurd y15 (by simp [Page.good, y12])
    · skip
      refine GL_step rfl (PS_move rfl) ?_
      refine GL_step rfl (PS_extract rfl rfl) ?_
      refine GL_step rfl (PS_extract rfl rfl) ?_
      refine GL_unit (PU_store (Lens.id PageV.fl.len PageV.fl.one) rfl rfl rfl sz24 rfl (.tail .head)) ?_
      refine GL_step rfl (PS_assign rfl) ?_
      refine GL_nil ?_
      refine GQ_sub (.cons (k := 1) rfl (.cons (k := 2) rfl (.cons (k := 3) rfl (.nil _)))) ?_
      refine GQ_then ?_
      refine G_seq ?_
      refine G_region ?_
      refine GL_step rfl (PS_move rfl) ?_
      refine GL_step rfl (PS_eql rfl rfl) ?_
      refine GL_step rfl (PS_move rfl) ?_
      refine GL_gt (t := 16) rfl rfl rfl (fun q => PS_move rfl) ?_
      refine GL_gt (t := 16) rfl rfl rfl (fun q => PS_eql (cvE rfl q) rfl) ?_
      refine GL_step rfl (PS_and rfl rfl (fun h => h)) ?_
      refine GL_step rfl (PS_move rfl) ?_
      refine GL_gt (t := 20) rfl rfl rfl (fun q => PS_fieldAddr fa24_3 rfl) ?_
      refine GL_gt (t := 20) rfl rfl rfl (fun q => PS_load (cvE rfl q) tys9 (.tail _ (.head _)) PageV.l3 rfl rfl) ?_
      refine GL_gt (t := 20) rfl rfl rfl (fun q => PS_eql_str (cvE rfl q) rfl) ?_
      refine GL_step rfl (PS_and rfl rfl (fun h => h)) ?_
      refine GL_step rfl (PS_assign rfl) ?_
      refine GL_nil ?_
      refine GQ_sub (.cons (k := 0) rfl (.nil _)) ?_
      refine GQ_then ?_
      refine G_ret ?_
      refine GQ_ret rfl (.tmp rfl .nil) ?_
      intro w1 hS; refine ⟨?_, hS.toKeep⟩; rfl
theorem pager_Take_spec (p : PageV) (n : Int) (w : World) : Ret Tryd.prog 15 #[.agg p.enc.toArray, .int .i64 n] w fun v w' => v = .tuple #[.agg (PageV.enc ⟨p.wait, p.shown, p.asking, p.ring.drop (max 0 (min n (p.ring.length : Int))).toNat, p.cut⟩).toArray, vstr (p.ring.take (max 0 (min n (p.ring.length : Int))).toNat)] ∧ Keep w w' := by
  refine Ret_body [] [] Tryd.func15 rfl rfl rfl (St.start w []) ?_
  refine G_seq ?_
  refine G_region ?_
  refine GL_box rfl rfl rfl (fun b1 => ?_)
  refine GL_alloc rfl zv24 rfl (fun b2 => ?_)
  refine GL_step rfl (PS_assign rfl) ?_
  refine GL_nil ?_
  refine GQ_sub (.cons (k := 1) rfl (.cons (k := 2) rfl (.cons (k := 4) rfl (.nil _)))) ?_
  refine GQ_then ?_
  refine G_seq ?_
  refine G_region ?_
  refine GL_step rfl (PS_move rfl) ?_
  refine GL_step rfl (PS_fieldAddr fa24_3 rfl) ?_
  refine GL_step rfl (PS_load rfl tys9 (.tail _ (.head _)) PageV.l3 rfl rfl) ?_
  refine GL_step rfl (PS_len_str rfl Tryd.underlying9 rfl) ?_
  refine GL_step rfl (PS_min2 rfl rfl) ?_
  refine GL_step rfl (PS_max2 rfl rfl) ?_
  refine GL_step rfl (PS_assign rfl) ?_
  refine GL_nil ?_
  refine GQ_sub (.cons (k := 1) rfl (.cons (k := 2) rfl (.cons (k := 4) rfl (.nil _)))) ?_
  refine GQ_then ?_
  refine G_seq ?_
  refine G_region ?_
  refine GL_step rfl (PS_fieldAddr fa24_3 rfl) ?_
  refine GL_step rfl (PS_load rfl tys9 (.tail _ (.head _)) PageV.l3 rfl rfl) ?_
  refine GL_step rfl (PS_move rfl) ?_
  refine GL_step rfl (PS_subSh Tryd.underlying9 rfl rfl (by omega) (by omega)) ?_
  refine GL_step rfl (PS_assign rfl) ?_
  refine GL_nil ?_
  refine GQ_sub (.cons (k := 1) rfl (.cons (k := 2) rfl (.cons (k := 4) rfl (.cons (k := 6) rfl (.nil _))))) ?_
  refine GQ_then ?_
  refine G_seq ?_
  refine G_region ?_
  refine GL_step rfl (PS_fieldAddr fa24_3 rfl) ?_
  refine GL_step rfl (PS_load rfl tys9 (.tail _ (.head _)) PageV.l3 rfl rfl) ?_
  refine GL_step rfl (PS_move rfl) ?_
  refine GL_step rfl (PS_subSl Tryd.underlying9 rfl rfl (by omega) (by omega)) ?_
  refine GL_step rfl (PS_fieldAddr fa24_3 rfl) ?_
  refine GL_unit (PU_store PageV.l3 rfl rfl rfl sz9 rfl (.tail .head)) ?_
  refine GL_nil ?_
  refine GQ_sub (.cons (k := 2) rfl (.cons (k := 4) rfl (.cons (k := 6) rfl (.nil _)))) ?_
  refine GQ_then ?_
  refine G_seq ?_
  refine G_region ?_
  refine GL_step rfl (PS_loadA rfl tya24 (.tail _ (.head _)) (Lens.id PageV.fl.len PageV.fl.one) rfl) ?_
  refine GL_step rfl (PS_move rfl) ?_
  refine GL_unit (PU_store (Lens.id PageV.fl.len PageV.fl.one) rfl rfl rfl sz24 rfl .head) ?_
  refine GL_step rfl (PS_assign rfl) ?_
  refine GL_nil ?_
  refine GQ_sub (.cons (k := 4) rfl (.cons (k := 5) rfl (.nil _))) ?_
  refine GQ_then ?_
  refine G_ret ?_
  refine GQ_ret rfl (.cell rfl (.head _) (.inl ⟨(by rw [PageV.fl.len]; exact tya24), rfl⟩) (.tmp rfl .nil)) ?_
  intro w1 hS; refine ⟨?_, hS.toKeep⟩; rfl
theorem pager_Turn_spec (p : PageV) (w : World) : Ret Tryd.prog 17 #[.agg p.enc.toArray] w fun v w' => v = .agg (PageV.enc ⟨p.wait, 0, false, p.ring, p.cut⟩).toArray ∧ Keep w w' := by
  refine Ret_body [] [] Tryd.func17 rfl rfl rfl (St.start w []) ?_
  refine G_seq ?_
  refine G_region ?_
  refine GL_box rfl rfl rfl (fun b1 => ?_)
  refine GL_alloc rfl zv24 rfl (fun b2 => ?_)
  refine GL_nil ?_
  refine GQ_sub (.cons (k := 1) rfl (.cons (k := 2) rfl (.nil _))) ?_
  refine GQ_then ?_
  refine G_seq ?_
  refine G_region ?_
  refine GL_step rfl (PS_fieldAddr fa24_2 rfl) ?_
  refine GL_unit (PU_store PageV.l2 rfl rfl rfl sz4 rfl (.tail .head)) ?_
  refine GL_step rfl (PS_fieldAddr fa24_1 rfl) ?_
  refine GL_unit (PU_store PageV.l1 rfl rfl rfl sz3 rfl (.tail .head)) ?_
  refine GL_nil ?_
  refine GQ_sub (.cons (k := 1) rfl (.cons (k := 2) rfl (.nil _))) ?_
  refine GQ_then ?_
  refine G_seq ?_
  refine G_region ?_
  refine GL_step rfl (PS_loadA rfl tya24 (.tail _ (.head _)) (Lens.id PageV.fl.len PageV.fl.one) rfl) ?_
  refine GL_unit (PU_store (Lens.id PageV.fl.len PageV.fl.one) rfl rfl rfl sz24 rfl .head) ?_
  refine GL_nil ?_
  refine GQ_sub (.cons (k := 2) rfl (.nil _)) ?_
  refine GQ_then ?_
  refine G_ret ?_
  refine GQ_ret rfl (.cell rfl (.head _) (.inl ⟨(by rw [PageV.fl.len]; exact tya24), rfl⟩) .nil) ?_
  intro w1 hS; refine ⟨?_, hS.toKeep⟩; rfl
theorem keep_PagerShows_spec {t0 : Nat} (f : Hd) (xs : List Str) (kk : Int) (hx : xs.length ≤ 9223372036854775807) (w : World) (r0 : Rd w f t0 1 (xs.flatMap encS)) : Ret Tryd.prog 4 #[f.val, .int .i64 kk] w fun v w' => v = .bool true ∧ Keep w w' := by
  have hl0 := r0.len1 flS (by decide)
  have hp := Line.pick_rng (k := kk) (n := 201) (by decide)
  refine Ret_body [] [] Tryd.func4 rfl rfl rfl (St.start w []) ?_
  refine G_seq ?_
  refine G_region ?_
  refine GL_step rfl (PS_assign rfl) ?_
  refine GL_nil ?_
  refine GQ_sub (.cons (k := 0) rfl (.cons (k := 1) rfl (.nil _))) ?_
  refine GQ_then ?_
  refine G_seq ?_
  refine G_region ?_
  refine GL_step rfl (PS_move rfl) ?_
  refine GL_pure rfl cf19 (.cons rfl (.cons rfl .nil)) (fun w hS => keep_pick_spec _ _ (by first | assumption | omega) (by first | assumption | omega) w) ?_
  refine GL_step rfl (PS_assign rfl) ?_
  refine GL_nil ?_
  refine GQ_sub (.cons (k := 0) rfl (.cons (k := 1) rfl (.nil _))) ?_
  refine GQ_then ?_
  refine G_seq ?_
  refine G_region ?_
  refine GL_alloc rfl zv24 rfl (fun b1 => ?_)
  refine GL_nil ?_
  refine GQ_then ?_
  refine G_seq ?_
  refine G_region ?_
  refine GL_step rfl (PS_assign rfl) ?_
  refine GL_nil ?_
  refine GQ_then ?_
  refine G_seq ?_
  refine G_seq ?_
  refine G_region ?_
  refine GL_step rfl (PS_assign rfl) ?_
  refine GL_nil ?_
  refine GQ_then ?_
  refine G_block ?_
  refine G_subF (.cons (k := 6) rfl (.cons (k := 7) rfl (.cons (k := 0) rfl (.cons (k := 1) rfl (.cons (k := 5) rfl (.nil _)))))) ?_
  refine G_nilF encS 9 1 ?_
  refine G_pull (.tail .head) ?_
  refine G_pull (.tail .head) ?_
  refine G_loop4_ (fun (i : Int) (want : Str) (qs : List Str) (g : Hd) => 0 ≤ i ∧ i ≤ xs.length ∧ i ≤ 60 ∧ g.len = qs.length ∧ want = Page.T qs ∧ qs.length = i.toNat ∧ (∀ s ∈ qs, s.length ≤ 40) ∧ want.length ≤ 82 * i) (fun (i : Int) (want : Str) (qs : List Str) (g : Hd) => ((xs.length : Int) - i).toNat) (fun (i : Int) (want : Str) (qs : List Str) (g : Hd) => [(6, vstr want), (7, .int .i64 i)]) (fun (i : Int) (want : Str) (qs : List Str) (g : Hd) => [Res.own g 9 1 (qs.flatMap encS), Res.box b1 24 (PageV.enc ⟨g, 0, false, [], false⟩)]) (0) ([]) ([]) (_) ?_ rfl rfl (fun i want qs g hI1 => ?_)
  · exact ⟨by omega, by omega, by omega, rfl, rfl, rfl, fun s hs => by simp at hs, by simp⟩
  obtain ⟨hI11, hI12, hI13, hI14, hI15, hI16, hI17, hI18⟩ := hI1
  refine G_seq ?_
  refine G_seq ?_
  refine G_region ?_
  refine GL_step rfl (PS_move rfl) ?_
  refine GL_step rfl (PS_move rfl) ?_
  refine GL_step rfl (PS_len_slice rfl Tryd.underlying22 rfl) ?_
  refine GL_step rfl (PS_lss rfl rfl) ?_
  refine GL_step rfl (PS_move rfl) ?_
  refine GL_gt (t := 20) rfl rfl rfl (fun q => PS_move rfl) ?_
  refine GL_gt (t := 20) rfl rfl rfl (fun q => PS_lss (cvE rfl q) rfl) ?_
  refine GL_step rfl (PS_and rfl rfl (fun h => h)) ?_
  refine GL_nil ?_
  refine GQ_sub (.cons (k := 0) rfl (.cons (k := 1) rfl (.cons (k := 5) rfl (.cons (k := 6) rfl (.cons (k := 7) rfl (.cons (k := 23) rfl (.nil _))))))) ?_
  refine GQ_then ?_
  refine G_cond rfl (fun c1 => ?_) (fun c1 => ?_)
  · skip
    have c1p := c1
    try simp only [decide_eq_true_eq, decide_eq_false_iff_not, Bool.not_eq_true', Bool.not_eq_false', Bool.or_eq_true, Bool.and_eq_true, Bool.or_eq_false_iff, Bool.and_eq_false_iff, Int.not_lt, Int.not_le] at c1p
    have hi : i < 60 ∧ i < xs.length := by simp at c1; omega
    refine G_skip ?_
    refine GQ_sub (.cons (k := 0) rfl (.cons (k := 1) rfl (.cons (k := 5) rfl (.cons (k := 6) rfl (.cons (k := 7) rfl (.nil _)))))) ?_
    refine GQ_then ?_
    refine G_seq ?_
    refine G_block ?_
    refine G_seq ?_
    refine G_seq ?_
    refine G_region ?_
    refine GL_step rfl (PS_move rfl) ?_
    refine GL_step rfl (PS_move rfl) ?_
    refine GL_step rfl (PS_idxS is22 (by decide) (Kn.old r0) rfl rfl (by omega) (by omega)) ?_
    refine GL_step rfl (PS_ldStr rfl tys9 (Kn.old r0) (by omega)) ?_
    refine GL_step rfl (PS_len_str rfl Tryd.underlying9 rfl) ?_
    refine GL_step rfl (PS_gtr rfl rfl) ?_
    refine GL_nil ?_
    refine GQ_sub (.cons (k := 0) rfl (.cons (k := 1) rfl (.cons (k := 5) rfl (.cons (k := 6) rfl (.cons (k := 7) rfl (.cons (k := 31) rfl (.nil _))))))) ?_
    refine GQ_then ?_
    refine G_cond rfl (fun c2 => ?_) (fun c2 => ?_)
    · skip
      have c2p := c2
      try simp only [decide_eq_true_eq, decide_eq_false_iff_not, Bool.not_eq_true', Bool.not_eq_false', Bool.or_eq_true, Bool.and_eq_true, Bool.or_eq_false_iff, Bool.and_eq_false_iff, Int.not_lt, Int.not_le] at c2p
      refine G_seq ?_
      refine G_region ?_
      refine GL_pure rfl cf20 .nil (fun w hS => keep_shows_spec w) ?_
      refine GL_step rfl (PS_assign rfl) ?_
      refine GL_nil ?_
      refine GQ_sub (.cons (k := 4) rfl (.nil _)) ?_
      refine GQ_then ?_
      refine G_ret ?_
      refine GQ_then_ret ?_
      refine GQ_block_ret ?_
      refine GQ_then_ret ?_
      refine GQ_then_ret ?_
      refine GQ_block_ret ?_
      refine GQ_then_ret ?_
      refine GQ_ret rfl (.tmp rfl .nil) ?_
      intro w1 hS; refine ⟨?_, hS.toKeep⟩; rfl
    · skip
      have c2p := c2
      try simp only [decide_eq_true_eq, decide_eq_false_iff_not, Bool.not_eq_true', Bool.not_eq_false', Bool.or_eq_true, Bool.and_eq_true, Bool.or_eq_false_iff, Bool.and_eq_false_iff, Int.not_lt, Int.not_le] at c2p
      have h40 : (xs.getD i.toNat []).length ≤ 40 := by simp at c2; omega
      refine G_skip ?_
      refine GQ_sub (.cons (k := 0) rfl (.cons (k := 1) rfl (.cons (k := 5) rfl (.cons (k := 6) rfl (.cons (k := 7) rfl (.nil _)))))) ?_
      refine GQ_then ?_
      refine G_seq ?_
      refine G_region ?_
      refine GL_step rfl (PS_assign rfl) ?_
      refine GL_nil ?_
      refine GQ_sub (.cons (k := 0) rfl (.cons (k := 1) rfl (.cons (k := 5) rfl (.cons (k := 6) rfl (.cons (k := 7) rfl (.nil _)))))) ?_
      refine GQ_then ?_
      refine G_seq ?_
      refine G_seq ?_
      refine G_planN (N := 11) [0, 0, 0, 6, 14, 31, 63, 127, 127, 255, 1023] mix (by kernel_rfl) rfl ?_
      refine Plan_float 0 rfl rfl (by kernel_rfl) (OK_s (EX_s (PS_loadA rfl tya24 (.tail _ (.head _)) (Lens.id PageV.fl.len PageV.fl.one) rfl))) ?_
      refine Plan_float 1 rfl rfl (by kernel_rfl) (OK_s (EX_s (PS_move rfl))) ?_
      refine Plan_float 2 rfl rfl (by kernel_rfl) (OK_s (EX_s (PS_move rfl))) ?_
      refine Plan_float 3 rfl rfl (by kernel_rfl) (OK_s (EX_s (PS_idxS is22 (by decide) (Kn.old r0) rfl rfl (by omega) (by omega)))) ?_
      refine Plan_float 4 rfl rfl (by kernel_rfl) (OK_s (EX_s (PS_ldStr rfl tys9 (Kn.old r0) (by omega)))) ?_
      refine Plan_chain 5 rfl (by kernel_rfl) ?_
      refine GL_callR rfl cf8 (.cons rfl (.cons rfl .nil)) .nil (pager_Tell_spec _ qs _) (fun w hS => (Kn.own (.head _)) w hS) (fun v1 B hv => ?_)
      rcases hv with ⟨y2, rfl, rfl⟩ | ⟨y3, y4, rfl, rfl⟩ | ⟨y5, y6, y7, rfl, rfl⟩ | ⟨y8, y9, y10, y11, rfl, y12, rfl⟩
      · exact absurd ((Page.good_of (p := ⟨g, 0, false, [], false⟩) (by dsimp only; omega) (by dsimp only; decide) (by dsimp only; decide) (by dsimp only; decide)).symm.trans y2) (by decide)
      · exact absurd y4 (by simp)
      · exfalso; have := y7; omega
      · skip
        refine GL_hand rfl ⟨?_, ?_⟩
        · exact (Pend_skip (by kernel_rfl) (Pend_skip (by kernel_rfl) (Pend_skip (by kernel_rfl) (Pend_skip (by kernel_rfl) (Pend_skip (by kernel_rfl) Pend_nil)))))
        refine Plan_float 6 rfl rfl (by kernel_rfl) (OK_s (EX_s (PS_move rfl))) ?_
        refine Plan_float 7 rfl rfl (by kernel_rfl) (OK_s (EX_s (PS_extract rfl rfl))) ?_
        refine Plan_float 8 rfl rfl (by kernel_rfl) (OK_s (EX_s (PS_extract rfl rfl))) ?_
        refine Plan_chain 9 rfl (by kernel_rfl) ?_
        refine GL_unit (PU_store (Lens.id PageV.fl.len PageV.fl.one) rfl rfl rfl sz24 rfl (.tail (.tail .head))) ?_
        refine GL_hand0 rfl ⟨?_, ?_⟩
        · exact (Pend_okv rfl (OK_s (EX_s (PS_extract rfl rfl))) rfl rfl (Pend_skip (by kernel_rfl) (Pend_skip (by kernel_rfl) (Pend_skip (by kernel_rfl) (Pend_skip (by kernel_rfl) (Pend_skip (by kernel_rfl) (Pend_skip (by kernel_rfl) (Pend_skip (by kernel_rfl) Pend_nil))))))))
        refine Plan_float 10 rfl rfl (by kernel_rfl) (OK_s (EX_s (PS_assign rfl))) ?_
        refine Plan_end (by kernel_rfl) ?_
        refine GQ_sub (.cons (k := 0) rfl (.cons (k := 1) rfl (.cons (k := 5) rfl (.cons (k := 6) rfl (.cons (k := 7) rfl (.cons (k := 8) rfl (.nil _))))))) ?_
        refine GQ_then ?_
        refine G_seq ?_
        refine G_region ?_
        refine GL_step rfl (PS_move rfl) ?_
        refine GL_step rfl (PS_neq rfl rfl) ?_
        refine GL_nil ?_
        refine GQ_sub (.cons (k := 0) rfl (.cons (k := 1) rfl (.cons (k := 5) rfl (.cons (k := 6) rfl (.cons (k := 7) rfl (.cons (k := 43) rfl (.nil _))))))) ?_
        refine GQ_then ?_
        refine G_false rfl rfl ?_
        refine G_skip ?_
        refine GQ_sub (.cons (k := 0) rfl (.cons (k := 1) rfl (.cons (k := 5) rfl (.cons (k := 6) rfl (.cons (k := 7) rfl (.nil _)))))) ?_
        refine GQ_then ?_
        refine G_region ?_
        refine GL_step rfl (PS_move rfl) ?_
        refine GL_step rfl (PS_move rfl) ?_
        refine GL_step rfl (PS_move rfl) ?_
        refine GL_step rfl (PS_idxS is22 (by decide) (Kn.old r0) rfl rfl (by omega) (by omega)) ?_
        refine GL_step rfl (PS_ldStr rfl tys9 (Kn.old r0) (by omega)) ?_
        refine GL_pure rfl cf21 (.cons rfl .nil) (fun w hS => telnet_Escape_spec _ (by omega) w) ?_
        refine GL_step rfl (PS_add_str rfl rfl (by first | omega | (have he := Page.escape_len (xs.getD i.toNat []); simp only [List.length_append, List.length_take, List.length_cons, List.length_nil] at *; omega))) ?_
        refine GL_step rfl (PS_add_str rfl rfl (by first | omega | (have he := Page.escape_len (xs.getD i.toNat []); simp only [List.length_append, List.length_take, List.length_cons, List.length_nil] at *; omega))) ?_
        refine GL_step rfl (PS_assign rfl) ?_
        refine GL_nil ?_
        refine GQ_sub (.cons (k := 0) rfl (.cons (k := 1) rfl (.cons (k := 5) rfl (.cons (k := 6) rfl (.cons (k := 7) rfl (.nil _)))))) ?_
        refine GQ_block ?_
        refine GQ_then ?_
        refine G_region ?_
        refine GL_step rfl (PS_move rfl) ?_
        refine GL_step rfl (PS_add rfl rfl (IntWalk.i64_in _ (by first | omega | (have he := Page.escape_len (xs.getD i.toNat []); simp only [List.length_append, List.length_take, List.length_cons, List.length_nil] at *; omega)))) ?_
        refine GL_step rfl (PS_assign rfl) ?_
        refine GL_nil ?_
        refine GQ_sub (.cons (k := 0) rfl (.cons (k := 1) rfl (.cons (k := 5) rfl (.cons (k := 6) rfl (.cons (k := 7) rfl (.nil _)))))) ?_
        refine GQ_pulls (.cons .head (.cons (.tail .head) .nil)) ?_
        refine GQ_dropr ?_
        refine GQ_next4_ (i + 1) _ _ _ ?_ ?_ (.cons (k := 6) rfl (.cons (k := 7) rfl (.cons (k := 0) rfl (.cons (k := 1) rfl (.cons (k := 5) rfl (.nil _)))))) (.refl _)
        · refine ⟨by omega, by omega, by omega, by simp only [List.length_append, List.length_cons, List.length_nil]; omega, by rw [hI15, Page.T_append]; simp [Page.T], by simp only [List.length_append, List.length_cons, List.length_nil]; omega, fun s hs => ?_, by have he := Page.escape_len (xs.getD i.toNat []); simp only [List.length_append, List.length_cons, List.length_nil]; omega⟩
          rcases List.mem_append.1 hs with hs | hs
          · exact hI17 s hs
          · simp only [List.mem_singleton] at hs; rw [hs]; exact h40
        · omega
  · skip
    have c1p := c1
    try simp only [decide_eq_true_eq, decide_eq_false_iff_not, Bool.not_eq_true', Bool.not_eq_false', Bool.or_eq_true, Bool.and_eq_true, Bool.or_eq_false_iff, Bool.and_eq_false_iff, Int.not_lt, Int.not_le] at c1p
    have hsi0 : Page.SI (Line.pick kk 201) qs.length want qs 0 [] 0 := ⟨by rw [hI15]; rfl, .inr rfl, by omega, by omega, by omega, fun _ => rfl, by omega, hI17, by omega, hp.1, by omega, by omega⟩
    refine G_exit ?_
    refine GQ_then_exit ?_
    refine GQ_then_exit ?_
    refine GQ_block_exit ?_
    refine GQ_sub (.cons (k := 0) rfl (.cons (k := 1) rfl (.cons (k := 5) rfl (.cons (k := 6) rfl (.nil _))))) ?_
    refine GQ_then ?_
    refine G_seq ?_
    refine G_region ?_
    refine GL_step rfl (PS_assign rfl) ?_
    refine GL_nil ?_
    refine GQ_then ?_
    refine G_seq ?_
    refine G_region ?_
    refine GL_step rfl (PS_assign rfl) ?_
    refine GL_nil ?_
    refine GQ_then ?_
    refine G_seq ?_
    refine G_block ?_
    refine G_subF (.cons (k := 9) rfl (.cons (k := 10) rfl (.cons (k := 0) rfl (.cons (k := 1) rfl (.cons (k := 5) rfl (.cons (k := 6) rfl (.nil _))))))) ?_
    refine G_pull (.tail .head) ?_
    refine G_pull (.tail .head) ?_
    refine G_loop8_ (fun (rest : List Str) (g : Hd) (sh : Int) (ak : Bool) (ring : Str) (ct : Bool) (got : Str) (pages : Int) => Page.SI (Line.pick kk 201) qs.length want rest sh got pages ∧ g.len = rest.length ∧ ak = false ∧ ring = [] ∧ ct = false) (fun (rest : List Str) (g : Hd) (sh : Int) (ak : Bool) (ring : Str) (ct : Bool) (got : Str) (pages : Int) => rest.length) (fun (rest : List Str) (g : Hd) (sh : Int) (ak : Bool) (ring : Str) (ct : Bool) (got : Str) (pages : Int) => [(9, vstr got), (10, .int .i64 pages)]) (fun (rest : List Str) (g : Hd) (sh : Int) (ak : Bool) (ring : Str) (ct : Bool) (got : Str) (pages : Int) => [Res.own g 9 1 (rest.flatMap encS), Res.box b1 24 (PageV.enc ⟨g, sh, ak, ring, ct⟩)]) (qs) (g) (0) (false) ([]) (false) ([]) (0) ?_ rfl rfl (fun rest g sh ak ring ct got pages hI2 => ?_)
    · exact ⟨hsi0, hI14, rfl, rfl, rfl⟩
    obtain ⟨hsi, hgr, rfl, rfl, rfl⟩ := hI2; have hpg := hsi.pg; have hr60 := hsi.rest60; have hp0 := hsi.p0
    refine G_seq ?_
    refine G_seq ?_
    refine G_region ?_
    refine GL_step rfl (PS_fieldAddr fa24_0 rfl) ?_
    refine GL_step rfl (PS_load rfl tys22 (.tail _ (.head _)) PageV.l0 rfl rfl) ?_
    refine GL_step rfl (PS_len_slice rfl Tryd.underlying22 rfl) ?_
    refine GL_step rfl (PS_gtr rfl rfl) ?_
    refine GL_nil ?_
    refine GQ_sub (.cons (k := 0) rfl (.cons (k := 1) rfl (.cons (k := 5) rfl (.cons (k := 6) rfl (.cons (k := 9) rfl (.cons (k := 10) rfl (.cons (k := 55) rfl (.nil _)))))))) ?_
    refine GQ_then ?_
    refine G_cond rfl (fun c3 => ?_) (fun c3 => ?_)
    · skip
      have c3p := c3
      try simp only [decide_eq_true_eq, decide_eq_false_iff_not, Bool.not_eq_true', Bool.not_eq_false', Bool.or_eq_true, Bool.and_eq_true, Bool.or_eq_false_iff, Bool.and_eq_false_iff, Int.not_lt, Int.not_le] at c3p
      have hne : rest ≠ [] := by intro e; subst e; simp at hgr; simp at c3; omega
      refine G_skip ?_
      refine GQ_sub (.cons (k := 0) rfl (.cons (k := 1) rfl (.cons (k := 5) rfl (.cons (k := 6) rfl (.cons (k := 9) rfl (.cons (k := 10) rfl (.nil _))))))) ?_
      refine GQ_then ?_
      refine G_block ?_
      refine G_seq ?_
      refine G_region ?_
      refine GL_step rfl (PS_fieldAddr fa24_0 rfl) ?_
      refine GL_step rfl (PS_load rfl tys22 (.tail _ (.head _)) PageV.l0 rfl rfl) ?_
      refine GL_step rfl (PS_len_slice rfl Tryd.underlying22 rfl) ?_
      refine GL_step rfl (PS_assign rfl) ?_
      refine GL_nil ?_
      refine GQ_sub (.cons (k := 0) rfl (.cons (k := 1) rfl (.cons (k := 5) rfl (.cons (k := 6) rfl (.cons (k := 9) rfl (.cons (k := 10) rfl (.cons (k := 11) rfl (.nil _)))))))) ?_
      refine GQ_then ?_
      refine G_seq ?_
      refine G_region ?_
      refine GL_step rfl (PS_assign rfl) ?_
      refine GL_nil ?_
      refine GQ_sub (.cons (k := 0) rfl (.cons (k := 1) rfl (.cons (k := 5) rfl (.cons (k := 6) rfl (.cons (k := 9) rfl (.cons (k := 10) rfl (.cons (k := 11) rfl (.nil _)))))))) ?_
      refine GQ_then ?_
      refine G_seq ?_
      refine G_seq ?_
      refine G_region ?_
      refine GL_step rfl (PS_loadA rfl tya24 (.tail _ (.head _)) (Lens.id PageV.fl.len PageV.fl.one) rfl) ?_
      refine GL_step rfl (PS_move rfl) ?_
      refine GL_callR rfl cf22 (.cons rfl (.cons rfl .nil)) .nil (pager_Flow_spec _ rest _ (fun t ht => by have := hsi.ln t ht; omega)) (fun w hS => ⟨(Kn.own (.head _)) w hS, (KnC.own (.head _)) w hS⟩) (fun v14 B hv => ?_)
      rcases hv with ⟨y15, rfl, rfl⟩ | ⟨y16, y17, y18, y19, y20, rfl, y21, y22, rfl⟩
      · exact absurd ((Page.shows_good (p := ⟨g, sh, false, [], false⟩) (by dsimp only; omega) hsi.s0 hsi.s1 hp.1 (by omega)).symm.trans y15) (by decide)
      · skip
        obtain ⟨rfl, rfl, rfl⟩ := Page.or_right y22 (hsi.pops hne)
        have hlen : y18.len = (Page.flow (Line.pick kk 201) rest (Page.of ⟨g, sh, false, [], false⟩)).2.length := y21
        have hpop : (Page.flow (Line.pick kk 201) rest (Page.of ⟨g, sh, false, [], false⟩)).2.length < rest.length := hsi.pops hne
        have hring : (Page.flow (Line.pick kk 201) rest (Page.of ⟨g, sh, false, [], false⟩)).1.ring.length ≤ 700 := hsi.ring
        have hgl := hsi.gl
        refine GL_step rfl (PS_move rfl) ?_
        refine GL_step rfl (PS_extract rfl rfl) ?_
        refine GL_step rfl (PS_extract rfl rfl) ?_
        refine GL_unit (PU_store (Lens.id PageV.fl.len PageV.fl.one) rfl rfl rfl sz24 rfl (.tail (.tail .head))) ?_
        refine GL_step rfl (PS_assign rfl) ?_
        refine GL_nil ?_
        refine GQ_sub (.cons (k := 0) rfl (.cons (k := 1) rfl (.cons (k := 5) rfl (.cons (k := 6) rfl (.cons (k := 9) rfl (.cons (k := 10) rfl (.cons (k := 11) rfl (.cons (k := 12) rfl (.nil _))))))))) ?_
        refine GQ_then ?_
        refine G_seq ?_
        refine G_region ?_
        refine GL_step rfl (PS_move rfl) ?_
        refine GL_step rfl (PS_neq rfl rfl) ?_
        refine GL_nil ?_
        refine GQ_sub (.cons (k := 0) rfl (.cons (k := 1) rfl (.cons (k := 5) rfl (.cons (k := 6) rfl (.cons (k := 9) rfl (.cons (k := 10) rfl (.cons (k := 11) rfl (.cons (k := 66) rfl (.nil _))))))))) ?_
        refine GQ_then ?_
        refine G_false rfl rfl ?_
        refine G_skip ?_
        refine GQ_sub (.cons (k := 0) rfl (.cons (k := 1) rfl (.cons (k := 5) rfl (.cons (k := 6) rfl (.cons (k := 9) rfl (.cons (k := 10) rfl (.cons (k := 11) rfl (.nil _)))))))) ?_
        refine GQ_then ?_
        refine G_seq ?_
        refine G_seq ?_
        refine G_region ?_
        refine GL_step rfl (PS_fieldAddr fa24_4 rfl) ?_
        refine GL_step rfl (PS_load rfl tys4 (.tail _ (.tail _ (.head _))) PageV.l4 rfl rfl) ?_
        refine GL_nil ?_
        refine GQ_sub (.cons (k := 0) rfl (.cons (k := 1) rfl (.cons (k := 5) rfl (.cons (k := 6) rfl (.cons (k := 9) rfl (.cons (k := 10) rfl (.cons (k := 11) rfl (.cons (k := 68) rfl (.nil _))))))))) ?_
        refine GQ_then ?_
        refine G_cond rfl (fun c4 => ?_) (fun c4 => ?_)
        · skip
          have c4p := c4
          try simp only [decide_eq_true_eq, decide_eq_false_iff_not, Bool.not_eq_true', Bool.not_eq_false', Bool.or_eq_true, Bool.and_eq_true, Bool.or_eq_false_iff, Bool.and_eq_false_iff, Int.not_lt, Int.not_le] at c4p
          refine G_seq ?_
          refine G_region ?_
          refine GL_step rfl (PS_move rfl) ?_
          refine GL_step rfl (PS_len_str rfl Tryd.underlying9 rfl) ?_
          refine GL_step rfl (PS_gtr rfl rfl) ?_
          refine GL_step rfl (PS_assign rfl) ?_
          refine GL_nil ?_
          refine GQ_sub (.cons (k := 4) rfl (.nil _)) ?_
          refine GQ_then ?_
          refine G_ret ?_
          refine GQ_then_ret ?_
          refine GQ_block_ret ?_
          refine GQ_then_ret ?_
          refine GQ_block_ret ?_
          refine GQ_then_ret ?_
          refine GQ_ret rfl (.tmp rfl .nil) ?_
          intro w1 hS; refine ⟨?_, hS.toKeep⟩; exact congrArg Value.bool (hsi.cut c4)
        · skip
          have c4p := c4
          try simp only [decide_eq_true_eq, decide_eq_false_iff_not, Bool.not_eq_true', Bool.not_eq_false', Bool.or_eq_true, Bool.and_eq_true, Bool.or_eq_false_iff, Bool.and_eq_false_iff, Int.not_lt, Int.not_le] at c4p
          refine G_skip ?_
          refine GQ_sub (.cons (k := 0) rfl (.cons (k := 1) rfl (.cons (k := 5) rfl (.cons (k := 6) rfl (.cons (k := 9) rfl (.cons (k := 10) rfl (.cons (k := 11) rfl (.nil _)))))))) ?_
          refine GQ_then ?_
          refine G_seq ?_
          refine G_region ?_
          refine GL_step rfl (PS_fieldAddr fa24_3 rfl) ?_
          refine GL_step rfl (PS_load rfl tys9 (.tail _ (.tail _ (.head _))) PageV.l3 rfl rfl) ?_
          refine GL_step rfl (PS_assign rfl) ?_
          refine GL_nil ?_
          refine GQ_sub (.cons (k := 0) rfl (.cons (k := 1) rfl (.cons (k := 5) rfl (.cons (k := 6) rfl (.cons (k := 9) rfl (.cons (k := 10) rfl (.cons (k := 11) rfl (.cons (k := 13) rfl (.nil _))))))))) ?_
          refine GQ_then ?_
          refine G_seq ?_
          refine G_seq ?_
          refine G_region ?_
          refine GL_step rfl (PS_loadA rfl tya24 (.tail _ (.tail _ (.head _))) (Lens.id PageV.fl.len PageV.fl.one) rfl) ?_
          refine GL_step rfl (PS_move rfl) ?_
          refine GL_step rfl (PS_len_str rfl Tryd.underlying9 rfl) ?_
          refine GL_pure rfl cf15 (.cons rfl (.cons rfl .nil)) (fun w hS => pager_Take_spec _ _ w) ?_
          refine GL_step rfl (PS_move rfl) ?_
          refine GL_step rfl (PS_extract rfl rfl) ?_
          refine GL_step rfl (PS_extract rfl rfl) ?_
          refine GL_unit (PU_store (Lens.id PageV.fl.len PageV.fl.one) rfl rfl rfl sz24 rfl (.tail (.tail .head))) ?_
          refine GL_nil ?_
          refine GQ_sub (.cons (k := 0) rfl (.cons (k := 1) rfl (.cons (k := 5) rfl (.cons (k := 6) rfl (.cons (k := 9) rfl (.cons (k := 10) rfl (.cons (k := 11) rfl (.cons (k := 13) rfl (.nil _))))))))) ?_
          refine GQ_then ?_
          refine G_seq ?_
          refine G_region ?_
          refine GL_step rfl (PS_fieldAddr fa24_2 rfl) ?_
          refine GL_step rfl (PS_load rfl tys4 (.tail _ (.tail _ (.head _))) PageV.l2 rfl rfl) ?_
          refine GL_nil ?_
          refine GQ_sub (.cons (k := 0) rfl (.cons (k := 1) rfl (.cons (k := 5) rfl (.cons (k := 6) rfl (.cons (k := 9) rfl (.cons (k := 10) rfl (.cons (k := 11) rfl (.cons (k := 13) rfl (.cons (k := 82) rfl (.nil _)))))))))) ?_
          refine GQ_then ?_
          refine G_cond rfl (fun c5 => ?_) (fun c5 => ?_)
          · skip
            have c5p := c5
            try simp only [decide_eq_true_eq, decide_eq_false_iff_not, Bool.not_eq_true', Bool.not_eq_false', Bool.or_eq_true, Bool.and_eq_true, Bool.or_eq_false_iff, Bool.and_eq_false_iff, Int.not_lt, Int.not_le] at c5p
            refine G_seq ?_
            refine G_region ?_
            refine GL_step rfl (PS_move rfl) ?_
            refine GL_step rfl (PS_move rfl) ?_
            refine GL_step rfl (PS_len_str rfl Tryd.underlying9 rfl) ?_
            refine GL_step rfl (PS_sub rfl rfl (IntWalk.i64_in _ (by first | omega | (have he := Page.escape_len (xs.getD i.toNat []); simp only [List.length_append, List.length_take, List.length_cons, List.length_nil] at *; omega)))) ?_
            refine GL_step rfl (PS_sub rfl rfl (IntWalk.i64_in _ (by first | omega | (have he := Page.escape_len (xs.getD i.toNat []); simp only [List.length_append, List.length_take, List.length_cons, List.length_nil] at *; omega)))) ?_
            refine GL_step rfl (PS_max2 rfl rfl) ?_
            refine GL_step rfl (PS_subSh Tryd.underlying9 rfl rfl (by first | omega | (have he := Page.escape_len (xs.getD i.toNat []); simp only [List.length_append, List.length_take, List.length_cons, List.length_nil] at *; omega)) (by first | omega | (have he := Page.escape_len (xs.getD i.toNat []); simp only [List.length_append, List.length_take, List.length_cons, List.length_nil] at *; omega))) ?_
            refine GL_step rfl (PS_assign rfl) ?_
            refine GL_nil ?_
            refine GQ_sub (.cons (k := 0) rfl (.cons (k := 1) rfl (.cons (k := 5) rfl (.cons (k := 6) rfl (.cons (k := 9) rfl (.cons (k := 10) rfl (.cons (k := 11) rfl (.cons (k := 13) rfl (.nil _))))))))) ?_
            refine GQ_then ?_
            refine G_seq ?_
            refine G_region ?_
            refine GL_step rfl (PS_loadA rfl tya24 (.tail _ (.tail _ (.head _))) (Lens.id PageV.fl.len PageV.fl.one) rfl) ?_
            refine GL_pure rfl cf17 (.cons rfl .nil) (fun w hS => pager_Turn_spec _ w) ?_
            refine GL_unit (PU_store (Lens.id PageV.fl.len PageV.fl.one) rfl rfl rfl sz24 rfl (.tail (.tail .head))) ?_
            refine GL_nil ?_
            refine GQ_sub (.cons (k := 0) rfl (.cons (k := 1) rfl (.cons (k := 5) rfl (.cons (k := 6) rfl (.cons (k := 9) rfl (.cons (k := 10) rfl (.cons (k := 11) rfl (.cons (k := 13) rfl (.nil _))))))))) ?_
            refine GQ_then ?_
            refine G_region ?_
            refine GL_step rfl (PS_move rfl) ?_
            refine GL_step rfl (PS_add rfl rfl (IntWalk.i64_in _ (by first | omega | (have he := Page.escape_len (xs.getD i.toNat []); simp only [List.length_append, List.length_take, List.length_cons, List.length_nil] at *; omega)))) ?_
            refine GL_step rfl (PS_assign rfl) ?_
            refine GL_nil ?_
            refine GQ_sub (.cons (k := 0) rfl (.cons (k := 1) rfl (.cons (k := 5) rfl (.cons (k := 6) rfl (.cons (k := 9) rfl (.cons (k := 10) rfl (.cons (k := 11) rfl (.cons (k := 13) rfl (.nil _))))))))) ?_
            refine GQ_then ?_
            refine G_seq ?_
            refine G_region ?_
            refine GL_step rfl (PS_move rfl) ?_
            refine GL_step rfl (PS_move rfl) ?_
            refine GL_step rfl (PS_add_str rfl rfl (by first | omega | (have he := Page.escape_len (xs.getD i.toNat []); simp only [List.length_append, List.length_take, List.length_cons, List.length_nil] at *; omega))) ?_
            refine GL_step rfl (PS_assign rfl) ?_
            refine GL_nil ?_
            refine GQ_sub (.cons (k := 0) rfl (.cons (k := 1) rfl (.cons (k := 5) rfl (.cons (k := 6) rfl (.cons (k := 9) rfl (.cons (k := 10) rfl (.cons (k := 11) rfl (.nil _)))))))) ?_
            refine GQ_then ?_
            refine G_seq ?_
            refine G_region ?_
            refine GL_step rfl (PS_fieldAddr fa24_0 rfl) ?_
            refine GL_step rfl (PS_load rfl tys22 (.tail _ (.tail _ (.head _))) PageV.l0 rfl rfl) ?_
            refine GL_step rfl (PS_len_slice rfl Tryd.underlying22 rfl) ?_
            refine GL_step rfl (PS_move rfl) ?_
            refine GL_step rfl (PS_eql rfl rfl) ?_
            refine GL_step rfl (PS_move rfl) ?_
            refine GL_gt (t := 102) rfl rfl rfl (fun q => PS_move rfl) ?_
            refine GL_gt (t := 102) rfl rfl rfl (fun q => PS_gtr (cvE rfl q) rfl) ?_
            refine GL_step rfl (PS_and rfl rfl (fun h => h)) ?_
            refine GL_step rfl (PS_move rfl) ?_
            refine GL_gt (t := 106) rfl rfl rfl (fun q => PS_move rfl) ?_
            refine GL_gt (t := 106) rfl rfl rfl (fun q => PS_gtr (cvE rfl q) rfl) ?_
            refine GL_step rfl (PS_and rfl rfl (fun h => h)) ?_
            refine GL_nil ?_
            refine GQ_sub (.cons (k := 0) rfl (.cons (k := 1) rfl (.cons (k := 5) rfl (.cons (k := 6) rfl (.cons (k := 9) rfl (.cons (k := 10) rfl (.cons (k := 109) rfl (.nil _)))))))) ?_
            refine GQ_then ?_
            refine G_false rfl (by dsimp only; rw [decide_eq_false (by omega)]; rfl) ?_
            refine G_skip ?_
            refine GQ_sub (.cons (k := 0) rfl (.cons (k := 1) rfl (.cons (k := 5) rfl (.cons (k := 6) rfl (.cons (k := 9) rfl (.cons (k := 10) rfl (.nil _))))))) ?_
            refine GQ_block ?_
            refine GQ_pulls (.cons .head (.cons (.tail .head) .nil)) ?_
            refine GQ_dropr ?_
            refine GQ_next8_ _ _ _ _ _ _ _ _ ?_ ?_ (.cons (k := 9) rfl (.cons (k := 10) rfl (.cons (k := 0) rfl (.cons (k := 1) rfl (.cons (k := 5) rfl (.cons (k := 6) rfl (.nil _))))))) (.refl _)
            · exact ⟨hsi.ask hne c4 c5, hlen, rfl, List.drop_eq_nil_of_le (by omega), c4⟩
            · omega
          · skip
            have c5p := c5
            try simp only [decide_eq_true_eq, decide_eq_false_iff_not, Bool.not_eq_true', Bool.not_eq_false', Bool.or_eq_true, Bool.and_eq_true, Bool.or_eq_false_iff, Bool.and_eq_false_iff, Int.not_lt, Int.not_le] at c5p
            refine G_skip ?_
            refine GQ_sub (.cons (k := 0) rfl (.cons (k := 1) rfl (.cons (k := 5) rfl (.cons (k := 6) rfl (.cons (k := 9) rfl (.cons (k := 10) rfl (.cons (k := 11) rfl (.cons (k := 13) rfl (.nil _))))))))) ?_
            refine GQ_then ?_
            refine G_seq ?_
            refine G_region ?_
            refine GL_step rfl (PS_move rfl) ?_
            refine GL_step rfl (PS_move rfl) ?_
            refine GL_step rfl (PS_add_str rfl rfl (by first | omega | (have he := Page.escape_len (xs.getD i.toNat []); simp only [List.length_append, List.length_take, List.length_cons, List.length_nil] at *; omega))) ?_
            refine GL_step rfl (PS_assign rfl) ?_
            refine GL_nil ?_
            refine GQ_sub (.cons (k := 0) rfl (.cons (k := 1) rfl (.cons (k := 5) rfl (.cons (k := 6) rfl (.cons (k := 9) rfl (.cons (k := 10) rfl (.cons (k := 11) rfl (.nil _)))))))) ?_
            refine GQ_then ?_
            refine G_seq ?_
            refine G_region ?_
            refine GL_step rfl (PS_fieldAddr fa24_0 rfl) ?_
            refine GL_step rfl (PS_load rfl tys22 (.tail _ (.tail _ (.head _))) PageV.l0 rfl rfl) ?_
            refine GL_step rfl (PS_len_slice rfl Tryd.underlying22 rfl) ?_
            refine GL_step rfl (PS_move rfl) ?_
            refine GL_step rfl (PS_eql rfl rfl) ?_
            refine GL_step rfl (PS_move rfl) ?_
            refine GL_gt (t := 102) rfl rfl rfl (fun q => PS_move rfl) ?_
            refine GL_gt (t := 102) rfl rfl rfl (fun q => PS_gtr (cvE rfl q) rfl) ?_
            refine GL_step rfl (PS_and rfl rfl (fun h => h)) ?_
            refine GL_step rfl (PS_move rfl) ?_
            refine GL_gt (t := 106) rfl rfl rfl (fun q => PS_move rfl) ?_
            refine GL_gt (t := 106) rfl rfl rfl (fun q => PS_gtr (cvE rfl q) rfl) ?_
            refine GL_step rfl (PS_and rfl rfl (fun h => h)) ?_
            refine GL_nil ?_
            refine GQ_sub (.cons (k := 0) rfl (.cons (k := 1) rfl (.cons (k := 5) rfl (.cons (k := 6) rfl (.cons (k := 9) rfl (.cons (k := 10) rfl (.cons (k := 109) rfl (.nil _)))))))) ?_
            refine GQ_then ?_
            refine G_false rfl (by dsimp only; rw [decide_eq_false (by omega)]; rfl) ?_
            refine G_skip ?_
            refine GQ_sub (.cons (k := 0) rfl (.cons (k := 1) rfl (.cons (k := 5) rfl (.cons (k := 6) rfl (.cons (k := 9) rfl (.cons (k := 10) rfl (.nil _))))))) ?_
            refine GQ_block ?_
            refine GQ_pulls (.cons .head (.cons (.tail .head) .nil)) ?_
            refine GQ_dropr ?_
            refine GQ_next8_ _ _ _ _ _ _ _ _ ?_ ?_ (.cons (k := 9) rfl (.cons (k := 10) rfl (.cons (k := 0) rfl (.cons (k := 1) rfl (.cons (k := 5) rfl (.cons (k := 6) rfl (.nil _))))))) (.refl _)
            · exact ⟨hsi.all c4 c5, hlen, c5, List.drop_eq_nil_of_le (by omega), c4⟩
            · omega
    · skip
      have c3p := c3
      try simp only [decide_eq_true_eq, decide_eq_false_iff_not, Bool.not_eq_true', Bool.not_eq_false', Bool.or_eq_true, Bool.and_eq_true, Bool.or_eq_false_iff, Bool.and_eq_false_iff, Int.not_lt, Int.not_le] at c3p
      refine G_exit ?_
      refine GQ_then_exit ?_
      refine GQ_then_exit ?_
      refine GQ_block_exit ?_
      refine GQ_sub (.cons (k := 0) rfl (.cons (k := 1) rfl (.cons (k := 6) rfl (.cons (k := 9) rfl (.cons (k := 10) rfl (.nil _)))))) ?_
      refine GQ_then ?_
      refine G_seq ?_
      refine G_region ?_
      refine GL_step rfl (PS_move rfl) ?_
      refine GL_step rfl (PS_move rfl) ?_
      refine GL_step rfl (PS_eql_str rfl rfl) ?_
      refine GL_step rfl (PS_move rfl) ?_
      refine GL_gt (t := 113) rfl rfl rfl (fun q => PS_move rfl) ?_
      refine GL_gt (t := 113) rfl rfl rfl (fun q => PS_eql (cvE rfl q) rfl) ?_
      refine GL_gt (t := 113) rfl rfl rfl (fun q => PS_move (cvE rfl q)) ?_
      refine GL_gtc (t := 116) rfl rfl rfl (fun qc q => PS_move rfl) ?_
      refine GL_gtc (t := 116) rfl rfl rfl (fun qc q => PS_eql (cvE rfl (by rw [qc, q]; rfl)) rfl) ?_
      refine GL_gt (t := 113) rfl rfl rfl (fun q => PS_and (cvE rfl q) rfl (fun h => by rw [q, h]; rfl)) ?_
      refine GL_gt (t := 113) rfl rfl rfl (fun q => PS_move (cvE rfl q)) ?_
      refine GL_gfc (t := 120) rfl rfl rfl (fun qc q => PS_move rfl) ?_
      refine GL_gfc (t := 120) rfl rfl rfl (fun qc q => PS_gtr (cvE rfl (by rw [qc, q]; rfl)) rfl) ?_
      refine GL_gfc (t := 120) rfl rfl rfl (fun qc q => PS_move (cvE rfl (by rw [qc, q]; rfl))) ?_
      refine GL_gtc (t := 123) rfl rfl rfl (fun qc q => PS_move rfl) ?_
      refine GL_gtc (t := 123) rfl rfl rfl (fun qc q => PS_move rfl) ?_
      refine GL_gtc (t := 123) rfl rfl rfl (fun qc q => PS_len_slice rfl Tryd.underlying22 (cvE rfl (by rw [qc, q]; rfl))) ?_
      refine GL_gtc (t := 123) rfl rfl rfl (fun qc q => PS_move rfl) ?_
      refine GL_gtc (t := 123) rfl rfl rfl (fun qc q => by have q1 := q; have qc1 := qc; (try simp at q1 qc1); exact PS_quo (cvE rfl (by rw [qc, q]; rfl)) (cvE rfl (by rw [qc, q]; rfl)) (by simp at q; omega) (IntWalk.i64_in _ (Page.quo_rng (by simp at q; omega) (by omega) (by omega)))) ?_
      refine GL_gtc (t := 123) rfl rfl rfl (fun qc q => PS_leq (cvE rfl (by rw [qc, q]; rfl)) (cvE rfl (by rw [qc, q]; rfl))) ?_
      refine GL_gfc (t := 120) rfl rfl rfl (fun qc q => PS_and (cvE rfl (by rw [qc, q]; rfl)) rfl (fun h => by rw [qc, q, h]; rfl)) ?_
      refine GL_gt (t := 113) rfl rfl rfl (fun q => PS_or (cvE rfl q) rfl (fun h => by rw [q, h]; rfl)) ?_
      refine GL_step rfl (PS_and rfl rfl (fun h => h)) ?_
      refine GL_step rfl (PS_move rfl) ?_
      refine GL_pgt (t := 133) rfl rfl rfl (fun q => PC_of cf20 .nil (fun w hS => keep_shows_spec w)) ?_
      refine GL_step rfl (PS_and rfl rfl (fun h => h)) ?_
      refine GL_step rfl (PS_assign rfl) ?_
      refine GL_nil ?_
      refine GQ_sub (.cons (k := 4) rfl (.nil _)) ?_
      refine GQ_then ?_
      refine G_ret ?_
      refine GQ_ret rfl (.tmp rfl .nil) ?_
      intro w1 hS; refine ⟨?_, hS.toKeep⟩; exact congrArg Value.bool (hsi.fin (List.length_eq_zero_iff.1 (by simp at c3; omega)) (by omega))
mutual
def cellsD {H : Type} : DataW H → List Value
  | .lit (.int k n) => [.int k n]
  | .lit (.string bs) => [.string ⟨bs.toArray⟩]
  | .lit (.bool b) => [.bool b]
  | .agg ps => cellsDs ps
  | _ => []
def cellsDs {H : Type} : List (DataW H) → List Value
  | [] => []
  | d :: r => cellsD d ++ cellsDs r
end
/-- A world in which the listed variables hold what is listed. -/
noncomputable def laidWorld (os : Os) : World := { World.holding Tryd.prog os ⟨#[], #[], []⟩ with heap := (((World.holding Tryd.prog os ⟨#[], #[], []⟩).heap.modify 2 fun o => match o with | .cells _ t frozen => .cells (cellsD (Rows.laid_unicode_utf8_acceptRanges : DataW Unit)).toArray t frozen | o => o).modify 1 fun o => match o with | .cells _ t frozen => .cells (cellsD (Rows.laid_unicode_utf8_first : DataW Unit)).toArray t frozen | o => o) }
set_option maxRecDepth 100000 in
theorem laid_met (os : Os) : laidMet Tryd.prog Rows.pagerShowsRow.laid ((laidWorld os).forCall (fun _ _ => 0) ⟨#[], #[.slice none 0 0, .int .i64 0], []⟩).memory :=
  laidMet_of_run' 8 (by kernel_rfl) (by kernel_rfl)
set_option maxRecDepth 100000 in
theorem reads (os : Os) {H : Type} (enc : TypeId × Value → H) : ∃ places, DataW.whole enc Tryd.prog ((laidWorld os).forCall (fun _ _ => 0) ⟨#[], #[.slice none 0 0, .int .i64 0], []⟩).memory Tryd.f4.params.toList Rows.pagerShowsSpec.vars false (#[.slice none 0 0, .int .i64 0] : Array Value).toList 8 = some ([.nil, .lit (.int .i64 0)], [], places) := ⟨[], by kernel_rfl⟩
set_option maxRecDepth 100000 in
theorem pagerShows_lifted (os : Os) (started : os.Started) (H : Type) (enc : TypeId × Value → H) (F : Stop.Interp) :
    ReturnsInHanded {} Tryd.checked os 4 .any ((OpenSpec.ofChange Rows.pagerShowsSpec).preRow enc Tryd.prog Tryd.f4 Rows.pagerShowsRow.domain false Rows.pagerShowsRow.laid) (((OpenSpec.ofChange Rows.pagerShowsSpec).at F).post enc Tryd.prog Tryd.f4 false true false false) := by
  obtain ⟨places, hx⟩ := reads os enc
  refine returnsInHanded_of_row (C := Tryd.checked) (s := (OpenSpec.ofChange Rows.pagerShowsSpec)) own started (by kernel_rfl) Tryd.func4
    (witness_row_at (enc := enc) (C := Tryd.checked) false (laidWorld os) #[.slice none 0 0, .int .i64 0] rfl (by kernel_rfl) (by kernel_rfl) (by kernel_rfl)
      (OpenSpec.preRow_of_cond 8 hx (by kernel_rfl) (fun k hk => by cases hk) (by kernel_rfl) (laid_met os))) ?_
  intro W base args ds gs before hval hW _ hcond hsz hL _ _
  refine law_post (B := 4) laidOut (by kernel_rfl) Tryd.underlying4 (by kernel_rfl) rfl (fun ds h => by rw [Tryd.params4] at h; match ds, h with | [d1, d2], _ => rfl) hW ?_
  obtain ⟨p, q, hA, hV, _, _, _⟩ := hW
  rw [Tryd.params4] at hA
  obtain ⟨v0, vs0, d0, ds0, p0, q0, hv0, rfl, rfl, hd0, hA⟩ := trodAll_cons hA
  obtain ⟨v1, vs1, d1, ds1, p1, q1, hv1, rfl, rfl, hd1, hA⟩ := trodAll_cons hA
  obtain ⟨hvn, rfl, rfl⟩ := trodAll_nil hA
  obtain rfl : args = #[v0, v1] := by cases args; simp_all
  obtain ⟨f, rfl, w0⟩ := open_sl Tryd.underlying22 (hval 0 _ _ rfl rfl) (by kernel_rfl) (by decide) flS dc9 hd0
  obtain ⟨kk, rfl, rfl, rfl, w1⟩ := open_int Tryd.underlying3 (hval 1 _ _ rfl rfl) hd1
  have w1 := bounds_i64 w1
  obtain ⟨_, xs, r0, hl0, k0, hm0, hw0⟩ := w0
  exact keep_PagerShows_spec _ _ _ (by omega) W r0
theorem pagerShows_said : Rows.PagerShowsSaid :=
  OpenClaim.holds_of_cond 4 Tryd.f4 rfl rfl rfl rfl rfl rfl rfl ⟨rfl, rfl, rfl, rfl, rfl⟩ rfl rfl rfl rfl rfl (by kernel_rfl) Tryd.func4 (by kernel_rfl)
    (of_decide_eq_true (by kernel_rfl)) (by unfold Func.isWrapper; first | (rw [if_pos (by decide +kernel)]; kernel_rfl) | (rw [if_neg (by decide +kernel)]; exact ⟨rfl, rfl⟩))
    (fun os started H enc _ F => by rw [OpenClaim.pre_eq_preRow]; exact pagerShows_lifted os started H enc F)
theorem plainArgs (f : FuncId) (fn : Func) (hf : Tryd.pinned.checked.prog.funcNamed "inglenook/inglenookkeep.PagerShows" = some f) (hfn : Tryd.pinned.checked.prog.funcs[f]? = some fn) :
    false = Tryd.pinned.checked.prog.looks [] ∧ ∀ (j : Nat) t, fn.params[j]? = some t → Tryd.pinned.checked.prog.wantsStandIn t = false := by
  obtain rfl : f = 4 := Option.some.inj ((show Tryd.prog.funcNamed "inglenook/inglenookkeep.PagerShows" = some 4 by kernel_rfl).symm.trans hf) |>.symm
  obtain rfl : fn = Tryd.f4 := (Option.some.inj (Tryd.func4.symm.trans hfn)).symm
  refine ⟨by kernel_rfl, fun j t ht => ?_⟩
  rw [Tryd.params4] at ht
  have hm : t ∈ [22, 3] := by simpa using Array.mem_of_getElem? ht
  have hall : ([22, 3].all fun u => !Tryd.prog.wantsStandIn u) = true := by kernel_rfl
  exact (show Tryd.prog.wantsStandIn t = false by simpa using List.all_eq_true.1 hall t hm)
theorem pagerShows_holds : Rows.PagerShowsCardSaid :=
  Claim7.holds_tied_plain_at .later [] _ _ _ _ pagerShows_said (fun _ h => by cases h) (by kernel_rfl) (fun _ h => by cases h) pagerShows_row_tie rfl ⟨rfl, rfl⟩ (by kernel_rfl) rfl plainArgs (by kernel_rfl)
end Go.Proofs.YtiimccommiokjaaDoor
