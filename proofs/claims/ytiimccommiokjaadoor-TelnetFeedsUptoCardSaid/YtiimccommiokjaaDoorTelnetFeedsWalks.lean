/- What the functions that the law TelnetFeeds reaches compute: walks, the first part. No condition. -/
import Derived.Test.YtiimccommiokjaaDoorCards
import Derived.Test.YtiimccommiokjaaDoorTie
import Derived.Deep.DeepHandedRow
import Derived.Test.YtiimccommiokjaaDoorRows
import Derived.Test.YtiimccommiokjaaDoorEc2
import Derived.Test.YtiimccommiokjaaDoorTelnetFeedsPlain
set_option linter.unusedSimpArgs false
set_option linter.unusedVariables false
set_option maxRecDepth 100000
namespace Go.Proofs.YtiimccommiokjaaDoor
open Go Go.Ing Go.RowKit Go.ChangeShapes Go.WideShapes Go.ChangeAt
theorem sz39 : Sz Tryd.prog 39 3 := Sz_of (by kernel_rfl)
theorem fa41_3 : FA Tryd.prog 41 3 3 := FA_of Tryd.underlying41 rfl sz39
theorem sz3 : Sz Tryd.prog 3 1 := Sz_of (by kernel_rfl)
theorem ia39 : IA Tryd.prog 39 3 1 := IA_of Tryd.underlying39 sz3
theorem tys3 : TyS Tryd.prog 3 := TyS_of Tryd.underlying3 rfl
theorem fa41_4 : FA Tryd.prog 41 4 6 := FA_of Tryd.underlying41 rfl sz39
theorem fa41_0 : FA Tryd.prog 41 0 0 := FA_of Tryd.underlying41 rfl sz3
theorem fa41_1 : FA Tryd.prog 41 1 1 := FA_of Tryd.underlying41 rfl sz3
theorem sz9 : Sz Tryd.prog 9 1 := Sz_of (by kernel_rfl)
theorem fa41_2 : FA Tryd.prog 41 2 2 := FA_of Tryd.underlying41 rfl sz9
theorem tys9 : TyS Tryd.prog 9 := TyS_of Tryd.underlying9 rfl
theorem fa41_5 : FA Tryd.prog 41 5 9 := FA_of Tryd.underlying41 rfl sz3
theorem sz49 : Sz Tryd.prog 49 1 := Sz_of (by kernel_rfl)
theorem fa52_0 : FA Tryd.prog 52 0 0 := FA_of Tryd.underlying52 rfl sz49
theorem tys49 : TyS Tryd.prog 49 := TyS_of Tryd.underlying49 rfl
theorem inf52 : ∃ i, Tryd.prog.info? 52 = some i ∧ i.size ≠ 0 := by
  have h : (Tryd.prog.info? 52).map (·.size) = some 2 := by kernel_rfl
  obtain ⟨i, h1, h2⟩ := Option.map_eq_some_iff.1 h
  exact ⟨i, h1, by omega⟩
theorem cf43 : CF Tryd.prog 43 := Tryd.call43
theorem sz50 : Sz Tryd.prog 50 1 := Sz_of (by kernel_rfl)
theorem fa52_1 : FA Tryd.prog 52 1 1 := FA_of Tryd.underlying52 rfl sz50
theorem tys50 : TyS Tryd.prog 50 := TyS_of Tryd.underlying50 rfl
theorem sz5 : Sz Tryd.prog 5 1 := Sz_of (by kernel_rfl)
theorem zv5 : ZV Tryd.prog 5 (.int .u8 0) := ZV_of (by kernel_rfl)
theorem by5 : BY Tryd.prog 5 1 := BY_of (by kernel_rfl)
theorem cf45 : CF Tryd.prog 45 := Tryd.call45
theorem cf44 : CF Tryd.prog 44 := Tryd.call44
theorem cf46 : CF Tryd.prog 46 := Tryd.call46
theorem mix : Tryd.prog.follows .mixedOrders = true := by kernel_rfl
theorem ce5 : Tryd.prog.cellsOf 5 = 1 := by kernel_rfl
theorem zv41 : ZV Tryd.prog 41 (.agg (Telnet.enc (default : Telnet)).toArray) := ZV_of (by kernel_rfl)
theorem sz41 : Sz Tryd.prog 41 10 := Sz_of (by kernel_rfl)
theorem tya41 : TyA Tryd.prog 41 10 := TyA_of Tryd.underlying41 rfl sz41
theorem cf25 : CF Tryd.prog 25 := Tryd.call25
theorem zv52 : ZV Tryd.prog 52 (.agg (BldV.enc ⟨none, ⟨none, 0, 0⟩⟩).toArray) := ZV_of (by kernel_rfl)
theorem is50 : IS Tryd.prog 50 1 := IS_of Tryd.underlying50 sz5
theorem tys5 : TyS Tryd.prog 5 := TyS_of Tryd.underlying5 rfl
theorem cf33 : CF Tryd.prog 33 := Tryd.call33
theorem cf35 : CF Tryd.prog 35 := Tryd.call35
theorem cf34 : CF Tryd.prog 34 := Tryd.call34
theorem cf36 : CF Tryd.prog 36 := Tryd.call36
theorem cf37 : CF Tryd.prog 37 := Tryd.call37
theorem cf38 : CF Tryd.prog 38 := Tryd.call38
theorem is74 : IS Tryd.prog 74 1 := IS_of Tryd.underlying74 sz3
theorem zv3 : ZV Tryd.prog 3 (.int .i64 0) := ZV_of (by kernel_rfl)
theorem cf40 : CF Tryd.prog 40 := Tryd.call40
theorem cf26 : CF Tryd.prog 26 := Tryd.call26
theorem cf39 : CF Tryd.prog 39 := Tryd.call39
theorem cf41 : CF Tryd.prog 41 := Tryd.call41
theorem cf58 : CF Tryd.prog 58 := Tryd.call58
theorem cf55 : CF Tryd.prog 55 := Tryd.call55
theorem cf54 : CF Tryd.prog 54 := Tryd.call54
theorem cf47 : CF Tryd.prog 47 := Tryd.call47
theorem cf48 : CF Tryd.prog 48 := Tryd.call48
theorem cf49 : CF Tryd.prog 49 := Tryd.call49
theorem cf42 : CF Tryd.prog 42 := Tryd.call42
theorem cf32 : CF Tryd.prog 32 := Tryd.call32
theorem pl41 : Places Tryd.prog 41 [(0, 1), (1, 1), (2, 1), (3, 3), (6, 3), (9, 1)] := ⟨_, Tryd.underlying41, fun w => by simp [sz3 w, sz9 w, sz39 w]⟩
theorem cf23 : CF Tryd.prog 23 := Tryd.call23
theorem cf24 : CF Tryd.prog 24 := Tryd.call24
theorem eq3 : EqV Tryd.prog 1 3 (fun n : Int => .int .i64 n) := EqV_int Tryd.underlying3
theorem eq9 : EqV Tryd.prog 1 9 (fun s : Str => vstr s) := EqV_str Tryd.underlying9
theorem eq39 : EqV Tryd.prog 2 39 (fun v : Arr _ 3 => .agg (encA encI v).toArray) := EqV_arr flI Tryd.underlying39 (by kernel_rfl) (by kernel_rfl) (.inr ⟨tys3, rfl, fun _ => rfl⟩) eq3
theorem tya39 : TyA Tryd.prog 39 3 := TyA_of Tryd.underlying39 rfl sz39
theorem eq41 : EqV Tryd.prog 3 41 (fun x : Telnet => .agg (Telnet.enc x).toArray) := EqV_struct Tryd.underlying41 (by kernel_rfl) (.cons (by decide) rfl (.inr ⟨tys3, rfl, fun _ => rfl⟩) Telnet.l0 eq3 (by decide) (.cons (by decide) rfl (.inr ⟨tys3, rfl, fun _ => rfl⟩) Telnet.l1 eq3 (by decide) (.cons (by decide) rfl (.inr ⟨tys9, rfl, fun _ => rfl⟩) Telnet.l2 eq9 (by decide) (.cons (by decide) rfl (.inl ⟨tya39, fun _ => rfl⟩) Telnet.l3 eq39 (by decide) (.cons (by decide) rfl (.inl ⟨tya39, fun _ => rfl⟩) Telnet.l4 eq39 (by decide) (.cons (by decide) rfl (.inr ⟨tys3, rfl, fun _ => rfl⟩) Telnet.l5 eq3 (by decide) .nil)))))) (fun x y => by rw [Bool.eq_iff_iff]; cases x; cases y; simp)
theorem cf21 : CF Tryd.prog 21 := Tryd.call21
theorem cf27 : CF Tryd.prog 27 := Tryd.call27
theorem cf28 : CF Tryd.prog 28 := Tryd.call28
theorem telnet_Good_spec (X : Telnet) (w : World) : Ret Tryd.prog 25 #[.agg X.enc.toArray] w fun v w' => v = .bool X.good ∧ Keep w w' := by
  refine Ret_body [] [] Tryd.func25 rfl rfl rfl (St.start w []) ?_
  refine G_seq ?_
  refine G_region ?_
  refine GL_box rfl rfl rfl (fun b1 => ?_)
  refine GL_step rfl (PS_assign rfl) ?_
  refine GL_nil ?_
  refine GQ_sub (.cons (k := 1) rfl (.nil _)) ?_
  refine GQ_then ?_
  refine G_seq ?_
  refine G_seq ?_
  refine G_region ?_
  refine GL_step rfl (PS_move rfl) ?_
  refine GL_nil ?_
  refine GQ_then ?_
  refine G_block ?_
  refine G_subF (.cons (k := 4) rfl (.cons (k := 1) rfl (.nil _))) ?_
  refine G_loop1_ (fun (k : Int) => 0 ≤ k ∧ k ≤ 3 ∧ X.good = (allFrom 3 (fun i => !X.badOpt i) (3 - k).toNat && (!(!decide (X.us.at 2 = 0) || !decide (X.them.at 0 = 0)) && X.goodA))) (fun (k : Int) => (3 - k).toNat) (fun (k : Int) => [(4, .int .i64 k)]) (fun (k : Int) => []) (0) ?_ rfl rfl (fun k hI1 => ?_)
  · exact ⟨Int.le_refl _, by omega, rfl⟩
  obtain ⟨hI11, hI12, hI13⟩ := hI1
  refine G_seq ?_
  refine G_region ?_
  refine GL_step rfl (PS_lss rfl rfl) ?_
  refine GL_nil ?_
  refine GQ_then ?_
  refine G_seq ?_
  refine G_cond rfl (fun c1 => ?_) (fun c1 => ?_)
  · skip
    have c1p := c1
    try simp only [decide_eq_true_eq, decide_eq_false_iff_not, Bool.not_eq_true', Bool.not_eq_false', Bool.or_eq_true, Bool.and_eq_true, Bool.or_eq_false_iff, Bool.and_eq_false_iff, Int.not_lt, Int.not_le] at c1p
    rw [allFrom_step _ (by omega)] at hI13
    refine G_skip ?_
    refine GQ_sub (.cons (k := 1) rfl (.cons (k := 4) rfl (.nil _))) ?_
    refine GQ_then ?_
    refine G_seq ?_
    refine G_block ?_
    refine G_seq ?_
    refine G_region ?_
    refine GL_step rfl (PS_move rfl) ?_
    refine GL_step rfl (PS_assign rfl) ?_
    refine GL_nil ?_
    refine GQ_sub (.cons (k := 1) rfl (.cons (k := 3) rfl (.cons (k := 4) rfl (.nil _)))) ?_
    refine GQ_then ?_
    refine G_seq ?_
    refine G_region ?_
    refine GL_step rfl (PS_move rfl) ?_
    refine GL_step rfl (PS_fieldAddr fa41_3 rfl) ?_
    refine GL_step rfl (PS_indexAddr ia39 rfl rfl (by omega) (by omega)) ?_
    refine GL_step rfl (PS_load rfl tys3 (.head _) (Telnet.l3.comp (Lens.arr (n := 3) flI (by omega) (by omega))) rfl rfl) ?_
    refine GL_step rfl (PS_lss rfl rfl) ?_
    refine GL_step rfl (PS_move rfl) ?_
    refine GL_gf (t := 12) rfl rfl rfl (fun q => PS_move rfl) ?_
    refine GL_gf (t := 12) rfl rfl rfl (fun q => PS_fieldAddr fa41_3 rfl) ?_
    refine GL_gf (t := 12) rfl rfl rfl (fun q => by have q1 := q; (try simp at q1); exact PS_indexAddr ia39 (cvE rfl (by rw [q]; rfl)) (cvE rfl (by rw [q]; rfl)) (by omega) (by omega)) ?_
    refine GL_gf (t := 12) rfl rfl rfl (fun q => by have q1 := q; (try simp at q1); exact PS_load (cvE rfl (by rw [q]; rfl)) tys3 (.head _) (Telnet.l3.comp (Lens.arr (n := 3) flI (by omega) (by omega))) rfl rfl) ?_
    refine GL_gf (t := 12) rfl rfl rfl (fun q => PS_gtr (cvE rfl (by rw [q]; rfl)) rfl) ?_
    refine GL_step rfl (PS_or rfl rfl (fun h => by rw [h]; rfl)) ?_
    refine GL_step rfl (PS_move rfl) ?_
    refine GL_gf (t := 19) rfl rfl rfl (fun q => PS_move rfl) ?_
    refine GL_gf (t := 19) rfl rfl rfl (fun q => PS_fieldAddr fa41_4 rfl) ?_
    refine GL_gf (t := 19) rfl rfl rfl (fun q => by have q1 := q; (try simp at q1); exact PS_indexAddr ia39 (cvE rfl (by rw [q]; rfl)) (cvE rfl (by rw [q]; rfl)) (by omega) (by omega)) ?_
    refine GL_gf (t := 19) rfl rfl rfl (fun q => by have q1 := q; (try simp at q1); exact PS_load (cvE rfl (by rw [q]; rfl)) tys3 (.head _) (Telnet.l4.comp (Lens.arr (n := 3) flI (by omega) (by omega))) rfl rfl) ?_
    refine GL_gf (t := 19) rfl rfl rfl (fun q => PS_lss (cvE rfl (by rw [q]; rfl)) rfl) ?_
    refine GL_step rfl (PS_or rfl rfl (fun h => by rw [h]; rfl)) ?_
    refine GL_step rfl (PS_move rfl) ?_
    refine GL_gf (t := 26) rfl rfl rfl (fun q => PS_move rfl) ?_
    refine GL_gf (t := 26) rfl rfl rfl (fun q => PS_fieldAddr fa41_4 rfl) ?_
    refine GL_gf (t := 26) rfl rfl rfl (fun q => by have q1 := q; (try simp at q1); exact PS_indexAddr ia39 (cvE rfl (by rw [q]; rfl)) (cvE rfl (by rw [q]; rfl)) (by omega) (by omega)) ?_
    refine GL_gf (t := 26) rfl rfl rfl (fun q => by have q1 := q; (try simp at q1); exact PS_load (cvE rfl (by rw [q]; rfl)) tys3 (.head _) (Telnet.l4.comp (Lens.arr (n := 3) flI (by omega) (by omega))) rfl rfl) ?_
    refine GL_gf (t := 26) rfl rfl rfl (fun q => PS_gtr (cvE rfl (by rw [q]; rfl)) rfl) ?_
    refine GL_step rfl (PS_or rfl rfl (fun h => by rw [h]; rfl)) ?_
    refine GL_nil ?_
    refine GQ_sub (.cons (k := 1) rfl (.cons (k := 4) rfl (.cons (k := 32) rfl (.nil _)))) ?_
    refine GQ_then ?_
    refine G_cond rfl (fun c2 => ?_) (fun c2 => ?_)
    · skip
      have c2p := c2
      try simp only [decide_eq_true_eq, decide_eq_false_iff_not, Bool.not_eq_true', Bool.not_eq_false', Bool.or_eq_true, Bool.and_eq_true, Bool.or_eq_false_iff, Bool.and_eq_false_iff, Int.not_lt, Int.not_le] at c2p
      refine G_seq ?_
      refine G_region ?_
      refine GL_step rfl (PS_assign rfl) ?_
      refine GL_nil ?_
      refine GQ_sub (.cons (k := 2) rfl (.nil _)) ?_
      refine GQ_then ?_
      refine G_ret ?_
      refine GQ_block_ret ?_
      refine GQ_then_ret ?_
      refine GQ_then_ret ?_
      refine GQ_block_ret ?_
      refine GQ_then_ret ?_
      refine GQ_ret rfl (.tmp rfl .nil) ?_
      intro w1 hS; refine ⟨congrArg Value.bool ?_, hS.toKeep⟩; rw [hI13, Telnet.badOpt, c2]; rfl
    · skip
      have c2p := c2
      try simp only [decide_eq_true_eq, decide_eq_false_iff_not, Bool.not_eq_true', Bool.not_eq_false', Bool.or_eq_true, Bool.and_eq_true, Bool.or_eq_false_iff, Bool.and_eq_false_iff, Int.not_lt, Int.not_le] at c2p
      refine G_skip ?_
      refine GQ_sub (.cons (k := 1) rfl (.cons (k := 4) rfl (.nil _))) ?_
      refine GQ_block ?_
      refine GQ_then ?_
      refine G_region ?_
      refine GL_step rfl (PS_add rfl rfl (IntWalk.i64_in _ (by omega))) ?_
      refine GL_step rfl (PS_move rfl) ?_
      refine GL_nil ?_
      refine GQ_sub (.cons (k := 1) rfl (.cons (k := 4) rfl (.nil _))) ?_
      refine GQ_next1_ (k + 1) ?_ ?_ (.cons (k := 4) rfl (.cons (k := 1) rfl (.nil _))) (.refl _)
      · exact ⟨by omega, by omega, by rw [hI13, Telnet.badOpt, c2]; rfl⟩
      · omega
  · skip
    have c1p := c1
    try simp only [decide_eq_true_eq, decide_eq_false_iff_not, Bool.not_eq_true', Bool.not_eq_false', Bool.or_eq_true, Bool.and_eq_true, Bool.or_eq_false_iff, Bool.and_eq_false_iff, Int.not_lt, Int.not_le] at c1p
    obtain rfl : k = 3 := by omega
    refine G_exit ?_
    refine GQ_then_exit ?_
    refine GQ_then_exit ?_
    refine GQ_block_exit ?_
    refine GQ_sub (.cons (k := 1) rfl (.nil _)) ?_
    refine GQ_then ?_
    refine G_seq ?_
    refine G_seq ?_
    refine G_region ?_
    refine GL_step rfl (PS_fieldAddr fa41_3 rfl) ?_
    refine GL_step rfl (PS_indexAddr ia39 rfl rfl (by decide) (by decide)) ?_
    refine GL_step rfl (PS_load rfl tys3 (.head _) (Telnet.l3.comp (Lens.arr (n := 3) flI (by decide) (by decide))) rfl rfl) ?_
    refine GL_step rfl (PS_neq rfl rfl) ?_
    refine GL_step rfl (PS_move rfl) ?_
    refine GL_gf (t := 38) rfl rfl rfl (fun q => PS_fieldAddr fa41_4 rfl) ?_
    refine GL_gf (t := 38) rfl rfl rfl (fun q => PS_indexAddr ia39 (cvE rfl (by rw [q]; rfl)) rfl (by decide) (by decide)) ?_
    refine GL_gf (t := 38) rfl rfl rfl (fun q => PS_load (cvE rfl (by rw [q]; rfl)) tys3 (.head _) (Telnet.l4.comp (Lens.arr (n := 3) flI (by decide) (by decide))) rfl rfl) ?_
    refine GL_gf (t := 38) rfl rfl rfl (fun q => PS_neq (cvE rfl (by rw [q]; rfl)) rfl) ?_
    refine GL_step rfl (PS_or rfl rfl (fun h => by rw [h]; rfl)) ?_
    refine GL_nil ?_
    refine GQ_sub (.cons (k := 1) rfl (.cons (k := 43) rfl (.nil _))) ?_
    refine GQ_then ?_
    refine G_cond rfl (fun c3 => ?_) (fun c3 => ?_)
    · skip
      have c3p := c3
      try simp only [decide_eq_true_eq, decide_eq_false_iff_not, Bool.not_eq_true', Bool.not_eq_false', Bool.or_eq_true, Bool.and_eq_true, Bool.or_eq_false_iff, Bool.and_eq_false_iff, Int.not_lt, Int.not_le] at c3p
      refine G_seq ?_
      refine G_region ?_
      refine GL_step rfl (PS_assign rfl) ?_
      refine GL_nil ?_
      refine GQ_sub (.cons (k := 2) rfl (.nil _)) ?_
      refine GQ_then ?_
      refine G_ret ?_
      refine GQ_then_ret ?_
      refine GQ_ret rfl (.tmp rfl .nil) ?_
      intro w1 hS; refine ⟨congrArg Value.bool ?_, hS.toKeep⟩; rw [hI13, c3]; rfl
    · skip
      have c3p := c3
      try simp only [decide_eq_true_eq, decide_eq_false_iff_not, Bool.not_eq_true', Bool.not_eq_false', Bool.or_eq_true, Bool.and_eq_true, Bool.or_eq_false_iff, Bool.and_eq_false_iff, Int.not_lt, Int.not_le] at c3p
      refine G_skip ?_
      refine GQ_sub (.cons (k := 1) rfl (.nil _)) ?_
      refine GQ_then ?_
      refine G_seq ?_
      refine G_region ?_
      refine GL_step rfl (PS_fieldAddr fa41_0 rfl) ?_
      refine GL_step rfl (PS_load rfl tys3 (.head _) Telnet.l0 rfl rfl) ?_
      refine GL_step rfl (PS_geq rfl rfl) ?_
      refine GL_step rfl (PS_move rfl) ?_
      refine GL_gt (t := 47) rfl rfl rfl (fun q => PS_fieldAddr fa41_0 rfl) ?_
      refine GL_gt (t := 47) rfl rfl rfl (fun q => PS_load (cvE rfl q) tys3 (.head _) Telnet.l0 rfl rfl) ?_
      refine GL_gt (t := 47) rfl rfl rfl (fun q => PS_leq (cvE rfl q) rfl) ?_
      refine GL_step rfl (PS_and rfl rfl (fun h => h)) ?_
      refine GL_step rfl (PS_move rfl) ?_
      refine GL_gt (t := 52) rfl rfl rfl (fun q => PS_fieldAddr fa41_0 rfl) ?_
      refine GL_gt (t := 52) rfl rfl rfl (fun q => PS_load (cvE rfl q) tys3 (.head _) Telnet.l0 rfl rfl) ?_
      refine GL_gt (t := 52) rfl rfl rfl (fun q => PS_eql (cvE rfl q) rfl) ?_
      refine GL_gt (t := 52) rfl rfl rfl (fun q => PS_fieldAddr fa41_1 rfl) ?_
      refine GL_gt (t := 52) rfl rfl rfl (fun q => PS_load (cvE rfl q) tys3 (.head _) Telnet.l1 rfl rfl) ?_
      refine GL_gt (t := 52) rfl rfl rfl (fun q => PS_neq (cvE rfl q) rfl) ?_
      refine GL_gt (t := 52) rfl rfl rfl (fun q => PS_eql_bool Tryd.underlying4 (cvE rfl q) (cvE rfl q)) ?_
      refine GL_step rfl (PS_and rfl rfl (fun h => h)) ?_
      refine GL_step rfl (PS_move rfl) ?_
      refine GL_gt (t := 61) rfl rfl rfl (fun q => PS_fieldAddr fa41_1 rfl) ?_
      refine GL_gt (t := 61) rfl rfl rfl (fun q => PS_load (cvE rfl q) tys3 (.head _) Telnet.l1 rfl rfl) ?_
      refine GL_gt (t := 61) rfl rfl rfl (fun q => PS_eql (cvE rfl q) rfl) ?_
      refine GL_gt (t := 61) rfl rfl rfl (fun q => PS_move (cvE rfl q)) ?_
      refine GL_gfc (t := 65) rfl rfl rfl (fun qc q => PS_fieldAddr fa41_1 rfl) ?_
      refine GL_gfc (t := 65) rfl rfl rfl (fun qc q => PS_load (cvE rfl (by rw [qc, q]; rfl)) tys3 (.head _) Telnet.l1 rfl rfl) ?_
      refine GL_gfc (t := 65) rfl rfl rfl (fun qc q => PS_geq (cvE rfl (by rw [qc, q]; rfl)) rfl) ?_
      refine GL_gfc (t := 65) rfl rfl rfl (fun qc q => PS_move (cvE rfl (by rw [qc, q]; rfl))) ?_
      refine GL_gtc (t := 69) rfl rfl rfl (fun qc q => PS_fieldAddr fa41_1 rfl) ?_
      refine GL_gtc (t := 69) rfl rfl rfl (fun qc q => PS_load (cvE rfl (by rw [qc, q]; rfl)) tys3 (.head _) Telnet.l1 rfl rfl) ?_
      refine GL_gtc (t := 69) rfl rfl rfl (fun qc q => PS_leq (cvE rfl (by rw [qc, q]; rfl)) rfl) ?_
      refine GL_gfc (t := 65) rfl rfl rfl (fun qc q => PS_and (cvE rfl (by rw [qc, q]; rfl)) rfl (fun h => by rw [qc, q, h]; rfl)) ?_
      refine GL_gt (t := 61) rfl rfl rfl (fun q => PS_or (cvE rfl q) rfl (fun h => by rw [q, h]; rfl)) ?_
      refine GL_step rfl (PS_and rfl rfl (fun h => h)) ?_
      refine GL_step rfl (PS_move rfl) ?_
      refine GL_gt (t := 76) rfl rfl rfl (fun q => PS_fieldAddr fa41_2 rfl) ?_
      refine GL_gt (t := 76) rfl rfl rfl (fun q => PS_load (cvE rfl q) tys9 (.head _) Telnet.l2 rfl rfl) ?_
      refine GL_gt (t := 76) rfl rfl rfl (fun q => PS_len_str rfl Tryd.underlying9 (cvE rfl q)) ?_
      refine GL_gt (t := 76) rfl rfl rfl (fun q => PS_leq (cvE rfl q) rfl) ?_
      refine GL_step rfl (PS_and rfl rfl (fun h => h)) ?_
      refine GL_step rfl (PS_move rfl) ?_
      refine GL_gt (t := 82) rfl rfl rfl (fun q => PS_fieldAddr fa41_0 rfl) ?_
      refine GL_gt (t := 82) rfl rfl rfl (fun q => PS_load (cvE rfl q) tys3 (.head _) Telnet.l0 rfl rfl) ?_
      refine GL_gt (t := 82) rfl rfl rfl (fun q => PS_geq (cvE rfl q) rfl) ?_
      refine GL_gt (t := 82) rfl rfl rfl (fun q => PS_move (cvE rfl q)) ?_
      refine GL_gfc (t := 86) rfl rfl rfl (fun qc q => PS_fieldAddr fa41_2 rfl) ?_
      refine GL_gfc (t := 86) rfl rfl rfl (fun qc q => PS_load (cvE rfl (by rw [qc, q]; rfl)) tys9 (.head _) Telnet.l2 rfl rfl) ?_
      refine GL_gfc (t := 86) rfl rfl rfl (fun qc q => PS_eql_str (cvE rfl (by rw [qc, q]; rfl)) rfl) ?_
      refine GL_gt (t := 82) rfl rfl rfl (fun q => PS_or (cvE rfl q) rfl (fun h => by rw [q, h]; rfl)) ?_
      refine GL_step rfl (PS_and rfl rfl (fun h => h)) ?_
      refine GL_step rfl (PS_move rfl) ?_
      refine GL_gt (t := 92) rfl rfl rfl (fun q => PS_fieldAddr fa41_5 rfl) ?_
      refine GL_gt (t := 92) rfl rfl rfl (fun q => PS_load (cvE rfl q) tys3 (.head _) Telnet.l5 rfl rfl) ?_
      refine GL_gt (t := 92) rfl rfl rfl (fun q => PS_geq (cvE rfl q) rfl) ?_
      refine GL_step rfl (PS_and rfl rfl (fun h => h)) ?_
      refine GL_step rfl (PS_move rfl) ?_
      refine GL_gt (t := 97) rfl rfl rfl (fun q => PS_fieldAddr fa41_5 rfl) ?_
      refine GL_gt (t := 97) rfl rfl rfl (fun q => PS_load (cvE rfl q) tys3 (.head _) Telnet.l5 rfl rfl) ?_
      refine GL_gt (t := 97) rfl rfl rfl (fun q => PS_leq (cvE rfl q) rfl) ?_
      refine GL_step rfl (PS_and rfl rfl (fun h => h)) ?_
      refine GL_step rfl (PS_assign rfl) ?_
      refine GL_nil ?_
      refine GQ_sub (.cons (k := 2) rfl (.nil _)) ?_
      refine GQ_then ?_
      refine G_ret ?_
      refine GQ_ret rfl (.tmp rfl .nil) ?_
      intro w1 hS; refine ⟨congrArg Value.bool ?_, hS.toKeep⟩; rw [hI13, c3]; rfl
theorem strings_Builder_copyCheck_spec (b : Nat) (p : Option Addr) (h : Hd) (hp : p = none ∨ p = some ⟨b, 0, none⟩) : Ctr Tryd.prog 43 #[.pointer (some ⟨b, 0, none⟩)] [Res.box b 52 (BldV.enc ⟨p, h⟩)] (fun v B => v = .tuple #[] ∧ B = [Res.box b 52 (BldV.enc ⟨some ⟨b, 0, none⟩, h⟩)]) := by
  intro w hS0
  refine Ret_body _ _ Tryd.func43 rfl rfl rfl (hS0) ?_
  refine G_seq ?_
  refine G_region ?_
  refine GL_step rfl (PS_move rfl) ?_
  refine GL_step rfl (PS_nilCheck rfl) ?_
  refine GL_step rfl (PS_fieldAddr fa52_0 rfl) ?_
  refine GL_step rfl (PS_load rfl tys49 (.head _) BldV.l0 rfl rfl) ?_
  refine GL_step rfl (PS_eqp_nil Tryd.underlying49 rfl) ?_
  refine GL_nil ?_
  refine GQ_sub (.cons (k := 0) rfl (.cons (k := 6) rfl (.nil _))) ?_
  refine GQ_then ?_
  refine G_cond rfl (fun c1 => ?_) (fun c1 => ?_)
  · skip
    have c1p := c1
    try simp only [decide_eq_true_eq, decide_eq_false_iff_not, Bool.not_eq_true', Bool.not_eq_false', Bool.or_eq_true, Bool.and_eq_true, Bool.or_eq_false_iff, Bool.and_eq_false_iff, Int.not_lt, Int.not_le] at c1p
    obtain rfl : p = none := by simpa using c1
    refine G_region ?_
    refine GL_step rfl (PS_move rfl) ?_
    refine GL_step rfl (PS_move rfl) ?_
    refine GL_step rfl ((let ⟨_, h, h2⟩ := inf52; PS_toUnsafe Tryd.underlying49 Tryd.underlying81 h h2 rfl (.head _) (by rw [BldV.fl.len]; decide))) ?_
    refine GL_step rfl (PS_noEscape Tryd.func51 (by kernel_rfl) (by kernel_rfl) (by kernel_rfl) (by kernel_rfl) rfl) ?_
    refine GL_step rfl ((let ⟨_, h, _⟩ := inf52; PS_fromUnsafe Tryd.underlying81 Tryd.underlying49 h rfl (.head _) (by rw [BldV.fl.len]; kernel_rfl))) ?_
    refine GL_step rfl (PS_nilCheck rfl) ?_
    refine GL_step rfl (PS_fieldAddr fa52_0 rfl) ?_
    refine GL_unit (PU_store BldV.l0 rfl rfl rfl sz49 rfl .head) ?_
    refine GL_nil ?_
    refine GQ_end rfl .nil ?_
    intro w1 hS
    have hS := (hS.perm (Pulls.perm (.cons .head .nil))).headL
    exact ⟨_, ⟨rfl, rfl⟩, hS⟩
  · skip
    have c1p := c1
    try simp only [decide_eq_true_eq, decide_eq_false_iff_not, Bool.not_eq_true', Bool.not_eq_false', Bool.or_eq_true, Bool.and_eq_true, Bool.or_eq_false_iff, Bool.and_eq_false_iff, Int.not_lt, Int.not_le] at c1p
    obtain rfl : p = some ⟨b, 0, none⟩ := by rcases hp with h | h; (subst h; simp at c1); exact h
    refine G_seq ?_
    refine G_region ?_
    refine GL_step rfl (PS_move rfl) ?_
    refine GL_step rfl (PS_nilCheck rfl) ?_
    refine GL_step rfl (PS_fieldAddr fa52_0 rfl) ?_
    refine GL_step rfl (PS_load rfl tys49 (.head _) BldV.l0 rfl rfl) ?_
    refine GL_step rfl (PS_move rfl) ?_
    refine GL_step rfl ((let ⟨_, h, _⟩ := inf52; PS_neqp_same Tryd.underlying49 h rfl rfl)) ?_
    refine GL_nil ?_
    refine GQ_sub (.cons (k := 19) rfl (.nil _)) ?_
    refine GQ_then ?_
    refine G_false rfl rfl ?_
    refine G_skip ?_
    refine GQ_end rfl .nil ?_
    intro w1 hS
    have hS := (hS.perm (Pulls.perm (.cons .head .nil))).headL
    exact ⟨_, ⟨rfl, rfl⟩, hS⟩
theorem strings_Builder_WriteByte_spec (b : Nat) (p : Option Addr) (h : Hd) (s : Str) (hp : p = none ∨ p = some ⟨b, 0, none⟩) (hz : h.Z) (hl : h.len = s.length) (c : UInt8) (hb : s.length < 140737488355000) : Ctr Tryd.prog 33 #[.pointer (some ⟨b, 0, none⟩), .int .u8 (c.toNat : Int)] [Res.box b 52 (BldV.enc ⟨p, h⟩), Res.own h 5 1 (s.flatMap encY)] (fun v B => ∃ p' h', v = .nilIface ∧ (p' = none ∨ p' = some ⟨b, 0, none⟩) ∧ h'.Z ∧ h'.len = (s ++ [c]).length ∧ B = [Res.box b 52 (BldV.enc ⟨p', h'⟩), Res.own h' 5 1 ((s ++ [c]).flatMap encY)]) := by
  intro w hS0
  refine Ret_body _ _ Tryd.func33 rfl rfl rfl (hS0) ?_
  refine G_seq ?_
  refine G_region ?_
  refine GL_step rfl (PS_assign rfl) ?_
  refine GL_nil ?_
  refine GQ_sub (.cons (k := 0) rfl (.cons (k := 1) rfl (.nil _))) ?_
  refine GQ_then ?_
  refine G_seq ?_
  refine G_region ?_
  refine GL_step rfl (PS_move rfl) ?_
  refine GL_callL rfl cf43 (.cons rfl .nil) (.cons .head .nil) (strings_Builder_copyCheck_spec _ _ _ (by first | assumption | omega)) (fun v1 B hv => ?_)
  obtain ⟨rfl, rfl⟩ := hv
  refine GL_nil ?_
  refine GQ_sub (.cons (k := 0) rfl (.cons (k := 1) rfl (.nil _))) ?_
  refine GQ_then ?_
  refine G_seq ?_
  refine G_region ?_
  refine GL_step rfl (PS_move rfl) ?_
  refine GL_step rfl (PS_move rfl) ?_
  refine GL_step rfl (PS_nilCheck rfl) ?_
  refine GL_step rfl (PS_fieldAddr fa52_1 rfl) ?_
  refine GL_step rfl (PS_load rfl tys50 (.head _) BldV.l1 rfl rfl) ?_
  refine GL_step rfl (PS_move rfl) ?_
  refine GL_bs1 rfl Tryd.underlying50 sz5 zv5 rfl (by decide) (by decide) rfl rfl rfl (fun b1 => ?_)
  refine GL_appendG rfl Tryd.underlying50 sz5 zv5 rfl by5 (by decide) (by decide) rfl rfl (fun w hS => Src.sliceT Tryd.underlying50 ((Kn.own (.head _)) w hS)) (by intro v hv; simp at hv; subst hv; rfl) (by dsimp only; omega) (fun _ => (.tail (.tail .head))) (fun h2 h2l h2z => ?_)
  have h2z := h2z hz; dsimp only at h2l
  refine GL_step rfl (PS_nilCheck rfl) ?_
  refine GL_step rfl (PS_fieldAddr fa52_1 rfl) ?_
  refine GL_unit (PU_store BldV.l1 rfl rfl rfl sz50 rfl (.tail .head)) ?_
  refine GL_nil ?_
  refine GQ_sub (.nil _) ?_
  refine GQ_then ?_
  refine G_seq ?_
  refine G_region ?_
  refine GL_step rfl (PS_assign rfl) ?_
  refine GL_nil ?_
  refine GQ_then ?_
  refine G_ret ?_
  refine GQ_ret rfl (.tmp rfl .nil) ?_
  intro w1 hS
  have hS := (hS.perm (Pulls.perm (.cons (.tail .head) (.cons (.tail .head) .nil)))).headL
  exact ⟨_, ⟨_, _, rfl, .inr rfl, by assumption, by simp; omega, by rw [List.flatMap_append]; rfl⟩, hS⟩
theorem telnet_place_spec (opt : Int) (w : World) : Ret Tryd.prog 44 #[.int .i64 opt] w fun v w' => v = .tuple #[.int .i64 (Telnet.place opt).1, .bool (Telnet.place opt).2.1, .bool (Telnet.place opt).2.2] ∧ Keep w w' := by
  refine Ret_body [] [] Tryd.func44 rfl rfl rfl (St.start w []) ?_
  refine G_seq ?_
  refine G_region ?_
  refine GL_step rfl (PS_assign rfl) ?_
  refine GL_step rfl (PS_assign rfl) ?_
  refine GL_step rfl (PS_assign rfl) ?_
  refine GL_nil ?_
  refine GQ_sub (.cons (k := 0) rfl (.nil _)) ?_
  refine GQ_then ?_
  refine G_seq ?_
  refine G_seq ?_
  refine G_region ?_
  refine GL_step rfl (PS_move rfl) ?_
  refine GL_nil ?_
  refine GQ_sub (.cons (k := 5) rfl (.nil _)) ?_
  refine GQ_then ?_
  refine G_block ?_
  refine G_seq ?_
  refine G_region ?_
  refine GL_step rfl (PS_eql rfl rfl) ?_
  refine GL_step rfl (PS_assign rfl) ?_
  refine GL_nil ?_
  refine GQ_sub (.cons (k := 5) rfl (.cons (k := 6) rfl (.nil _))) ?_
  refine GQ_then ?_
  refine G_cond rfl (fun c1 => ?_) (fun c1 => ?_)
  · skip
    have c1p := c1
    try simp only [decide_eq_true_eq, decide_eq_false_iff_not, Bool.not_eq_true', Bool.not_eq_false', Bool.or_eq_true, Bool.and_eq_true, Bool.or_eq_false_iff, Bool.and_eq_false_iff, Int.not_lt, Int.not_le] at c1p
    refine G_seq ?_
    refine G_region ?_
    refine GL_step rfl (PS_assign rfl) ?_
    refine GL_step rfl (PS_assign rfl) ?_
    refine GL_step rfl (PS_assign rfl) ?_
    refine GL_nil ?_
    refine GQ_sub (.cons (k := 2) rfl (.cons (k := 3) rfl (.cons (k := 4) rfl (.nil _)))) ?_
    refine GQ_then ?_
    refine G_ret ?_
    refine GQ_block_ret ?_
    refine GQ_then_ret ?_
    refine GQ_ret rfl (.tmp rfl (.tmp rfl (.tmp rfl .nil))) ?_
    intro w1 hS; refine ⟨?_, hS.toKeep⟩; simp only [Telnet.place, c1, ↓reduceIte, Bool.false_eq_true]; rfl
  · skip
    have c1p := c1
    try simp only [decide_eq_true_eq, decide_eq_false_iff_not, Bool.not_eq_true', Bool.not_eq_false', Bool.or_eq_true, Bool.and_eq_true, Bool.or_eq_false_iff, Bool.and_eq_false_iff, Int.not_lt, Int.not_le] at c1p
    refine G_seq ?_
    refine G_region ?_
    refine GL_step rfl (PS_eql rfl rfl) ?_
    refine GL_step rfl (PS_assign rfl) ?_
    refine GL_nil ?_
    refine GQ_sub (.cons (k := 5) rfl (.cons (k := 8) rfl (.nil _))) ?_
    refine GQ_then ?_
    refine G_cond rfl (fun c2 => ?_) (fun c2 => ?_)
    · skip
      have c2p := c2
      try simp only [decide_eq_true_eq, decide_eq_false_iff_not, Bool.not_eq_true', Bool.not_eq_false', Bool.or_eq_true, Bool.and_eq_true, Bool.or_eq_false_iff, Bool.and_eq_false_iff, Int.not_lt, Int.not_le] at c2p
      refine G_seq ?_
      refine G_region ?_
      refine GL_step rfl (PS_assign rfl) ?_
      refine GL_step rfl (PS_assign rfl) ?_
      refine GL_step rfl (PS_assign rfl) ?_
      refine GL_nil ?_
      refine GQ_sub (.cons (k := 2) rfl (.cons (k := 3) rfl (.cons (k := 4) rfl (.nil _)))) ?_
      refine GQ_then ?_
      refine G_ret ?_
      refine GQ_block_ret ?_
      refine GQ_then_ret ?_
      refine GQ_ret rfl (.tmp rfl (.tmp rfl (.tmp rfl .nil))) ?_
      intro w1 hS; refine ⟨?_, hS.toKeep⟩; simp only [Telnet.place, c1, c2, ↓reduceIte, Bool.false_eq_true]; rfl
    · skip
      have c2p := c2
      try simp only [decide_eq_true_eq, decide_eq_false_iff_not, Bool.not_eq_true', Bool.not_eq_false', Bool.or_eq_true, Bool.and_eq_true, Bool.or_eq_false_iff, Bool.and_eq_false_iff, Int.not_lt, Int.not_le] at c2p
      refine G_seq ?_
      refine G_region ?_
      refine GL_step rfl (PS_eql rfl rfl) ?_
      refine GL_step rfl (PS_assign rfl) ?_
      refine GL_nil ?_
      refine GQ_sub (.cons (k := 10) rfl (.nil _)) ?_
      refine GQ_then ?_
      refine G_cond rfl (fun c3 => ?_) (fun c3 => ?_)
      · skip
        have c3p := c3
        try simp only [decide_eq_true_eq, decide_eq_false_iff_not, Bool.not_eq_true', Bool.not_eq_false', Bool.or_eq_true, Bool.and_eq_true, Bool.or_eq_false_iff, Bool.and_eq_false_iff, Int.not_lt, Int.not_le] at c3p
        refine G_seq ?_
        refine G_region ?_
        refine GL_step rfl (PS_assign rfl) ?_
        refine GL_step rfl (PS_assign rfl) ?_
        refine GL_step rfl (PS_assign rfl) ?_
        refine GL_nil ?_
        refine GQ_sub (.cons (k := 2) rfl (.cons (k := 3) rfl (.cons (k := 4) rfl (.nil _)))) ?_
        refine GQ_then ?_
        refine G_ret ?_
        refine GQ_block_ret ?_
        refine GQ_then_ret ?_
        refine GQ_ret rfl (.tmp rfl (.tmp rfl (.tmp rfl .nil))) ?_
        intro w1 hS; refine ⟨?_, hS.toKeep⟩; simp only [Telnet.place, c1, c2, c3, ↓reduceIte, Bool.false_eq_true]; rfl
      · skip
        have c3p := c3
        try simp only [decide_eq_true_eq, decide_eq_false_iff_not, Bool.not_eq_true', Bool.not_eq_false', Bool.or_eq_true, Bool.and_eq_true, Bool.or_eq_false_iff, Bool.and_eq_false_iff, Int.not_lt, Int.not_le] at c3p
        refine G_skip ?_
        refine GQ_sub (.nil _) ?_
        refine GQ_block ?_
        refine GQ_then ?_
        refine G_seq ?_
        refine G_region ?_
        refine GL_step rfl (PS_assign rfl) ?_
        refine GL_step rfl (PS_assign rfl) ?_
        refine GL_step rfl (PS_assign rfl) ?_
        refine GL_nil ?_
        refine GQ_then ?_
        refine G_ret ?_
        refine GQ_ret rfl (.tmp rfl (.tmp rfl (.tmp rfl .nil))) ?_
        intro w1 hS; refine ⟨?_, hS.toKeep⟩; simp only [Telnet.place, c1, c2, c3, ↓reduceIte, Bool.false_eq_true]; rfl
theorem telnet_say_spec (verb opt : Int) (h0 : 0 ≤ verb ∧ verb ≤ 255) (h1 : 0 ≤ opt ∧ opt ≤ 255) (w : World) : Ret Tryd.prog 45 #[.int .i64 verb, .int .i64 opt] w fun v w' => v = vstr (Telnet.say verb opt) ∧ Keep w w' := by
  refine Ret_body [] [] Tryd.func45 rfl rfl rfl (St.start w []) ?_
  refine G_seq ?_
  refine G_region ?_
  refine GL_step rfl (PS_assign rfl) ?_
  refine GL_nil ?_
  refine GQ_sub (.cons (k := 0) rfl (.cons (k := 1) rfl (.nil _))) ?_
  refine GQ_then ?_
  refine G_seq ?_
  refine G_region ?_
  refine GL_step rfl (PS_move rfl) ?_
  refine GL_step rfl (PS_toInt Tryd.underlying5 Tryd.underlying3 rfl (IntWalk.u8_in _ (by omega))) ?_
  refine GL_step rfl (PS_move rfl) ?_
  refine GL_step rfl (PS_toInt Tryd.underlying5 Tryd.underlying3 rfl (IntWalk.u8_in _ (by omega))) ?_
  refine GL_bs (cs := encA (n := 3) encU (Vector.replicate 3 default)) rfl Tryd.underlying50 sz5 zv5 (by decide) (by decide) (by kernel_rfl) (.cons (Lens.arr (n := 3) (i := 0) flU (by decide) (by decide)) rfl rfl rfl (.cons (Lens.arr (n := 3) (i := 1) flU (by decide) (by decide)) rfl rfl rfl (.cons (Lens.arr (n := 3) (i := 2) flU (by decide) (by decide)) rfl rfl rfl .nil))) ((flA flU).len _) (fun b1 => ?_)
  refine GL_step rfl (PS_stringE (s := Telnet.say verb opt) (by rw [show (Telnet.say verb opt).flatMap encY = [.int .u8 255, .int .u8 verb, .int .u8 opt] from by simp [Telnet.say, encY, u8_val h0.1 h0.2, u8_val h1.1 h1.2]]; rfl) Tryd.underlying50 Tryd.underlying9 Tryd.underlying5 rfl (Kn.own (.head _))) ?_
  refine GL_step rfl (PS_assign rfl) ?_
  refine GL_nil ?_
  refine GQ_sub (.cons (k := 4) rfl (.nil _)) ?_
  refine GQ_then ?_
  refine G_ret ?_
  refine GQ_ret rfl (.tmp rfl .nil) ?_
  intro w1 hS; refine ⟨?_, hS.toKeep⟩; rfl
theorem telnet_turn_spec {α : Type} {ea : α → List Value} {o : Nat} {g : α → Int} {st : α → Int → α} (b V : Nat) (Y : α) (on : Bool) (opt yes no : Int) (h0 : 0 ≤ yes ∧ yes ≤ 255) (h1 : 0 ≤ no ∧ no ≤ 255) (h2 : 0 ≤ opt ∧ opt ≤ 255) (ln : Lens ea encI o 1 g st) : Ctr Tryd.prog 46 #[.pointer (some ⟨b, o, none⟩), .bool on, .int .i64 opt, .int .i64 yes, .int .i64 no] [Res.box b V (ea Y)] (fun v B => v = vstr (Telnet.turnS (g Y) on opt yes no) ∧ B = [Res.box b V (ea (st Y (Telnet.onI on)))]) := by
  intro w hS0
  refine Ret_body _ _ Tryd.func46 rfl rfl rfl (hS0) ?_
  refine G_seq ?_
  refine G_region ?_
  refine GL_step rfl (PS_assign rfl) ?_
  refine GL_nil ?_
  refine GQ_sub (.cons (k := 0) rfl (.cons (k := 1) rfl (.cons (k := 2) rfl (.cons (k := 3) rfl (.cons (k := 4) rfl (.nil _)))))) ?_
  refine GQ_then ?_
  refine G_seq ?_
  refine G_region ?_
  refine GL_step rfl (PS_move rfl) ?_
  refine GL_step rfl (PS_nilCheck rfl) ?_
  refine GL_step rfl (PS_load rfl tys3 (.head _) ln rfl rfl) ?_
  refine GL_step rfl (PS_assign rfl) ?_
  refine GL_nil ?_
  refine GQ_sub (.cons (k := 0) rfl (.cons (k := 1) rfl (.cons (k := 2) rfl (.cons (k := 3) rfl (.cons (k := 4) rfl (.cons (k := 11) rfl (.nil _))))))) ?_
  refine GQ_then ?_
  refine G_seq ?_
  refine G_region ?_
  refine GL_step rfl (PS_move rfl) ?_
  refine GL_step rfl (PS_nilCheck rfl) ?_
  refine GL_unit (PU_store ln rfl rfl rfl sz3 rfl .head) ?_
  refine GL_nil ?_
  refine GQ_sub (.cons (k := 0) rfl (.cons (k := 1) rfl (.cons (k := 2) rfl (.cons (k := 3) rfl (.cons (k := 4) rfl (.cons (k := 11) rfl (.nil _))))))) ?_
  refine GQ_then ?_
  refine G_seq ?_
  refine G_seq ?_
  refine G_region ?_
  refine GL_step rfl (PS_move rfl) ?_
  refine GL_nil ?_
  refine GQ_then ?_
  refine G_cond rfl (fun c1 => ?_) (fun c1 => ?_)
  · skip
    have c1p := c1
    try simp only [decide_eq_true_eq, decide_eq_false_iff_not, Bool.not_eq_true', Bool.not_eq_false', Bool.or_eq_true, Bool.and_eq_true, Bool.or_eq_false_iff, Bool.and_eq_false_iff, Int.not_lt, Int.not_le] at c1p
    refine G_region ?_
    refine GL_step rfl (PS_move rfl) ?_
    refine GL_step rfl (PS_nilCheck rfl) ?_
    refine GL_unit (PU_store ln rfl rfl rfl sz3 rfl .head) ?_
    refine GL_nil ?_
    refine GQ_sub (.cons (k := 1) rfl (.cons (k := 2) rfl (.cons (k := 3) rfl (.cons (k := 4) rfl (.cons (k := 11) rfl (.nil _)))))) ?_
    refine GQ_then ?_
    refine G_seq ?_
    refine G_block ?_
    refine G_seq ?_
    refine G_region ?_
    refine GL_step rfl (PS_move rfl) ?_
    refine GL_step rfl (PS_move rfl) ?_
    refine GL_gt (t := 22) rfl rfl rfl (fun q => PS_move rfl) ?_
    refine GL_gt (t := 22) rfl rfl rfl (fun q => PS_eql (cvE rfl q) rfl) ?_
    refine GL_step rfl (PS_and rfl rfl (fun h => h)) ?_
    refine GL_step rfl (PS_assign rfl) ?_
    refine GL_nil ?_
    refine GQ_sub (.cons (k := 1) rfl (.cons (k := 2) rfl (.cons (k := 3) rfl (.cons (k := 4) rfl (.cons (k := 11) rfl (.cons (k := 20) rfl (.nil _))))))) ?_
    refine GQ_then ?_
    refine G_cond rfl (fun c2 => ?_) (fun c2 => ?_)
    · skip
      have c2p := c2
      try simp only [decide_eq_true_eq, decide_eq_false_iff_not, Bool.not_eq_true', Bool.not_eq_false', Bool.or_eq_true, Bool.and_eq_true, Bool.or_eq_false_iff, Bool.and_eq_false_iff, Int.not_lt, Int.not_le] at c2p
      refine G_seq ?_
      refine G_region ?_
      refine GL_step rfl (PS_move rfl) ?_
      refine GL_step rfl (PS_move rfl) ?_
      refine GL_pure rfl cf45 (.cons rfl (.cons rfl .nil)) (fun w hS => telnet_say_spec _ _ (by first | assumption | omega) (by first | assumption | omega) w) ?_
      refine GL_step rfl (PS_assign rfl) ?_
      refine GL_nil ?_
      refine GQ_sub (.cons (k := 10) rfl (.nil _)) ?_
      refine GQ_then ?_
      refine G_ret ?_
      refine GQ_block_ret ?_
      refine GQ_then_ret ?_
      refine GQ_ret rfl (.tmp rfl .nil) ?_
      intro w1 hS
      have hS := (hS.perm (Pulls.perm (.cons .head .nil))).headL
      exact ⟨_, ⟨by clear hS; simp_all [Telnet.turnS, tup], by simp only [Telnet.onI, ln.put_put, c1, c2, ↓reduceIte, Bool.false_eq_true]⟩, hS⟩
    · skip
      have c2p := c2
      try simp only [decide_eq_true_eq, decide_eq_false_iff_not, Bool.not_eq_true', Bool.not_eq_false', Bool.or_eq_true, Bool.and_eq_true, Bool.or_eq_false_iff, Bool.and_eq_false_iff, Int.not_lt, Int.not_le] at c2p
      refine G_seq ?_
      refine G_region ?_
      refine GL_step rfl (PS_move rfl) ?_
      refine GL_step rfl (PS_not rfl) ?_
      refine GL_step rfl (PS_move rfl) ?_
      refine GL_gt (t := 32) rfl rfl rfl (fun q => PS_move rfl) ?_
      refine GL_gt (t := 32) rfl rfl rfl (fun q => PS_eql (cvE rfl q) rfl) ?_
      refine GL_step rfl (PS_and rfl rfl (fun h => h)) ?_
      refine GL_step rfl (PS_assign rfl) ?_
      refine GL_nil ?_
      refine GQ_sub (.cons (k := 2) rfl (.cons (k := 4) rfl (.cons (k := 29) rfl (.nil _)))) ?_
      refine GQ_then ?_
      refine G_cond rfl (fun c3 => ?_) (fun c3 => ?_)
      · skip
        have c3p := c3
        try simp only [decide_eq_true_eq, decide_eq_false_iff_not, Bool.not_eq_true', Bool.not_eq_false', Bool.or_eq_true, Bool.and_eq_true, Bool.or_eq_false_iff, Bool.and_eq_false_iff, Int.not_lt, Int.not_le] at c3p
        refine G_seq ?_
        refine G_region ?_
        refine GL_step rfl (PS_move rfl) ?_
        refine GL_step rfl (PS_move rfl) ?_
        refine GL_pure rfl cf45 (.cons rfl (.cons rfl .nil)) (fun w hS => telnet_say_spec _ _ (by first | assumption | omega) (by first | assumption | omega) w) ?_
        refine GL_step rfl (PS_assign rfl) ?_
        refine GL_nil ?_
        refine GQ_sub (.cons (k := 10) rfl (.nil _)) ?_
        refine GQ_then ?_
        refine G_ret ?_
        refine GQ_block_ret ?_
        refine GQ_then_ret ?_
        refine GQ_ret rfl (.tmp rfl .nil) ?_
        intro w1 hS
        have hS := (hS.perm (Pulls.perm (.cons .head .nil))).headL
        exact ⟨_, ⟨by clear hS; simp_all [Telnet.turnS, tup], by simp only [Telnet.onI, ln.put_put, c1, c2, c3, ↓reduceIte, Bool.false_eq_true]⟩, hS⟩
      · skip
        have c3p := c3
        try simp only [decide_eq_true_eq, decide_eq_false_iff_not, Bool.not_eq_true', Bool.not_eq_false', Bool.or_eq_true, Bool.and_eq_true, Bool.or_eq_false_iff, Bool.and_eq_false_iff, Int.not_lt, Int.not_le] at c3p
        refine G_skip ?_
        refine GQ_sub (.nil _) ?_
        refine GQ_block ?_
        refine GQ_then ?_
        refine G_seq ?_
        refine G_region ?_
        refine GL_step rfl (PS_assign rfl) ?_
        refine GL_nil ?_
        refine GQ_then ?_
        refine G_ret ?_
        refine GQ_ret rfl (.tmp rfl .nil) ?_
        intro w1 hS
        have hS := (hS.perm (Pulls.perm (.cons .head .nil))).headL
        exact ⟨_, ⟨by clear hS; simp_all [Telnet.turnS, tup], by simp only [Telnet.onI, ln.put_put, c1, c2, c3, ↓reduceIte, Bool.false_eq_true]⟩, hS⟩
  · skip
    have c1p := c1
    try simp only [decide_eq_true_eq, decide_eq_false_iff_not, Bool.not_eq_true', Bool.not_eq_false', Bool.or_eq_true, Bool.and_eq_true, Bool.or_eq_false_iff, Bool.and_eq_false_iff, Int.not_lt, Int.not_le] at c1p
    refine G_skip ?_
    refine GQ_sub (.cons (k := 1) rfl (.cons (k := 2) rfl (.cons (k := 3) rfl (.cons (k := 4) rfl (.cons (k := 11) rfl (.nil _)))))) ?_
    refine GQ_then ?_
    refine G_seq ?_
    refine G_block ?_
    refine G_seq ?_
    refine G_region ?_
    refine GL_step rfl (PS_move rfl) ?_
    refine GL_step rfl (PS_move rfl) ?_
    refine GL_gt (t := 22) rfl rfl rfl (fun q => PS_move rfl) ?_
    refine GL_gt (t := 22) rfl rfl rfl (fun q => PS_eql (cvE rfl q) rfl) ?_
    refine GL_step rfl (PS_and rfl rfl (fun h => h)) ?_
    refine GL_step rfl (PS_assign rfl) ?_
    refine GL_nil ?_
    refine GQ_sub (.cons (k := 1) rfl (.cons (k := 2) rfl (.cons (k := 3) rfl (.cons (k := 4) rfl (.cons (k := 11) rfl (.cons (k := 20) rfl (.nil _))))))) ?_
    refine GQ_then ?_
    refine G_cond rfl (fun c4 => ?_) (fun c4 => ?_)
    · skip
      have c4p := c4
      try simp only [decide_eq_true_eq, decide_eq_false_iff_not, Bool.not_eq_true', Bool.not_eq_false', Bool.or_eq_true, Bool.and_eq_true, Bool.or_eq_false_iff, Bool.and_eq_false_iff, Int.not_lt, Int.not_le] at c4p
      refine G_seq ?_
      refine G_region ?_
      refine GL_step rfl (PS_move rfl) ?_
      refine GL_step rfl (PS_move rfl) ?_
      refine GL_pure rfl cf45 (.cons rfl (.cons rfl .nil)) (fun w hS => telnet_say_spec _ _ (by first | assumption | omega) (by first | assumption | omega) w) ?_
      refine GL_step rfl (PS_assign rfl) ?_
      refine GL_nil ?_
      refine GQ_sub (.cons (k := 10) rfl (.nil _)) ?_
      refine GQ_then ?_
      refine G_ret ?_
      refine GQ_block_ret ?_
      refine GQ_then_ret ?_
      refine GQ_ret rfl (.tmp rfl .nil) ?_
      intro w1 hS
      have hS := (hS.perm (Pulls.perm (.cons .head .nil))).headL
      exact ⟨_, ⟨by clear hS; simp_all [Telnet.turnS, tup], by simp only [Telnet.onI, ln.put_put, c1, c4, ↓reduceIte, Bool.false_eq_true]⟩, hS⟩
    · skip
      have c4p := c4
      try simp only [decide_eq_true_eq, decide_eq_false_iff_not, Bool.not_eq_true', Bool.not_eq_false', Bool.or_eq_true, Bool.and_eq_true, Bool.or_eq_false_iff, Bool.and_eq_false_iff, Int.not_lt, Int.not_le] at c4p
      refine G_seq ?_
      refine G_region ?_
      refine GL_step rfl (PS_move rfl) ?_
      refine GL_step rfl (PS_not rfl) ?_
      refine GL_step rfl (PS_move rfl) ?_
      refine GL_gt (t := 32) rfl rfl rfl (fun q => PS_move rfl) ?_
      refine GL_gt (t := 32) rfl rfl rfl (fun q => PS_eql (cvE rfl q) rfl) ?_
      refine GL_step rfl (PS_and rfl rfl (fun h => h)) ?_
      refine GL_step rfl (PS_assign rfl) ?_
      refine GL_nil ?_
      refine GQ_sub (.cons (k := 2) rfl (.cons (k := 4) rfl (.cons (k := 29) rfl (.nil _)))) ?_
      refine GQ_then ?_
      refine G_cond rfl (fun c5 => ?_) (fun c5 => ?_)
      · skip
        have c5p := c5
        try simp only [decide_eq_true_eq, decide_eq_false_iff_not, Bool.not_eq_true', Bool.not_eq_false', Bool.or_eq_true, Bool.and_eq_true, Bool.or_eq_false_iff, Bool.and_eq_false_iff, Int.not_lt, Int.not_le] at c5p
        refine G_seq ?_
        refine G_region ?_
        refine GL_step rfl (PS_move rfl) ?_
        refine GL_step rfl (PS_move rfl) ?_
        refine GL_pure rfl cf45 (.cons rfl (.cons rfl .nil)) (fun w hS => telnet_say_spec _ _ (by first | assumption | omega) (by first | assumption | omega) w) ?_
        refine GL_step rfl (PS_assign rfl) ?_
        refine GL_nil ?_
        refine GQ_sub (.cons (k := 10) rfl (.nil _)) ?_
        refine GQ_then ?_
        refine G_ret ?_
        refine GQ_block_ret ?_
        refine GQ_then_ret ?_
        refine GQ_ret rfl (.tmp rfl .nil) ?_
        intro w1 hS
        have hS := (hS.perm (Pulls.perm (.cons .head .nil))).headL
        exact ⟨_, ⟨by clear hS; simp_all [Telnet.turnS, tup], by simp only [Telnet.onI, ln.put_put, c1, c4, c5, ↓reduceIte, Bool.false_eq_true]⟩, hS⟩
      · skip
        have c5p := c5
        try simp only [decide_eq_true_eq, decide_eq_false_iff_not, Bool.not_eq_true', Bool.not_eq_false', Bool.or_eq_true, Bool.and_eq_true, Bool.or_eq_false_iff, Bool.and_eq_false_iff, Int.not_lt, Int.not_le] at c5p
        refine G_skip ?_
        refine GQ_sub (.nil _) ?_
        refine GQ_block ?_
        refine GQ_then ?_
        refine G_seq ?_
        refine G_region ?_
        refine GL_step rfl (PS_assign rfl) ?_
        refine GL_nil ?_
        refine GQ_then ?_
        refine G_ret ?_
        refine GQ_ret rfl (.tmp rfl .nil) ?_
        intro w1 hS
        have hS := (hS.perm (Pulls.perm (.cons .head .nil))).headL
        exact ⟨_, ⟨by clear hS; simp_all [Telnet.turnS, tup], by simp only [Telnet.onI, ln.put_put, c1, c4, c5, ↓reduceIte, Bool.false_eq_true]⟩, hS⟩
theorem telnet_negotiate_spec (b : Nat) (X : Telnet) (verb opt : Int) (h0 : 0 ≤ opt ∧ opt ≤ 255) : Ctr Tryd.prog 35 #[.pointer (some ⟨b, 0, none⟩), .int .i64 verb, .int .i64 opt] [Res.box b 41 X.enc] (fun v B => v = vstr (X.negotiate verb opt).2 ∧ B = [Res.box b 41 (X.negotiate verb opt).1.enc]) := by
  intro w hS0
  refine Ret_body _ _ Tryd.func35 rfl rfl rfl (hS0) ?_
  refine G_seq ?_
  refine G_region ?_
  refine GL_step rfl (PS_assign rfl) ?_
  refine GL_nil ?_
  refine GQ_sub (.cons (k := 0) rfl (.cons (k := 1) rfl (.cons (k := 2) rfl (.nil _)))) ?_
  refine GQ_then ?_
  refine G_seq ?_
  refine G_region ?_
  refine GL_step rfl (PS_move rfl) ?_
  refine GL_pure rfl cf44 (.cons rfl .nil) (fun w hS => telnet_place_spec _ w) ?_
  refine GL_step rfl (PS_move rfl) ?_
  refine GL_step rfl (PS_extract rfl rfl) ?_
  refine GL_step rfl (PS_extract rfl rfl) ?_
  refine GL_step rfl (PS_extract rfl rfl) ?_
  refine GL_step rfl (PS_assign rfl) ?_
  refine GL_step rfl (PS_assign rfl) ?_
  refine GL_step rfl (PS_assign rfl) ?_
  refine GL_nil ?_
  refine GQ_sub (.cons (k := 0) rfl (.cons (k := 1) rfl (.cons (k := 2) rfl (.cons (k := 7) rfl (.cons (k := 8) rfl (.cons (k := 9) rfl (.nil _))))))) ?_
  refine GQ_then ?_
  refine G_seq ?_
  refine G_seq ?_
  refine G_region ?_
  refine GL_step rfl (PS_move rfl) ?_
  refine GL_nil ?_
  refine GQ_sub (.cons (k := 0) rfl (.cons (k := 2) rfl (.cons (k := 7) rfl (.cons (k := 8) rfl (.cons (k := 9) rfl (.cons (k := 16) rfl (.nil _))))))) ?_
  refine GQ_then ?_
  refine G_block ?_
  refine G_seq ?_
  refine G_region ?_
  refine GL_step rfl (PS_eql rfl rfl) ?_
  refine GL_step rfl (PS_assign rfl) ?_
  refine GL_nil ?_
  refine GQ_sub (.cons (k := 0) rfl (.cons (k := 2) rfl (.cons (k := 7) rfl (.cons (k := 8) rfl (.cons (k := 9) rfl (.cons (k := 16) rfl (.cons (k := 17) rfl (.nil _)))))))) ?_
  refine GQ_then ?_
  refine G_cond rfl (fun c1 => ?_) (fun c1 => ?_)
  · skip
    have c1p := c1
    try simp only [decide_eq_true_eq, decide_eq_false_iff_not, Bool.not_eq_true', Bool.not_eq_false', Bool.or_eq_true, Bool.and_eq_true, Bool.or_eq_false_iff, Bool.and_eq_false_iff, Int.not_lt, Int.not_le] at c1p
    refine G_seq ?_
    refine G_seq ?_
    refine G_region ?_
    refine GL_step rfl (PS_move rfl) ?_
    refine GL_step rfl (PS_not rfl) ?_
    refine GL_nil ?_
    refine GQ_sub (.cons (k := 0) rfl (.cons (k := 2) rfl (.cons (k := 7) rfl (.cons (k := 20) rfl (.nil _))))) ?_
    refine GQ_then ?_
    refine G_cond rfl (fun c2 => ?_) (fun c2 => ?_)
    · skip
      have c2p := c2
      try simp only [decide_eq_true_eq, decide_eq_false_iff_not, Bool.not_eq_true', Bool.not_eq_false', Bool.or_eq_true, Bool.and_eq_true, Bool.or_eq_false_iff, Bool.and_eq_false_iff, Int.not_lt, Int.not_le] at c2p
      refine G_seq ?_
      refine G_region ?_
      refine GL_step rfl (PS_move rfl) ?_
      refine GL_pure rfl cf45 (.cons rfl (.cons rfl .nil)) (fun w hS => telnet_say_spec _ _ (by first | assumption | omega) (by first | assumption | omega) w) ?_
      refine GL_step rfl (PS_assign rfl) ?_
      refine GL_nil ?_
      refine GQ_sub (.cons (k := 6) rfl (.nil _)) ?_
      refine GQ_then ?_
      refine G_ret ?_
      refine GQ_then_ret ?_
      refine GQ_block_ret ?_
      refine GQ_then_ret ?_
      refine GQ_ret rfl (.tmp rfl .nil) ?_
      intro w1 hS
      have hS := (hS.perm (Pulls.perm (.cons .head .nil))).headL
      exact ⟨_, ⟨by simp only [Telnet.negotiate, c1, c2, ↓reduceIte, Bool.false_eq_true] <;> rfl, by simp only [Telnet.negotiate, c1, c2, ↓reduceIte, Bool.false_eq_true] <;> rfl⟩, hS⟩
    · skip
      have c2p := c2
      try simp only [decide_eq_true_eq, decide_eq_false_iff_not, Bool.not_eq_true', Bool.not_eq_false', Bool.or_eq_true, Bool.and_eq_true, Bool.or_eq_false_iff, Bool.and_eq_false_iff, Int.not_lt, Int.not_le] at c2p
      have hk := Telnet.place_us (opt := opt) (by simpa using c2)
      have hk1 : 0 ≤ (Telnet.place opt).1 ∧ (Telnet.place opt).1 < 3 := by rcases hk with ⟨_, e⟩ | ⟨_, e⟩ <;> rw [e] <;> decide
      refine G_skip ?_
      refine GQ_sub (.cons (k := 0) rfl (.cons (k := 2) rfl (.cons (k := 7) rfl (.nil _)))) ?_
      refine GQ_then ?_
      refine G_seq ?_
      refine G_region ?_
      refine GL_step rfl (PS_move rfl) ?_
      refine GL_step rfl (PS_move rfl) ?_
      refine GL_step rfl (PS_nilCheck rfl) ?_
      refine GL_step rfl (PS_fieldAddr fa41_3 rfl) ?_
      refine GL_step rfl (PS_indexAddr ia39 rfl rfl (by omega) (by omega)) ?_
      refine GL_step rfl (PS_move rfl) ?_
      refine GL_callL rfl cf46 (.cons rfl (.cons rfl (.cons rfl (.cons rfl (.cons rfl .nil))))) (.cons .head .nil) (telnet_turn_spec _ _ _ _ _ _ _ (by first | assumption | omega) (by first | assumption | omega) (by first | assumption | omega) (Telnet.l3.comp (Lens.arr (n := 3) flI (by omega) (by omega)))) (fun v1 B hv => ?_)
      obtain ⟨rfl, rfl⟩ := hv
      refine GL_step rfl (PS_assign rfl) ?_
      refine GL_nil ?_
      refine GQ_sub (.cons (k := 6) rfl (.nil _)) ?_
      refine GQ_then ?_
      refine G_ret ?_
      refine GQ_block_ret ?_
      refine GQ_then_ret ?_
      refine GQ_ret rfl (.tmp rfl .nil) ?_
      intro w1 hS
      have hS := (hS.perm (Pulls.perm (.cons .head .nil))).headL
      exact ⟨_, ⟨by simp only [Telnet.negotiate, c1, c2, ↓reduceIte, Bool.false_eq_true] <;> rfl, by simp only [Telnet.negotiate, c1, c2, ↓reduceIte, Bool.false_eq_true] <;> rfl⟩, hS⟩
  · skip
    have c1p := c1
    try simp only [decide_eq_true_eq, decide_eq_false_iff_not, Bool.not_eq_true', Bool.not_eq_false', Bool.or_eq_true, Bool.and_eq_true, Bool.or_eq_false_iff, Bool.and_eq_false_iff, Int.not_lt, Int.not_le] at c1p
    refine G_seq ?_
    refine G_region ?_
    refine GL_step rfl (PS_eql rfl rfl) ?_
    refine GL_step rfl (PS_assign rfl) ?_
    refine GL_nil ?_
    refine GQ_sub (.cons (k := 0) rfl (.cons (k := 2) rfl (.cons (k := 7) rfl (.cons (k := 8) rfl (.cons (k := 9) rfl (.cons (k := 16) rfl (.cons (k := 30) rfl (.nil _)))))))) ?_
    refine GQ_then ?_
    refine G_cond rfl (fun c3 => ?_) (fun c3 => ?_)
    · skip
      have c3p := c3
      try simp only [decide_eq_true_eq, decide_eq_false_iff_not, Bool.not_eq_true', Bool.not_eq_false', Bool.or_eq_true, Bool.and_eq_true, Bool.or_eq_false_iff, Bool.and_eq_false_iff, Int.not_lt, Int.not_le] at c3p
      refine G_seq ?_
      refine G_region ?_
      refine GL_step rfl (PS_move rfl) ?_
      refine GL_nil ?_
      refine GQ_sub (.cons (k := 0) rfl (.cons (k := 2) rfl (.cons (k := 7) rfl (.cons (k := 32) rfl (.nil _))))) ?_
      refine GQ_then ?_
      refine G_cond rfl (fun c4 => ?_) (fun c4 => ?_)
      · skip
        have c4p := c4
        try simp only [decide_eq_true_eq, decide_eq_false_iff_not, Bool.not_eq_true', Bool.not_eq_false', Bool.or_eq_true, Bool.and_eq_true, Bool.or_eq_false_iff, Bool.and_eq_false_iff, Int.not_lt, Int.not_le] at c4p
        have hk := Telnet.place_us (opt := opt) (by simpa using c4)
        have hk1 : 0 ≤ (Telnet.place opt).1 ∧ (Telnet.place opt).1 < 3 := by rcases hk with ⟨_, e⟩ | ⟨_, e⟩ <;> rw [e] <;> decide
        refine G_seq ?_
        refine G_region ?_
        refine GL_step rfl (PS_move rfl) ?_
        refine GL_step rfl (PS_move rfl) ?_
        refine GL_step rfl (PS_nilCheck rfl) ?_
        refine GL_step rfl (PS_fieldAddr fa41_3 rfl) ?_
        refine GL_step rfl (PS_indexAddr ia39 rfl rfl (by omega) (by omega)) ?_
        refine GL_step rfl (PS_move rfl) ?_
        refine GL_callL rfl cf46 (.cons rfl (.cons rfl (.cons rfl (.cons rfl (.cons rfl .nil))))) (.cons .head .nil) (telnet_turn_spec _ _ _ _ _ _ _ (by first | assumption | omega) (by first | assumption | omega) (by first | assumption | omega) (Telnet.l3.comp (Lens.arr (n := 3) flI (by omega) (by omega)))) (fun v2 B hv => ?_)
        obtain ⟨rfl, rfl⟩ := hv
        refine GL_step rfl (PS_assign rfl) ?_
        refine GL_nil ?_
        refine GQ_sub (.cons (k := 6) rfl (.nil _)) ?_
        refine GQ_then ?_
        refine G_ret ?_
        refine GQ_block_ret ?_
        refine GQ_then_ret ?_
        refine GQ_ret rfl (.tmp rfl .nil) ?_
        intro w1 hS
        have hS := (hS.perm (Pulls.perm (.cons .head .nil))).headL
        exact ⟨_, ⟨by simp only [Telnet.negotiate, c1, c3, c4, ↓reduceIte, Bool.false_eq_true] <;> rfl, by simp only [Telnet.negotiate, c1, c3, c4, ↓reduceIte, Bool.false_eq_true] <;> rfl⟩, hS⟩
      · skip
        have c4p := c4
        try simp only [decide_eq_true_eq, decide_eq_false_iff_not, Bool.not_eq_true', Bool.not_eq_false', Bool.or_eq_true, Bool.and_eq_true, Bool.or_eq_false_iff, Bool.and_eq_false_iff, Int.not_lt, Int.not_le] at c4p
        refine G_skip ?_
        refine GQ_sub (.nil _) ?_
        refine GQ_block ?_
        refine GQ_then ?_
        refine G_seq ?_
        refine G_region ?_
        refine GL_step rfl (PS_assign rfl) ?_
        refine GL_nil ?_
        refine GQ_then ?_
        refine G_ret ?_
        refine GQ_ret rfl (.tmp rfl .nil) ?_
        intro w1 hS
        have hS := (hS.perm (Pulls.perm (.cons .head .nil))).headL
        exact ⟨_, ⟨by simp only [Telnet.negotiate, c1, c3, c4, ↓reduceIte, Bool.false_eq_true] <;> rfl, by simp only [Telnet.negotiate, c1, c3, c4, ↓reduceIte, Bool.false_eq_true] <;> rfl⟩, hS⟩
    · skip
      have c3p := c3
      try simp only [decide_eq_true_eq, decide_eq_false_iff_not, Bool.not_eq_true', Bool.not_eq_false', Bool.or_eq_true, Bool.and_eq_true, Bool.or_eq_false_iff, Bool.and_eq_false_iff, Int.not_lt, Int.not_le] at c3p
      refine G_seq ?_
      refine G_region ?_
      refine GL_step rfl (PS_eql rfl rfl) ?_
      refine GL_step rfl (PS_assign rfl) ?_
      refine GL_nil ?_
      refine GQ_sub (.cons (k := 0) rfl (.cons (k := 2) rfl (.cons (k := 7) rfl (.cons (k := 9) rfl (.cons (k := 16) rfl (.cons (k := 40) rfl (.nil _))))))) ?_
      refine GQ_then ?_
      refine G_cond rfl (fun c5 => ?_) (fun c5 => ?_)
      · skip
        have c5p := c5
        try simp only [decide_eq_true_eq, decide_eq_false_iff_not, Bool.not_eq_true', Bool.not_eq_false', Bool.or_eq_true, Bool.and_eq_true, Bool.or_eq_false_iff, Bool.and_eq_false_iff, Int.not_lt, Int.not_le] at c5p
        refine G_seq ?_
        refine G_seq ?_
        refine G_region ?_
        refine GL_step rfl (PS_move rfl) ?_
        refine GL_step rfl (PS_not rfl) ?_
        refine GL_nil ?_
        refine GQ_sub (.cons (k := 0) rfl (.cons (k := 2) rfl (.cons (k := 7) rfl (.cons (k := 43) rfl (.nil _))))) ?_
        refine GQ_then ?_
        refine G_cond rfl (fun c6 => ?_) (fun c6 => ?_)
        · skip
          have c6p := c6
          try simp only [decide_eq_true_eq, decide_eq_false_iff_not, Bool.not_eq_true', Bool.not_eq_false', Bool.or_eq_true, Bool.and_eq_true, Bool.or_eq_false_iff, Bool.and_eq_false_iff, Int.not_lt, Int.not_le] at c6p
          refine G_seq ?_
          refine G_region ?_
          refine GL_step rfl (PS_move rfl) ?_
          refine GL_pure rfl cf45 (.cons rfl (.cons rfl .nil)) (fun w hS => telnet_say_spec _ _ (by first | assumption | omega) (by first | assumption | omega) w) ?_
          refine GL_step rfl (PS_assign rfl) ?_
          refine GL_nil ?_
          refine GQ_sub (.cons (k := 6) rfl (.nil _)) ?_
          refine GQ_then ?_
          refine G_ret ?_
          refine GQ_then_ret ?_
          refine GQ_block_ret ?_
          refine GQ_then_ret ?_
          refine GQ_ret rfl (.tmp rfl .nil) ?_
          intro w1 hS
          have hS := (hS.perm (Pulls.perm (.cons .head .nil))).headL
          exact ⟨_, ⟨by simp only [Telnet.negotiate, c1, c3, c5, c6, ↓reduceIte, Bool.false_eq_true] <;> rfl, by simp only [Telnet.negotiate, c1, c3, c5, c6, ↓reduceIte, Bool.false_eq_true] <;> rfl⟩, hS⟩
        · skip
          have c6p := c6
          try simp only [decide_eq_true_eq, decide_eq_false_iff_not, Bool.not_eq_true', Bool.not_eq_false', Bool.or_eq_true, Bool.and_eq_true, Bool.or_eq_false_iff, Bool.and_eq_false_iff, Int.not_lt, Int.not_le] at c6p
          have hk := Telnet.place_them (opt := opt) (by simpa using c6)
          have hk1 : 0 ≤ (Telnet.place opt).1 ∧ (Telnet.place opt).1 < 3 := by rcases hk with ⟨_, e⟩ | ⟨_, e⟩ <;> rw [e] <;> decide
          refine G_skip ?_
          refine GQ_sub (.cons (k := 0) rfl (.cons (k := 2) rfl (.cons (k := 7) rfl (.nil _)))) ?_
          refine GQ_then ?_
          refine G_seq ?_
          refine G_region ?_
          refine GL_step rfl (PS_move rfl) ?_
          refine GL_step rfl (PS_move rfl) ?_
          refine GL_step rfl (PS_nilCheck rfl) ?_
          refine GL_step rfl (PS_fieldAddr fa41_4 rfl) ?_
          refine GL_step rfl (PS_indexAddr ia39 rfl rfl (by omega) (by omega)) ?_
          refine GL_step rfl (PS_move rfl) ?_
          refine GL_callL rfl cf46 (.cons rfl (.cons rfl (.cons rfl (.cons rfl (.cons rfl .nil))))) (.cons .head .nil) (telnet_turn_spec _ _ _ _ _ _ _ (by first | assumption | omega) (by first | assumption | omega) (by first | assumption | omega) (Telnet.l4.comp (Lens.arr (n := 3) flI (by omega) (by omega)))) (fun v3 B hv => ?_)
          obtain ⟨rfl, rfl⟩ := hv
          refine GL_step rfl (PS_assign rfl) ?_
          refine GL_nil ?_
          refine GQ_sub (.cons (k := 6) rfl (.nil _)) ?_
          refine GQ_then ?_
          refine G_ret ?_
          refine GQ_block_ret ?_
          refine GQ_then_ret ?_
          refine GQ_ret rfl (.tmp rfl .nil) ?_
          intro w1 hS
          have hS := (hS.perm (Pulls.perm (.cons .head .nil))).headL
          exact ⟨_, ⟨by simp only [Telnet.negotiate, c1, c3, c5, c6, ↓reduceIte, Bool.false_eq_true] <;> rfl, by simp only [Telnet.negotiate, c1, c3, c5, c6, ↓reduceIte, Bool.false_eq_true] <;> rfl⟩, hS⟩
      · skip
        have c5p := c5
        try simp only [decide_eq_true_eq, decide_eq_false_iff_not, Bool.not_eq_true', Bool.not_eq_false', Bool.or_eq_true, Bool.and_eq_true, Bool.or_eq_false_iff, Bool.and_eq_false_iff, Int.not_lt, Int.not_le] at c5p
        refine G_seq ?_
        refine G_region ?_
        refine GL_step rfl (PS_eql rfl rfl) ?_
        refine GL_step rfl (PS_assign rfl) ?_
        refine GL_nil ?_
        refine GQ_sub (.cons (k := 0) rfl (.cons (k := 2) rfl (.cons (k := 7) rfl (.cons (k := 9) rfl (.cons (k := 53) rfl (.nil _)))))) ?_
        refine GQ_then ?_
        refine G_cond rfl (fun c7 => ?_) (fun c7 => ?_)
        · skip
          have c7p := c7
          try simp only [decide_eq_true_eq, decide_eq_false_iff_not, Bool.not_eq_true', Bool.not_eq_false', Bool.or_eq_true, Bool.and_eq_true, Bool.or_eq_false_iff, Bool.and_eq_false_iff, Int.not_lt, Int.not_le] at c7p
          refine G_seq ?_
          refine G_region ?_
          refine GL_step rfl (PS_move rfl) ?_
          refine GL_nil ?_
          refine GQ_sub (.cons (k := 0) rfl (.cons (k := 2) rfl (.cons (k := 7) rfl (.cons (k := 55) rfl (.nil _))))) ?_
          refine GQ_then ?_
          refine G_cond rfl (fun c8 => ?_) (fun c8 => ?_)
          · skip
            have c8p := c8
            try simp only [decide_eq_true_eq, decide_eq_false_iff_not, Bool.not_eq_true', Bool.not_eq_false', Bool.or_eq_true, Bool.and_eq_true, Bool.or_eq_false_iff, Bool.and_eq_false_iff, Int.not_lt, Int.not_le] at c8p
            have hk := Telnet.place_them (opt := opt) (by simpa using c8)
            have hk1 : 0 ≤ (Telnet.place opt).1 ∧ (Telnet.place opt).1 < 3 := by rcases hk with ⟨_, e⟩ | ⟨_, e⟩ <;> rw [e] <;> decide
            refine G_seq ?_
            refine G_region ?_
            refine GL_step rfl (PS_move rfl) ?_
            refine GL_step rfl (PS_move rfl) ?_
            refine GL_step rfl (PS_nilCheck rfl) ?_
            refine GL_step rfl (PS_fieldAddr fa41_4 rfl) ?_
            refine GL_step rfl (PS_indexAddr ia39 rfl rfl (by omega) (by omega)) ?_
            refine GL_step rfl (PS_move rfl) ?_
            refine GL_callL rfl cf46 (.cons rfl (.cons rfl (.cons rfl (.cons rfl (.cons rfl .nil))))) (.cons .head .nil) (telnet_turn_spec _ _ _ _ _ _ _ (by first | assumption | omega) (by first | assumption | omega) (by first | assumption | omega) (Telnet.l4.comp (Lens.arr (n := 3) flI (by omega) (by omega)))) (fun v4 B hv => ?_)
            obtain ⟨rfl, rfl⟩ := hv
            refine GL_step rfl (PS_assign rfl) ?_
            refine GL_nil ?_
            refine GQ_sub (.cons (k := 6) rfl (.nil _)) ?_
            refine GQ_then ?_
            refine G_ret ?_
            refine GQ_block_ret ?_
            refine GQ_then_ret ?_
            refine GQ_ret rfl (.tmp rfl .nil) ?_
            intro w1 hS
            have hS := (hS.perm (Pulls.perm (.cons .head .nil))).headL
            exact ⟨_, ⟨by simp only [Telnet.negotiate, c1, c3, c5, c7, c8, ↓reduceIte, Bool.false_eq_true] <;> rfl, by simp only [Telnet.negotiate, c1, c3, c5, c7, c8, ↓reduceIte, Bool.false_eq_true] <;> rfl⟩, hS⟩
          · skip
            have c8p := c8
            try simp only [decide_eq_true_eq, decide_eq_false_iff_not, Bool.not_eq_true', Bool.not_eq_false', Bool.or_eq_true, Bool.and_eq_true, Bool.or_eq_false_iff, Bool.and_eq_false_iff, Int.not_lt, Int.not_le] at c8p
            refine G_skip ?_
            refine GQ_sub (.nil _) ?_
            refine GQ_block ?_
            refine GQ_then ?_
            refine G_seq ?_
            refine G_region ?_
            refine GL_step rfl (PS_assign rfl) ?_
            refine GL_nil ?_
            refine GQ_then ?_
            refine G_ret ?_
            refine GQ_ret rfl (.tmp rfl .nil) ?_
            intro w1 hS
            have hS := (hS.perm (Pulls.perm (.cons .head .nil))).headL
            exact ⟨_, ⟨by simp only [Telnet.negotiate, c1, c3, c5, c7, c8, ↓reduceIte, Bool.false_eq_true] <;> rfl, by simp only [Telnet.negotiate, c1, c3, c5, c7, c8, ↓reduceIte, Bool.false_eq_true] <;> rfl⟩, hS⟩
        · skip
          have c7p := c7
          try simp only [decide_eq_true_eq, decide_eq_false_iff_not, Bool.not_eq_true', Bool.not_eq_false', Bool.or_eq_true, Bool.and_eq_true, Bool.or_eq_false_iff, Bool.and_eq_false_iff, Int.not_lt, Int.not_le] at c7p
          refine G_skip ?_
          refine GQ_sub (.nil _) ?_
          refine GQ_block ?_
          refine GQ_then ?_
          refine G_seq ?_
          refine G_region ?_
          refine GL_step rfl (PS_assign rfl) ?_
          refine GL_nil ?_
          refine GQ_then ?_
          refine G_ret ?_
          refine GQ_ret rfl (.tmp rfl .nil) ?_
          intro w1 hS
          have hS := (hS.perm (Pulls.perm (.cons .head .nil))).headL
          exact ⟨_, ⟨by simp only [Telnet.negotiate, c1, c3, c5, c7, ↓reduceIte, Bool.false_eq_true] <;> rfl, by simp only [Telnet.negotiate, c1, c3, c5, c7, ↓reduceIte, Bool.false_eq_true] <;> rfl⟩, hS⟩
theorem strings_Builder_WriteString_spec (b : Nat) (p : Option Addr) (h : Hd) (s : Str) (hp : p = none ∨ p = some ⟨b, 0, none⟩) (hz : h.Z) (hl : h.len = s.length) (t : Str) (hb : s.length + t.length < 140737488355000) : Ctr Tryd.prog 34 #[.pointer (some ⟨b, 0, none⟩), vstr t] [Res.box b 52 (BldV.enc ⟨p, h⟩), Res.own h 5 1 (s.flatMap encY)] (fun v B => ∃ p' h', v = .tuple #[.int .i64 t.length, .nilIface] ∧ (p' = none ∨ p' = some ⟨b, 0, none⟩) ∧ h'.Z ∧ h'.len = (s ++ t).length ∧ B = [Res.box b 52 (BldV.enc ⟨p', h'⟩), Res.own h' 5 1 ((s ++ t).flatMap encY)]) := by
  intro w hS0
  refine Ret_body _ _ Tryd.func34 rfl rfl rfl (hS0) ?_
  refine G_seq ?_
  refine G_region ?_
  refine GL_step rfl (PS_assign rfl) ?_
  refine GL_step rfl (PS_assign rfl) ?_
  refine GL_nil ?_
  refine GQ_sub (.cons (k := 0) rfl (.cons (k := 1) rfl (.nil _))) ?_
  refine GQ_then ?_
  refine G_seq ?_
  refine G_region ?_
  refine GL_step rfl (PS_move rfl) ?_
  refine GL_callL rfl cf43 (.cons rfl .nil) (.cons .head .nil) (strings_Builder_copyCheck_spec _ _ _ (by first | assumption | omega)) (fun v1 B hv => ?_)
  obtain ⟨rfl, rfl⟩ := hv
  refine GL_nil ?_
  refine GQ_sub (.cons (k := 0) rfl (.cons (k := 1) rfl (.nil _))) ?_
  refine GQ_then ?_
  refine G_seq ?_
  refine G_region ?_
  refine GL_step rfl (PS_move rfl) ?_
  refine GL_step rfl (PS_move rfl) ?_
  refine GL_step rfl (PS_nilCheck rfl) ?_
  refine GL_step rfl (PS_fieldAddr fa52_1 rfl) ?_
  refine GL_step rfl (PS_load rfl tys50 (.head _) BldV.l1 rfl rfl) ?_
  refine GL_step rfl (PS_move rfl) ?_
  refine GL_appendF flY rfl Tryd.underlying50 sz5 zv5 rfl by5 (by decide) (by decide) rfl rfl (fun _ _ => Src.str Tryd.underlying9) (by dsimp only; omega) (fun _ => (.tail .head)) (fun h2 h2l h2z => ?_)
  have h2z := h2z hz; dsimp only at h2l
  refine GL_step rfl (PS_nilCheck rfl) ?_
  refine GL_step rfl (PS_fieldAddr fa52_1 rfl) ?_
  refine GL_unit (PU_store BldV.l1 rfl rfl rfl sz50 rfl .head) ?_
  refine GL_nil ?_
  refine GQ_sub (.cons (k := 1) rfl (.nil _)) ?_
  refine GQ_then ?_
  refine G_seq ?_
  refine G_region ?_
  refine GL_step rfl (PS_move rfl) ?_
  refine GL_step rfl (PS_len_str rfl Tryd.underlying9 rfl) ?_
  refine GL_step rfl (PS_assign rfl) ?_
  refine GL_step rfl (PS_assign rfl) ?_
  refine GL_nil ?_
  refine GQ_sub (.cons (k := 4) rfl (.cons (k := 5) rfl (.nil _))) ?_
  refine GQ_then ?_
  refine G_ret ?_
  refine GQ_ret rfl (.tmp rfl (.tmp rfl .nil)) ?_
  intro w1 hS
  have hS := (hS.perm (Pulls.perm (.cons .head (.cons .head .nil)))).headL
  exact ⟨_, ⟨_, _, rfl, .inr rfl, by assumption, by simp; omega, by rw [List.flatMap_append]⟩, hS⟩
theorem telnet_collect_spec (b : Nat) (X : Telnet) (c : UInt8) (h0 : X.sub.length ≤ 16) : Ctr Tryd.prog 36 #[.pointer (some ⟨b, 0, none⟩), .int .u8 (c.toNat : Int)] [Res.box b 41 X.enc] (fun v B => v = .tuple #[] ∧ B = [Res.box b 41 (X.collect c).enc]) := by
  intro w hS0
  refine Ret_body _ _ Tryd.func36 rfl rfl rfl (hS0) ?_
  refine G_seq ?_
  refine G_region ?_
  refine GL_step rfl (PS_move rfl) ?_
  refine GL_step rfl (PS_nilCheck rfl) ?_
  refine GL_step rfl (PS_fieldAddr fa41_2 rfl) ?_
  refine GL_step rfl (PS_load rfl tys9 (.head _) Telnet.l2 rfl rfl) ?_
  refine GL_step rfl (PS_len_str rfl Tryd.underlying9 rfl) ?_
  refine GL_step rfl (PS_lss rfl rfl) ?_
  refine GL_nil ?_
  refine GQ_sub (.cons (k := 0) rfl (.cons (k := 1) rfl (.cons (k := 9) rfl (.nil _)))) ?_
  refine GQ_then ?_
  refine G_cond rfl (fun c1 => ?_) (fun c1 => ?_)
  · skip
    have c1p := c1
    try simp only [decide_eq_true_eq, decide_eq_false_iff_not, Bool.not_eq_true', Bool.not_eq_false', Bool.or_eq_true, Bool.and_eq_true, Bool.or_eq_false_iff, Bool.and_eq_false_iff, Int.not_lt, Int.not_le] at c1p
    refine G_planN (N := 11) [0, 1, 3, 7, 0, 16, 48, 127, 255, 511, 1023] mix (by kernel_rfl) rfl ?_
    refine Plan_float 0 rfl rfl (by kernel_rfl) (OK_s (EX_s (PS_move rfl))) ?_
    refine Plan_float 1 rfl rfl (by kernel_rfl) (OK_s (EX_s (PS_nilCheck rfl))) ?_
    refine Plan_float 2 rfl rfl (by kernel_rfl) (OK_s (EX_s (PS_fieldAddr fa41_2 rfl))) ?_
    refine Plan_float 3 rfl rfl (by kernel_rfl) (OK_s (EX_s (PS_load rfl tys9 (.head _) Telnet.l2 rfl rfl))) ?_
    refine Plan_float 4 rfl rfl (by kernel_rfl) (OK_s (EX_s (PS_move rfl))) ?_
    refine Plan_chain 5 rfl (by kernel_rfl) ?_
    refine GL_bs1 rfl Tryd.underlying50 sz5 zv5 rfl (by decide) (by decide) rfl rfl rfl (fun b1 => ?_)
    refine GL_hand rfl ⟨?_, ?_⟩
    · exact (Pend_skip (by kernel_rfl) (Pend_okv rfl (OK_s (EX_s (PS_load rfl tys9 (.tail _ (.head _)) Telnet.l2 rfl rfl))) rfl rfl (Pend_okv rfl (OK_s (EX_s (PS_fieldAddr fa41_2 rfl))) rfl rfl (Pend_okv rfl (OK_s (EX_s (PS_nilCheck rfl))) rfl rfl (Pend_okv rfl (OK_s (EX_s (PS_move rfl))) rfl rfl Pend_nil)))))
    refine Plan_float 6 rfl rfl (by kernel_rfl) (OK_s (EX_s (PS_stringE (s := [c]) rfl Tryd.underlying50 Tryd.underlying9 Tryd.underlying5 rfl (Kn.own (.head _))))) ?_
    refine Plan_float 7 rfl rfl (by kernel_rfl) (OK_s (EX_s (PS_add_str rfl rfl (by simp only [List.length_cons, List.length_nil]; omega)))) ?_
    refine Plan_float 8 rfl rfl (by kernel_rfl) (OK_s (EX_s (PS_nilCheck rfl))) ?_
    refine Plan_float 9 rfl rfl (by kernel_rfl) (OK_s (EX_s (PS_fieldAddr fa41_2 rfl))) ?_
    refine Plan_chain 10 rfl (by kernel_rfl) ?_
    refine GL_unit (PU_store Telnet.l2 rfl rfl rfl sz9 rfl (.tail .head)) ?_
    refine GL_hand0 rfl ⟨?_, ?_⟩
    · exact (Pend_skip (by kernel_rfl) (Pend_skip (by kernel_rfl) (Pend_skip (by kernel_rfl) (Pend_skip (by kernel_rfl) (Pend_skip (by kernel_rfl) (Pend_skip (by kernel_rfl) (Pend_skip (by kernel_rfl) (Pend_skip (by kernel_rfl) (Pend_skip (by kernel_rfl) Pend_nil)))))))))
    refine Plan_end (by kernel_rfl) ?_
    refine GQ_end rfl .nil ?_
    intro w1 hS
    have hS := (hS.perm (Pulls.perm (.cons (.tail .head) .nil))).headL
    exact ⟨_, ⟨rfl, by simp only [Telnet.collect, c1, ↓reduceIte, Bool.false_eq_true]⟩, hS⟩
  · skip
    have c1p := c1
    try simp only [decide_eq_true_eq, decide_eq_false_iff_not, Bool.not_eq_true', Bool.not_eq_false', Bool.or_eq_true, Bool.and_eq_true, Bool.or_eq_false_iff, Bool.and_eq_false_iff, Int.not_lt, Int.not_le] at c1p
    refine G_skip ?_
    refine GQ_end rfl .nil ?_
    intro w1 hS
    have hS := (hS.perm (Pulls.perm (.cons .head .nil))).headL
    exact ⟨_, ⟨rfl, by simp only [Telnet.collect, c1, ↓reduceIte, Bool.false_eq_true]⟩, hS⟩
theorem telnet_measure_spec (b : Nat) (X : Telnet) : Ctr Tryd.prog 37 #[.pointer (some ⟨b, 0, none⟩)] [Res.box b 41 X.enc] (fun v B => v = .tuple #[] ∧ B = [Res.box b 41 X.measure.enc]) := by
  intro w hS0
  refine Ret_body _ _ Tryd.func37 rfl rfl rfl (hS0) ?_
  refine G_seq ?_
  refine G_region ?_
  refine GL_step rfl (PS_move rfl) ?_
  refine GL_step rfl (PS_nilCheck rfl) ?_
  refine GL_step rfl (PS_fieldAddr fa41_2 rfl) ?_
  refine GL_step rfl (PS_load rfl tys9 (.head _) Telnet.l2 rfl rfl) ?_
  refine GL_step rfl (PS_len_str rfl Tryd.underlying9 rfl) ?_
  refine GL_step rfl (PS_eql rfl rfl) ?_
  refine GL_step rfl (PS_move rfl) ?_
  refine GL_gt (t := 8) rfl rfl rfl (fun q => PS_move rfl) ?_
  refine GL_gt (t := 8) rfl rfl rfl (fun q => PS_nilCheck (cvE rfl q)) ?_
  refine GL_gt (t := 8) rfl rfl rfl (fun q => PS_fieldAddr fa41_2 (cvE rfl q)) ?_
  refine GL_gt (t := 8) rfl rfl rfl (fun q => PS_load (cvE rfl q) tys9 (.head _) Telnet.l2 rfl rfl) ?_
  refine GL_gt (t := 8) rfl rfl rfl (fun q => by have q1 := q; (try simp at q1); exact PS_index_str Tryd.underlying9 (cvE rfl q) rfl (by decide) (by omega)) ?_
  refine GL_gt (t := 8) rfl rfl rfl (fun q => PS_eql (cvE rfl q) rfl) ?_
  refine GL_step rfl (PS_and rfl rfl (fun h => h)) ?_
  refine GL_step rfl (PS_move rfl) ?_
  refine GL_gt (t := 16) rfl rfl rfl (fun q => PS_move rfl) ?_
  refine GL_gt (t := 16) rfl rfl rfl (fun q => PS_nilCheck (cvE rfl q)) ?_
  refine GL_gt (t := 16) rfl rfl rfl (fun q => PS_fieldAddr fa41_4 (cvE rfl q)) ?_
  refine GL_gt (t := 16) rfl rfl rfl (fun q => PS_indexAddr ia39 (cvE rfl q) rfl (by decide) (by decide)) ?_
  refine GL_gt (t := 16) rfl rfl rfl (fun q => PS_load (cvE rfl q) tys3 (.head _) (Telnet.l4.comp (Lens.arr (n := 3) flI (by decide) (by decide))) rfl rfl) ?_
  refine GL_gt (t := 16) rfl rfl rfl (fun q => PS_eql (cvE rfl q) rfl) ?_
  refine GL_step rfl (PS_and rfl rfl (fun h => h)) ?_
  refine GL_nil ?_
  refine GQ_sub (.cons (k := 0) rfl (.cons (k := 23) rfl (.nil _))) ?_
  refine GQ_then ?_
  refine G_cond rfl (fun c1 => ?_) (fun c1 => ?_)
  · skip
    have c1p := c1
    try simp only [decide_eq_true_eq, decide_eq_false_iff_not, Bool.not_eq_true', Bool.not_eq_false', Bool.or_eq_true, Bool.and_eq_true, Bool.or_eq_false_iff, Bool.and_eq_false_iff, Int.not_lt, Int.not_le] at c1p
    refine G_planN (N := 19) [0, 0, 2, 6, 14, 30, 62, 126, 0, 256, 768, 1792, 3840, 7936, 16382, 32766, 65535, 131071, 262143] mix (by kernel_rfl) rfl ?_
    refine Plan_float 0 rfl rfl (by kernel_rfl) (OK_s (EX_s (PS_move rfl))) ?_
    refine Plan_float 1 rfl rfl (by kernel_rfl) (OK_s (EX_s (PS_move rfl))) ?_
    refine Plan_float 2 rfl rfl (by kernel_rfl) (OK_s (EX_s (PS_nilCheck rfl))) ?_
    refine Plan_float 3 rfl rfl (by kernel_rfl) (OK_s (EX_s (PS_fieldAddr fa41_2 rfl))) ?_
    refine Plan_float 4 rfl rfl (by kernel_rfl) (OK_s (EX_s (PS_load rfl tys9 (.head _) Telnet.l2 rfl rfl))) ?_
    refine Plan_float 5 rfl rfl (by kernel_rfl) (OK_s (EX_s (PS_index_str Tryd.underlying9 rfl rfl (by decide) (by omega)))) ?_
    refine Plan_float 6 rfl rfl (by kernel_rfl) (OK_s (EX_s (PS_u8i Tryd.underlying3 Tryd.underlying5 rfl))) ?_
    refine Plan_float 7 rfl rfl (by kernel_rfl) (OK_s (EX_s (PS_shl8 rfl rfl))) ?_
    refine Plan_float 8 rfl rfl (by kernel_rfl) (OK_s (EX_s (PS_move rfl))) ?_
    refine Plan_float 9 rfl rfl (by kernel_rfl) (OK_s (EX_s (PS_nilCheck rfl))) ?_
    refine Plan_float 10 rfl rfl (by kernel_rfl) (OK_s (EX_s (PS_fieldAddr fa41_2 rfl))) ?_
    refine Plan_float 11 rfl rfl (by kernel_rfl) (OK_s (EX_s (PS_load rfl tys9 (.head _) Telnet.l2 rfl rfl))) ?_
    refine Plan_float 12 rfl rfl (by kernel_rfl) (OK_s (EX_s (PS_index_str Tryd.underlying9 rfl rfl (by decide) (by omega)))) ?_
    refine Plan_float 13 rfl rfl (by kernel_rfl) (OK_s (EX_s (PS_u8i Tryd.underlying3 Tryd.underlying5 rfl))) ?_
    refine Plan_float 14 rfl rfl (by kernel_rfl) (OK_s (EX_s (PS_or8 rfl rfl))) ?_
    refine Plan_float 15 rfl rfl (by kernel_rfl) (OK_s (EX_s (PS_min2 rfl rfl))) ?_
    refine Plan_float 16 rfl rfl (by kernel_rfl) (OK_s (EX_s (PS_nilCheck rfl))) ?_
    refine Plan_float 17 rfl rfl (by kernel_rfl) (OK_s (EX_s (PS_fieldAddr fa41_5 rfl))) ?_
    refine Plan_chain 18 rfl (by kernel_rfl) ?_
    refine GL_unit (PU_store Telnet.l5 rfl rfl rfl sz3 rfl .head) ?_
    refine GL_hand0 rfl ⟨?_, ?_⟩
    · exact (Pend_skip (by kernel_rfl) (Pend_skip (by kernel_rfl) (Pend_skip (by kernel_rfl) (Pend_skip (by kernel_rfl) (Pend_skip (by kernel_rfl) (Pend_skip (by kernel_rfl) (Pend_skip (by kernel_rfl) (Pend_skip (by kernel_rfl) (Pend_skip (by kernel_rfl) (Pend_skip (by kernel_rfl) (Pend_skip (by kernel_rfl) (Pend_skip (by kernel_rfl) (Pend_skip (by kernel_rfl) (Pend_skip (by kernel_rfl) (Pend_skip (by kernel_rfl) (Pend_skip (by kernel_rfl) (Pend_skip (by kernel_rfl) (Pend_skip (by kernel_rfl) Pend_nil))))))))))))))))))
    refine Plan_end (by kernel_rfl) ?_
    refine GQ_end rfl .nil ?_
    intro w1 hS
    have hS := (hS.perm (Pulls.perm (.cons .head .nil))).headL
    exact ⟨_, ⟨rfl, by rw [show X.measure = _ from if_t c1]; rfl⟩, hS⟩
  · skip
    have c1p := c1
    try simp only [decide_eq_true_eq, decide_eq_false_iff_not, Bool.not_eq_true', Bool.not_eq_false', Bool.or_eq_true, Bool.and_eq_true, Bool.or_eq_false_iff, Bool.and_eq_false_iff, Int.not_lt, Int.not_le] at c1p
    refine G_skip ?_
    refine GQ_end rfl .nil ?_
    intro w1 hS
    have hS := (hS.perm (Pulls.perm (.cons .head .nil))).headL
    exact ⟨_, ⟨rfl, by rw [show X.measure = _ from if_f c1]⟩, hS⟩
theorem strings_Builder_String_spec (b : Nat) (p : Option Addr) (h : Hd) (s : Str) (hz : h.Z) (hl : h.len = s.length) (hb : s.length < 140737488355000) : Ctr Tryd.prog 38 #[.pointer (some ⟨b, 0, none⟩)] [Res.box b 52 (BldV.enc ⟨p, h⟩), Res.own h 5 1 (s.flatMap encY)] (fun v B => v = vstr s ∧ B = [Res.box b 52 (BldV.enc ⟨p, h⟩)]) := by
  intro w hS0
  refine Ret_body _ _ Tryd.func38 rfl rfl rfl (hS0) ?_
  refine G_seq ?_
  refine G_region ?_
  refine GL_step rfl (PS_assign rfl) ?_
  refine GL_nil ?_
  refine GQ_sub (.cons (k := 0) rfl (.nil _)) ?_
  refine GQ_then ?_
  refine G_seq ?_
  refine G_planN (N := 12) [0, 1, 3, 7, 15, 0, 32, 96, 224, 480, 1023, 2047] mix (by kernel_rfl) rfl ?_
  refine Plan_float 0 rfl rfl (by kernel_rfl) (OK_s (EX_s (PS_move rfl))) ?_
  refine Plan_float 1 rfl rfl (by kernel_rfl) (OK_s (EX_s (PS_nilCheck rfl))) ?_
  refine Plan_float 2 rfl rfl (by kernel_rfl) (OK_s (EX_s (PS_fieldAddr fa52_1 rfl))) ?_
  refine Plan_float 3 rfl rfl (by kernel_rfl) (OK_s (EX_s (PS_load rfl tys50 (.head _) BldV.l1 rfl rfl))) ?_
  refine Plan_float 4 rfl rfl (by kernel_rfl) (OK_s (EX_s (PS_sliceData rfl (by assumption)))) ?_
  refine Plan_float 5 rfl rfl (by kernel_rfl) (OK_s (EX_s (PS_move rfl))) ?_
  refine Plan_float 6 rfl rfl (by kernel_rfl) (OK_s (EX_s (PS_nilCheck rfl))) ?_
  refine Plan_float 7 rfl rfl (by kernel_rfl) (OK_s (EX_s (PS_fieldAddr fa52_1 rfl))) ?_
  refine Plan_float 8 rfl rfl (by kernel_rfl) (OK_s (EX_s (PS_load rfl tys50 (.head _) BldV.l1 rfl rfl))) ?_
  refine Plan_float 9 rfl rfl (by kernel_rfl) (OK_s (EX_s (PS_len_slice rfl Tryd.underlying50 rfl))) ?_
  refine Plan_chain 10 rfl (by kernel_rfl) ?_
  refine GL_unsafeString rfl Tryd.underlying73 ce5 rfl rfl (by assumption) (by omega) (.tail .head) ?_
  refine GL_hand rfl ⟨?_, ?_⟩
  · exact (Pend_skip (by kernel_rfl) (Pend_skip (by kernel_rfl) (Pend_skip (by kernel_rfl) (Pend_skip (by kernel_rfl) (Pend_skip (by kernel_rfl) (Pend_skip (by kernel_rfl) (Pend_skip (by kernel_rfl) (Pend_skip (by kernel_rfl) (Pend_skip (by kernel_rfl) (Pend_skip (by kernel_rfl) Pend_nil))))))))))
  refine Plan_float 11 rfl rfl (by kernel_rfl) (OK_s (EX_s (PS_assign rfl))) ?_
  refine Plan_end (by kernel_rfl) ?_
  refine GQ_sub (.cons (k := 2) rfl (.nil _)) ?_
  refine GQ_then ?_
  refine G_ret ?_
  refine GQ_ret rfl (.tmp rfl .nil) ?_
  intro w1 hS
  have hS := (hS.perm (Pulls.perm (.cons .head .nil))).headL
  exact ⟨_, ⟨rfl, rfl⟩, hS⟩
theorem telnet_Feed_spec (X : Telnet) (u : Str) (hu : u.length ≤ 35184372088000) (w : World) : Ret Tryd.prog 23 #[.agg X.enc.toArray, vstr u] w fun v w' => v = .tuple #[.agg (X.Feed u).1.enc.toArray, vstr (X.Feed u).2.1, vstr (X.Feed u).2.2.1, .int .i64 (X.Feed u).2.2.2] ∧ Keep w w' := by
  refine Ret_body [] [] Tryd.func23 rfl rfl rfl (St.start w []) ?_
  refine G_seq ?_
  refine G_region ?_
  refine GL_box rfl rfl rfl (fun b1 => ?_)
  refine GL_alloc rfl zv41 rfl (fun b2 => ?_)
  refine GL_step rfl (PS_assign rfl) ?_
  refine GL_step rfl (PS_assign rfl) ?_
  refine GL_step rfl (PS_assign rfl) ?_
  refine GL_nil ?_
  refine GQ_sub (.cons (k := 1) rfl (.cons (k := 2) rfl (.cons (k := 4) rfl (.nil _)))) ?_
  refine GQ_then ?_
  refine G_seq ?_
  refine G_seq ?_
  refine G_region ?_
  refine GL_step rfl (PS_loadA rfl tya41 (.tail _ (.head _)) (Lens.id Telnet.fl.len Telnet.fl.one) rfl) ?_
  refine GL_pure rfl cf25 (.cons rfl .nil) (fun w hS => telnet_Good_spec _ w) ?_
  refine GL_step rfl (PS_not rfl) ?_
  refine GL_nil ?_
  refine GQ_sub (.cons (k := 1) rfl (.cons (k := 2) rfl (.cons (k := 4) rfl (.cons (k := 15) rfl (.nil _))))) ?_
  refine GQ_then ?_
  refine G_cond rfl (fun c1 => ?_) (fun c1 => ?_)
  · skip
    have c1p := c1
    try simp only [decide_eq_true_eq, decide_eq_false_iff_not, Bool.not_eq_true', Bool.not_eq_false', Bool.or_eq_true, Bool.and_eq_true, Bool.or_eq_false_iff, Bool.and_eq_false_iff, Int.not_lt, Int.not_le] at c1p
    refine G_seq ?_
    refine G_region ?_
    refine GL_step rfl (PS_loadA rfl tya41 (.tail _ (.head _)) (Lens.id Telnet.fl.len Telnet.fl.one) rfl) ?_
    refine GL_unit (PU_store (Lens.id Telnet.fl.len Telnet.fl.one) rfl rfl rfl sz41 rfl .head) ?_
    refine GL_step rfl (PS_assign rfl) ?_
    refine GL_step rfl (PS_assign rfl) ?_
    refine GL_step rfl (PS_assign rfl) ?_
    refine GL_nil ?_
    refine GQ_sub (.cons (k := 4) rfl (.cons (k := 5) rfl (.cons (k := 6) rfl (.cons (k := 7) rfl (.nil _))))) ?_
    refine GQ_then ?_
    refine G_ret ?_
    refine GQ_then_ret ?_
    refine GQ_ret rfl (.cell rfl (.head _) (.inl ⟨(by rw [Telnet.fl.len]; exact tya41), rfl⟩) (.tmp rfl (.tmp rfl (.tmp rfl .nil)))) ?_
    intro w1 hS; refine ⟨?_, hS.toKeep⟩; rw [show X.Feed u = _ from if_t c1]; rfl
  · skip
    have c1p := c1
    try simp only [decide_eq_true_eq, decide_eq_false_iff_not, Bool.not_eq_true', Bool.not_eq_false', Bool.or_eq_true, Bool.and_eq_true, Bool.or_eq_false_iff, Bool.and_eq_false_iff, Int.not_lt, Int.not_le] at c1p
    have hg : X.good = true := by simpa using c1
    refine G_skip ?_
    refine GQ_sub (.cons (k := 1) rfl (.cons (k := 2) rfl (.cons (k := 4) rfl (.nil _)))) ?_
    refine GQ_then ?_
    refine G_seq ?_
    refine G_region ?_
    refine GL_alloc rfl zv52 rfl (fun b3 => ?_)
    refine GL_nilF encY 5 1 ?_
    refine GL_alloc rfl zv52 rfl (fun b4 => ?_)
    refine GL_nilF encY 5 1 ?_
    refine GL_nil ?_
    refine GQ_then ?_
    refine G_seq ?_
    refine G_seq ?_
    refine G_region ?_
    refine GL_step rfl (PS_move rfl) ?_
    refine GL_bytes rfl Tryd.underlying9 Tryd.underlying50 Tryd.underlying5 rfl (fun h1 h1l => ?_)
    refine GL_step rfl (PS_len_slice rfl Tryd.underlying50 rfl) ?_
    refine GL_step rfl (PS_move rfl) ?_
    refine GL_nil ?_
    refine GQ_sub (.cons (k := 2) rfl (.cons (k := 4) rfl (.cons (k := 8) rfl (.cons (k := 9) rfl (.cons (k := 18) rfl (.cons (k := 19) rfl (.cons (k := 20) rfl (.nil _)))))))) ?_
    refine GQ_then ?_
    refine G_block ?_
    refine G_subF (.cons (k := 20) rfl (.cons (k := 2) rfl (.cons (k := 4) rfl (.cons (k := 8) rfl (.cons (k := 9) rfl (.cons (k := 18) rfl (.cons (k := 19) rfl (.nil _)))))))) ?_
    refine G_pull (.tail (.tail (.tail (.tail (.tail (.tail .head)))))) ?_
    refine G_pull (.tail (.tail (.tail (.tail (.tail .head))))) ?_
    refine G_pull (.tail (.tail (.tail (.tail (.tail .head))))) ?_
    refine G_pull (.tail (.tail (.tail (.tail (.tail .head))))) ?_
    refine G_pull (.tail (.tail (.tail (.tail (.tail .head))))) ?_
    refine G_loop8_ (fun (k : Int) (t : Telnet) (x : Str) (y : Str) (p : Option Addr) (h : Hd) (q : Option Addr) (g : Hd) => Telnet.FeedI X u k t x y ∧ (p = none ∨ p = some ⟨b3, 0, none⟩) ∧ h.Z ∧ h.len = x.length ∧ (q = none ∨ q = some ⟨b4, 0, none⟩) ∧ g.Z ∧ g.len = y.length) (fun (k : Int) (t : Telnet) (x : Str) (y : Str) (p : Option Addr) (h : Hd) (q : Option Addr) (g : Hd) => ((u.length : Int) - k).toNat) (fun (k : Int) (t : Telnet) (x : Str) (y : Str) (p : Option Addr) (h : Hd) (q : Option Addr) (g : Hd) => [(20, .int .i64 k)]) (fun (k : Int) (t : Telnet) (x : Str) (y : Str) (p : Option Addr) (h : Hd) (q : Option Addr) (g : Hd) => [Res.own g 5 1 (y.flatMap encY), Res.box b4 52 (BldV.enc ⟨q, g⟩), Res.own h 5 1 (x.flatMap encY), Res.box b3 52 (BldV.enc ⟨p, h⟩), Res.box b1 41 (Telnet.enc t)]) (0) (X) ([]) ([]) (none) (⟨none, 0, 0⟩) (none) (⟨none, 0, 0⟩) ?_ rfl rfl (fun k t x y p h q g hI1 => ?_)
    · exact ⟨Telnet.FeedI.start (Telnet.good_sub hg), .inl rfl, Hd.Z_nil, rfl, .inl rfl, Hd.Z_nil, rfl⟩
    obtain ⟨hI11, hp, hz, hl, hq, hzg, hlg⟩ := hI1; have hk0 := hI11.k0; have hk1 := hI11.k1; have hsub := hI11.sub; have hxl := hI11.xl; have hyl := hI11.yl; have hc8 := (u.getD k.toNat 0).toNat_lt
    refine G_seq ?_
    refine G_region ?_
    refine GL_step rfl (PS_lss rfl rfl) ?_
    refine GL_nil ?_
    refine GQ_then ?_
    refine G_seq ?_
    refine G_cond rfl (fun c2 => ?_) (fun c2 => ?_)
    · skip
      have c2p := c2
      try simp only [decide_eq_true_eq, decide_eq_false_iff_not, Bool.not_eq_true', Bool.not_eq_false', Bool.or_eq_true, Bool.and_eq_true, Bool.or_eq_false_iff, Bool.and_eq_false_iff, Int.not_lt, Int.not_le] at c2p
      refine G_skip ?_
      refine GQ_sub (.cons (k := 2) rfl (.cons (k := 4) rfl (.cons (k := 8) rfl (.cons (k := 9) rfl (.cons (k := 18) rfl (.cons (k := 19) rfl (.cons (k := 20) rfl (.nil _)))))))) ?_
      refine GQ_then ?_
      refine G_seq ?_
      refine G_block ?_
      refine G_seq ?_
      refine G_region ?_
      refine GL_step rfl (PS_idxS is50 (by decide) (Kn.own (.tail _ (.tail _ (.tail _ (.tail _ (.tail _ (.head _))))))) rfl rfl (by omega) (by omega)) ?_
      refine GL_step rfl (PS_ldY rfl tys5 (Kn.own (.tail _ (.tail _ (.tail _ (.tail _ (.tail _ (.head _))))))) (by omega)) ?_
      refine GL_step rfl (PS_assign rfl) ?_
      refine GL_nil ?_
      refine GQ_sub (.cons (k := 2) rfl (.cons (k := 4) rfl (.cons (k := 8) rfl (.cons (k := 9) rfl (.cons (k := 11) rfl (.cons (k := 18) rfl (.cons (k := 19) rfl (.cons (k := 20) rfl (.nil _))))))))) ?_
      refine GQ_then ?_
      refine G_seq ?_
      refine G_region ?_
      refine GL_step rfl (PS_move rfl) ?_
      refine GL_step rfl (PS_u8i Tryd.underlying3 Tryd.underlying5 rfl) ?_
      refine GL_step rfl (PS_assign rfl) ?_
      refine GL_nil ?_
      refine GQ_sub (.cons (k := 2) rfl (.cons (k := 4) rfl (.cons (k := 8) rfl (.cons (k := 9) rfl (.cons (k := 11) rfl (.cons (k := 12) rfl (.cons (k := 18) rfl (.cons (k := 19) rfl (.cons (k := 20) rfl (.nil _)))))))))) ?_
      refine GQ_then ?_
      refine G_seq ?_
      refine G_region ?_
      refine GL_step rfl (PS_fieldAddr fa41_0 rfl) ?_
      refine GL_step rfl (PS_load rfl tys3 (.tail _ (.tail _ (.tail _ (.tail _ (.head _))))) Telnet.l0 rfl rfl) ?_
      refine GL_nil ?_
      refine GQ_sub (.cons (k := 2) rfl (.cons (k := 4) rfl (.cons (k := 8) rfl (.cons (k := 9) rfl (.cons (k := 11) rfl (.cons (k := 12) rfl (.cons (k := 18) rfl (.cons (k := 19) rfl (.cons (k := 20) rfl (.cons (k := 27) rfl (.nil _))))))))))) ?_
      refine GQ_then ?_
      refine G_block ?_
      refine G_seq ?_
      refine G_region ?_
      refine GL_step rfl (PS_eql rfl rfl) ?_
      refine GL_step rfl (PS_assign rfl) ?_
      refine GL_nil ?_
      refine GQ_sub (.cons (k := 2) rfl (.cons (k := 4) rfl (.cons (k := 8) rfl (.cons (k := 9) rfl (.cons (k := 11) rfl (.cons (k := 12) rfl (.cons (k := 18) rfl (.cons (k := 19) rfl (.cons (k := 20) rfl (.cons (k := 27) rfl (.cons (k := 28) rfl (.nil _)))))))))))) ?_
      refine GQ_then ?_
      refine G_cond rfl (fun c3 => ?_) (fun c3 => ?_)
      · skip
        have c3p := c3
        try simp only [decide_eq_true_eq, decide_eq_false_iff_not, Bool.not_eq_true', Bool.not_eq_false', Bool.or_eq_true, Bool.and_eq_true, Bool.or_eq_false_iff, Bool.and_eq_false_iff, Int.not_lt, Int.not_le] at c3p
        refine G_seq ?_
        refine G_region ?_
        refine GL_step rfl (PS_move rfl) ?_
        refine GL_step rfl (PS_eql rfl rfl) ?_
        refine GL_nil ?_
        refine GQ_sub (.cons (k := 2) rfl (.cons (k := 4) rfl (.cons (k := 8) rfl (.cons (k := 9) rfl (.cons (k := 11) rfl (.cons (k := 18) rfl (.cons (k := 19) rfl (.cons (k := 20) rfl (.cons (k := 31) rfl (.nil _)))))))))) ?_
        refine GQ_then ?_
        refine G_cond rfl (fun c4 => ?_) (fun c4 => ?_)
        · skip
          have c4p := c4
          try simp only [decide_eq_true_eq, decide_eq_false_iff_not, Bool.not_eq_true', Bool.not_eq_false', Bool.or_eq_true, Bool.and_eq_true, Bool.or_eq_false_iff, Bool.and_eq_false_iff, Int.not_lt, Int.not_le] at c4p
          refine G_region ?_
          refine GL_step rfl (PS_fieldAddr fa41_0 rfl) ?_
          refine GL_unit (PU_store Telnet.l0 rfl rfl rfl sz3 rfl (.tail (.tail (.tail (.tail .head))))) ?_
          refine GL_nil ?_
          refine GQ_sub (.cons (k := 2) rfl (.cons (k := 4) rfl (.cons (k := 8) rfl (.cons (k := 9) rfl (.cons (k := 18) rfl (.cons (k := 19) rfl (.cons (k := 20) rfl (.nil _)))))))) ?_
          refine GQ_block ?_
          refine GQ_block ?_
          refine GQ_then ?_
          refine G_region ?_
          refine GL_step rfl (PS_add rfl rfl (IntWalk.i64_in _ (by omega))) ?_
          refine GL_step rfl (PS_move rfl) ?_
          refine GL_nil ?_
          refine GQ_sub (.cons (k := 2) rfl (.cons (k := 4) rfl (.cons (k := 8) rfl (.cons (k := 9) rfl (.cons (k := 18) rfl (.cons (k := 19) rfl (.cons (k := 20) rfl (.nil _)))))))) ?_
          refine GQ_next8_ _ _ _ _ _ _ _ _ ?_ ?_ (.cons (k := 20) rfl (.cons (k := 2) rfl (.cons (k := 4) rfl (.cons (k := 8) rfl (.cons (k := 9) rfl (.cons (k := 18) rfl (.cons (k := 19) rfl (.nil _)))))))) (.refl _)
          · exact ⟨hI11.next (by omega) (by simp only [Telnet.step, c1, c2, c3, c4, ↓reduceIte, Bool.false_eq_true]) (by simp only [Telnet.step, c1, c2, c3, c4, List.append_nil, ↓reduceIte, Bool.false_eq_true]) (by simp only [Telnet.step, c1, c2, c3, c4, List.append_nil, ↓reduceIte, Bool.false_eq_true]), by assumption, by assumption, by assumption, by assumption, by assumption, by assumption⟩
          · omega
        · skip
          have c4p := c4
          try simp only [decide_eq_true_eq, decide_eq_false_iff_not, Bool.not_eq_true', Bool.not_eq_false', Bool.or_eq_true, Bool.and_eq_true, Bool.or_eq_false_iff, Bool.and_eq_false_iff, Int.not_lt, Int.not_le] at c4p
          refine G_region ?_
          refine GL_step rfl (PS_move rfl) ?_
          refine GL_callL rfl cf33 (.cons rfl (.cons rfl .nil)) (.cons (.tail (.tail (.tail .head))) (.cons (.tail (.tail .head)) .nil)) (strings_Builder_WriteByte_spec _ _ _ _ (by assumption) (by assumption) (by assumption) _ (by omega)) (fun v2 B hv => ?_)
          obtain ⟨y3, y4, rfl, y5, y6, y7, rfl⟩ := hv
          refine GL_nil ?_
          refine GQ_sub (.cons (k := 2) rfl (.cons (k := 4) rfl (.cons (k := 8) rfl (.cons (k := 9) rfl (.cons (k := 18) rfl (.cons (k := 19) rfl (.cons (k := 20) rfl (.nil _)))))))) ?_
          refine GQ_block ?_
          refine GQ_block ?_
          refine GQ_then ?_
          refine G_region ?_
          refine GL_step rfl (PS_add rfl rfl (IntWalk.i64_in _ (by omega))) ?_
          refine GL_step rfl (PS_move rfl) ?_
          refine GL_nil ?_
          refine GQ_sub (.cons (k := 2) rfl (.cons (k := 4) rfl (.cons (k := 8) rfl (.cons (k := 9) rfl (.cons (k := 18) rfl (.cons (k := 19) rfl (.cons (k := 20) rfl (.nil _)))))))) ?_
          refine GQ_pulls (.cons (.tail (.tail .head)) (.cons (.tail (.tail .head)) (.cons (.tail .head) (.cons .head (.cons .head (.cons .head (.cons .head .nil))))))) ?_
          refine GQ_dropr ?_
          refine GQ_next8_ _ _ _ _ _ _ _ _ ?_ ?_ (.cons (k := 20) rfl (.cons (k := 2) rfl (.cons (k := 4) rfl (.cons (k := 8) rfl (.cons (k := 9) rfl (.cons (k := 18) rfl (.cons (k := 19) rfl (.nil _)))))))) (.refl _)
          · exact ⟨hI11.next (by omega) (by simp only [Telnet.step, c1, c2, c3, c4, ↓reduceIte, Bool.false_eq_true]) (by simp only [Telnet.step, c1, c2, c3, c4, List.append_nil, ↓reduceIte, Bool.false_eq_true]) (by simp only [Telnet.step, c1, c2, c3, c4, List.append_nil, ↓reduceIte, Bool.false_eq_true]), by assumption, by assumption, by assumption, by assumption, by assumption, by assumption⟩
          · omega
      · skip
        have c3p := c3
        try simp only [decide_eq_true_eq, decide_eq_false_iff_not, Bool.not_eq_true', Bool.not_eq_false', Bool.or_eq_true, Bool.and_eq_true, Bool.or_eq_false_iff, Bool.and_eq_false_iff, Int.not_lt, Int.not_le] at c3p
        refine G_seq ?_
        refine G_region ?_
        refine GL_step rfl (PS_eql rfl rfl) ?_
        refine GL_step rfl (PS_assign rfl) ?_
        refine GL_nil ?_
        refine GQ_sub (.cons (k := 2) rfl (.cons (k := 4) rfl (.cons (k := 8) rfl (.cons (k := 9) rfl (.cons (k := 11) rfl (.cons (k := 12) rfl (.cons (k := 18) rfl (.cons (k := 19) rfl (.cons (k := 20) rfl (.cons (k := 27) rfl (.cons (k := 35) rfl (.nil _)))))))))))) ?_
        refine GQ_then ?_
        refine G_cond rfl (fun c5 => ?_) (fun c5 => ?_)
        · skip
          have c5p := c5
          try simp only [decide_eq_true_eq, decide_eq_false_iff_not, Bool.not_eq_true', Bool.not_eq_false', Bool.or_eq_true, Bool.and_eq_true, Bool.or_eq_false_iff, Bool.and_eq_false_iff, Int.not_lt, Int.not_le] at c5p
          refine G_seq ?_
          refine G_region ?_
          refine GL_step rfl (PS_fieldAddr fa41_0 rfl) ?_
          refine GL_unit (PU_store Telnet.l0 rfl rfl rfl sz3 rfl (.tail (.tail (.tail (.tail .head))))) ?_
          refine GL_nil ?_
          refine GQ_sub (.cons (k := 2) rfl (.cons (k := 4) rfl (.cons (k := 8) rfl (.cons (k := 9) rfl (.cons (k := 11) rfl (.cons (k := 12) rfl (.cons (k := 18) rfl (.cons (k := 19) rfl (.cons (k := 20) rfl (.nil _)))))))))) ?_
          refine GQ_then ?_
          refine G_block ?_
          refine G_seq ?_
          refine G_region ?_
          refine GL_step rfl (PS_move rfl) ?_
          refine GL_step rfl (PS_eql rfl rfl) ?_
          refine GL_step rfl (PS_assign rfl) ?_
          refine GL_nil ?_
          refine GQ_sub (.cons (k := 2) rfl (.cons (k := 4) rfl (.cons (k := 8) rfl (.cons (k := 9) rfl (.cons (k := 11) rfl (.cons (k := 12) rfl (.cons (k := 18) rfl (.cons (k := 19) rfl (.cons (k := 20) rfl (.cons (k := 38) rfl (.nil _))))))))))) ?_
          refine GQ_then ?_
          refine G_cond rfl (fun c6 => ?_) (fun c6 => ?_)
          · skip
            have c6p := c6
            try simp only [decide_eq_true_eq, decide_eq_false_iff_not, Bool.not_eq_true', Bool.not_eq_false', Bool.or_eq_true, Bool.and_eq_true, Bool.or_eq_false_iff, Bool.and_eq_false_iff, Int.not_lt, Int.not_le] at c6p
            refine G_region ?_
            refine GL_step rfl (PS_move rfl) ?_
            refine GL_callL rfl cf33 (.cons rfl (.cons rfl .nil)) (.cons (.tail (.tail (.tail .head))) (.cons (.tail (.tail .head)) .nil)) (strings_Builder_WriteByte_spec _ _ _ _ (by assumption) (by assumption) (by assumption) _ (by omega)) (fun v8 B hv => ?_)
            obtain ⟨y9, y10, rfl, y11, y12, y13, rfl⟩ := hv
            refine GL_nil ?_
            refine GQ_sub (.cons (k := 2) rfl (.cons (k := 4) rfl (.cons (k := 8) rfl (.cons (k := 9) rfl (.cons (k := 18) rfl (.cons (k := 19) rfl (.cons (k := 20) rfl (.nil _)))))))) ?_
            refine GQ_block ?_
            refine GQ_block ?_
            refine GQ_block ?_
            refine GQ_then ?_
            refine G_region ?_
            refine GL_step rfl (PS_add rfl rfl (IntWalk.i64_in _ (by omega))) ?_
            refine GL_step rfl (PS_move rfl) ?_
            refine GL_nil ?_
            refine GQ_sub (.cons (k := 2) rfl (.cons (k := 4) rfl (.cons (k := 8) rfl (.cons (k := 9) rfl (.cons (k := 18) rfl (.cons (k := 19) rfl (.cons (k := 20) rfl (.nil _)))))))) ?_
            refine GQ_pulls (.cons (.tail (.tail .head)) (.cons (.tail (.tail .head)) (.cons (.tail .head) (.cons .head (.cons .head (.cons .head (.cons .head .nil))))))) ?_
            refine GQ_dropr ?_
            refine GQ_next8_ _ _ _ _ _ _ _ _ ?_ ?_ (.cons (k := 20) rfl (.cons (k := 2) rfl (.cons (k := 4) rfl (.cons (k := 8) rfl (.cons (k := 9) rfl (.cons (k := 18) rfl (.cons (k := 19) rfl (.nil _)))))))) (.refl _)
            · exact ⟨hI11.next (by omega) (by simp only [Telnet.step, c1, c2, c3, c5, c6, ↓reduceIte, Bool.false_eq_true]) (by simp only [Telnet.step, c1, c2, c3, c5, c6, List.append_nil, ↓reduceIte, Bool.false_eq_true]) (by simp only [Telnet.step, c1, c2, c3, c5, c6, List.append_nil, ↓reduceIte, Bool.false_eq_true]), by assumption, by assumption, by assumption, by assumption, by assumption, by assumption⟩
            · omega
          · skip
            have c6p := c6
            try simp only [decide_eq_true_eq, decide_eq_false_iff_not, Bool.not_eq_true', Bool.not_eq_false', Bool.or_eq_true, Bool.and_eq_true, Bool.or_eq_false_iff, Bool.and_eq_false_iff, Int.not_lt, Int.not_le] at c6p
            refine G_seq ?_
            refine G_region ?_
            refine GL_step rfl (PS_move rfl) ?_
            refine GL_step rfl (PS_eql rfl rfl) ?_
            refine GL_step rfl (PS_assign rfl) ?_
            refine GL_nil ?_
            refine GQ_sub (.cons (k := 2) rfl (.cons (k := 4) rfl (.cons (k := 8) rfl (.cons (k := 9) rfl (.cons (k := 12) rfl (.cons (k := 18) rfl (.cons (k := 19) rfl (.cons (k := 20) rfl (.cons (k := 43) rfl (.nil _)))))))))) ?_
            refine GQ_then ?_
            refine G_cond rfl (fun c7 => ?_) (fun c7 => ?_)
            · skip
              have c7p := c7
              try simp only [decide_eq_true_eq, decide_eq_false_iff_not, Bool.not_eq_true', Bool.not_eq_false', Bool.or_eq_true, Bool.and_eq_true, Bool.or_eq_false_iff, Bool.and_eq_false_iff, Int.not_lt, Int.not_le] at c7p
              refine G_region ?_
              refine GL_step rfl (PS_fieldAddr fa41_0 rfl) ?_
              refine GL_unit (PU_store Telnet.l0 rfl rfl rfl sz3 rfl (.tail (.tail (.tail (.tail .head))))) ?_
              refine GL_nil ?_
              refine GQ_sub (.cons (k := 2) rfl (.cons (k := 4) rfl (.cons (k := 8) rfl (.cons (k := 9) rfl (.cons (k := 18) rfl (.cons (k := 19) rfl (.cons (k := 20) rfl (.nil _)))))))) ?_
              refine GQ_block ?_
              refine GQ_block ?_
              refine GQ_block ?_
              refine GQ_then ?_
              refine G_region ?_
              refine GL_step rfl (PS_add rfl rfl (IntWalk.i64_in _ (by omega))) ?_
              refine GL_step rfl (PS_move rfl) ?_
              refine GL_nil ?_
              refine GQ_sub (.cons (k := 2) rfl (.cons (k := 4) rfl (.cons (k := 8) rfl (.cons (k := 9) rfl (.cons (k := 18) rfl (.cons (k := 19) rfl (.cons (k := 20) rfl (.nil _)))))))) ?_
              refine GQ_next8_ _ _ _ _ _ _ _ _ ?_ ?_ (.cons (k := 20) rfl (.cons (k := 2) rfl (.cons (k := 4) rfl (.cons (k := 8) rfl (.cons (k := 9) rfl (.cons (k := 18) rfl (.cons (k := 19) rfl (.nil _)))))))) (.refl _)
              · exact ⟨hI11.next (by omega) (by simp only [Telnet.step, c1, c2, c3, c5, c6, c7, ↓reduceIte, Bool.false_eq_true]) (by simp only [Telnet.step, c1, c2, c3, c5, c6, c7, List.append_nil, ↓reduceIte, Bool.false_eq_true]) (by simp only [Telnet.step, c1, c2, c3, c5, c6, c7, List.append_nil, ↓reduceIte, Bool.false_eq_true]), by assumption, by assumption, by assumption, by assumption, by assumption, by assumption⟩
              · omega
            · skip
              have c7p := c7
              try simp only [decide_eq_true_eq, decide_eq_false_iff_not, Bool.not_eq_true', Bool.not_eq_false', Bool.or_eq_true, Bool.and_eq_true, Bool.or_eq_false_iff, Bool.and_eq_false_iff, Int.not_lt, Int.not_le] at c7p
              refine G_seq ?_
              refine G_region ?_
              refine GL_step rfl (PS_move rfl) ?_
              refine GL_step rfl (PS_geq rfl rfl) ?_
              refine GL_step rfl (PS_assign rfl) ?_
              refine GL_nil ?_
              refine GQ_sub (.cons (k := 2) rfl (.cons (k := 4) rfl (.cons (k := 8) rfl (.cons (k := 9) rfl (.cons (k := 12) rfl (.cons (k := 18) rfl (.cons (k := 19) rfl (.cons (k := 20) rfl (.cons (k := 47) rfl (.nil _)))))))))) ?_
              refine GQ_then ?_
              refine G_cond rfl (fun c8 => ?_) (fun c8 => ?_)
              · skip
                have c8p := c8
                try simp only [decide_eq_true_eq, decide_eq_false_iff_not, Bool.not_eq_true', Bool.not_eq_false', Bool.or_eq_true, Bool.and_eq_true, Bool.or_eq_false_iff, Bool.and_eq_false_iff, Int.not_lt, Int.not_le] at c8p
                refine G_region ?_
                refine GL_step rfl (PS_move rfl) ?_
                refine GL_step rfl (PS_fieldAddr fa41_0 rfl) ?_
                refine GL_unit (PU_store Telnet.l0 rfl rfl rfl sz3 rfl (.tail (.tail (.tail (.tail .head))))) ?_
                refine GL_step rfl (PS_fieldAddr fa41_1 rfl) ?_
                refine GL_unit (PU_store Telnet.l1 rfl rfl rfl sz3 rfl (.tail (.tail (.tail (.tail .head))))) ?_
                refine GL_nil ?_
                refine GQ_sub (.cons (k := 2) rfl (.cons (k := 4) rfl (.cons (k := 8) rfl (.cons (k := 9) rfl (.cons (k := 18) rfl (.cons (k := 19) rfl (.cons (k := 20) rfl (.nil _)))))))) ?_
                refine GQ_block ?_
                refine GQ_block ?_
                refine GQ_block ?_
                refine GQ_then ?_
                refine G_region ?_
                refine GL_step rfl (PS_add rfl rfl (IntWalk.i64_in _ (by omega))) ?_
                refine GL_step rfl (PS_move rfl) ?_
                refine GL_nil ?_
                refine GQ_sub (.cons (k := 2) rfl (.cons (k := 4) rfl (.cons (k := 8) rfl (.cons (k := 9) rfl (.cons (k := 18) rfl (.cons (k := 19) rfl (.cons (k := 20) rfl (.nil _)))))))) ?_
                refine GQ_next8_ _ _ _ _ _ _ _ _ ?_ ?_ (.cons (k := 20) rfl (.cons (k := 2) rfl (.cons (k := 4) rfl (.cons (k := 8) rfl (.cons (k := 9) rfl (.cons (k := 18) rfl (.cons (k := 19) rfl (.nil _)))))))) (.refl _)
                · exact ⟨hI11.next (by omega) (by simp only [Telnet.step, c1, c2, c3, c5, c6, c7, c8, ↓reduceIte, Bool.false_eq_true]) (by simp only [Telnet.step, c1, c2, c3, c5, c6, c7, c8, List.append_nil, ↓reduceIte, Bool.false_eq_true]) (by simp only [Telnet.step, c1, c2, c3, c5, c6, c7, c8, List.append_nil, ↓reduceIte, Bool.false_eq_true]), by assumption, by assumption, by assumption, by assumption, by assumption, by assumption⟩
                · omega
              · skip
                have c8p := c8
                try simp only [decide_eq_true_eq, decide_eq_false_iff_not, Bool.not_eq_true', Bool.not_eq_false', Bool.or_eq_true, Bool.and_eq_true, Bool.or_eq_false_iff, Bool.and_eq_false_iff, Int.not_lt, Int.not_le] at c8p
                refine G_skip ?_
                refine GQ_sub (.cons (k := 2) rfl (.cons (k := 4) rfl (.cons (k := 8) rfl (.cons (k := 9) rfl (.cons (k := 18) rfl (.cons (k := 19) rfl (.cons (k := 20) rfl (.nil _)))))))) ?_
                refine GQ_block ?_
                refine GQ_block ?_
                refine GQ_block ?_
                refine GQ_then ?_
                refine G_region ?_
                refine GL_step rfl (PS_add rfl rfl (IntWalk.i64_in _ (by omega))) ?_
                refine GL_step rfl (PS_move rfl) ?_
                refine GL_nil ?_
                refine GQ_sub (.cons (k := 2) rfl (.cons (k := 4) rfl (.cons (k := 8) rfl (.cons (k := 9) rfl (.cons (k := 18) rfl (.cons (k := 19) rfl (.cons (k := 20) rfl (.nil _)))))))) ?_
                refine GQ_next8_ _ _ _ _ _ _ _ _ ?_ ?_ (.cons (k := 20) rfl (.cons (k := 2) rfl (.cons (k := 4) rfl (.cons (k := 8) rfl (.cons (k := 9) rfl (.cons (k := 18) rfl (.cons (k := 19) rfl (.nil _)))))))) (.refl _)
                · exact ⟨hI11.next (by omega) (by simp only [Telnet.step, c1, c2, c3, c5, c6, c7, c8, ↓reduceIte, Bool.false_eq_true]) (by simp only [Telnet.step, c1, c2, c3, c5, c6, c7, c8, List.append_nil, ↓reduceIte, Bool.false_eq_true]) (by simp only [Telnet.step, c1, c2, c3, c5, c6, c7, c8, List.append_nil, ↓reduceIte, Bool.false_eq_true]), by assumption, by assumption, by assumption, by assumption, by assumption, by assumption⟩
                · omega
        · skip
          have c5p := c5
          try simp only [decide_eq_true_eq, decide_eq_false_iff_not, Bool.not_eq_true', Bool.not_eq_false', Bool.or_eq_true, Bool.and_eq_true, Bool.or_eq_false_iff, Bool.and_eq_false_iff, Int.not_lt, Int.not_le] at c5p
          refine G_seq ?_
          refine G_region ?_
          refine GL_step rfl (PS_eql rfl rfl) ?_
          refine GL_step rfl (PS_assign rfl) ?_
          refine GL_nil ?_
          refine GQ_sub (.cons (k := 2) rfl (.cons (k := 4) rfl (.cons (k := 8) rfl (.cons (k := 9) rfl (.cons (k := 11) rfl (.cons (k := 12) rfl (.cons (k := 18) rfl (.cons (k := 19) rfl (.cons (k := 20) rfl (.cons (k := 27) rfl (.cons (k := 53) rfl (.nil _)))))))))))) ?_
          refine GQ_then ?_
          refine G_cond rfl (fun c9 => ?_) (fun c9 => ?_)
          · skip
            have c9p := c9
            try simp only [decide_eq_true_eq, decide_eq_false_iff_not, Bool.not_eq_true', Bool.not_eq_false', Bool.or_eq_true, Bool.and_eq_true, Bool.or_eq_false_iff, Bool.and_eq_false_iff, Int.not_lt, Int.not_le] at c9p
            refine G_seq ?_
            refine G_region ?_
            refine GL_step rfl (PS_fieldAddr fa41_1 rfl) ?_
            refine GL_step rfl (PS_load rfl tys3 (.tail _ (.tail _ (.tail _ (.tail _ (.head _))))) Telnet.l1 rfl rfl) ?_
            refine GL_step rfl (PS_move rfl) ?_
            refine GL_callL rfl cf35 (.cons rfl (.cons rfl (.cons rfl .nil))) (.cons (.tail (.tail (.tail (.tail .head)))) .nil) (telnet_negotiate_spec _ _ _ _ (by first | assumption | omega)) (fun v14 B hv => ?_)
            obtain ⟨rfl, rfl⟩ := hv
            refine GL_callL rfl cf34 (.cons rfl (.cons rfl .nil)) (.cons (.tail (.tail .head)) (.cons (.tail .head) .nil)) (strings_Builder_WriteString_spec _ _ _ _ (by assumption) (by assumption) (by assumption) _ (by have := Telnet.negotiate_len t t.verb ((u.getD k.toNat 0).toNat : Int); omega)) (fun v15 B hv => ?_)
            obtain ⟨y16, y17, rfl, y18, y19, y20, rfl⟩ := hv
            refine GL_nil ?_
            refine GQ_sub (.cons (k := 2) rfl (.cons (k := 4) rfl (.cons (k := 8) rfl (.cons (k := 9) rfl (.cons (k := 18) rfl (.cons (k := 19) rfl (.cons (k := 20) rfl (.nil _)))))))) ?_
            refine GQ_then ?_
            refine G_region ?_
            refine GL_step rfl (PS_fieldAddr fa41_0 rfl) ?_
            refine GL_unit (PU_store Telnet.l0 rfl rfl rfl sz3 rfl (.tail (.tail .head))) ?_
            refine GL_step rfl (PS_fieldAddr fa41_1 rfl) ?_
            refine GL_unit (PU_store Telnet.l1 rfl rfl rfl sz3 rfl (.tail (.tail .head))) ?_
            refine GL_nil ?_
            refine GQ_sub (.cons (k := 2) rfl (.cons (k := 4) rfl (.cons (k := 8) rfl (.cons (k := 9) rfl (.cons (k := 18) rfl (.cons (k := 19) rfl (.cons (k := 20) rfl (.nil _)))))))) ?_
            refine GQ_block ?_
            refine GQ_block ?_
            refine GQ_then ?_
            refine G_region ?_
            refine GL_step rfl (PS_add rfl rfl (IntWalk.i64_in _ (by omega))) ?_
            refine GL_step rfl (PS_move rfl) ?_
            refine GL_nil ?_
            refine GQ_sub (.cons (k := 2) rfl (.cons (k := 4) rfl (.cons (k := 8) rfl (.cons (k := 9) rfl (.cons (k := 18) rfl (.cons (k := 19) rfl (.cons (k := 20) rfl (.nil _)))))))) ?_
            refine GQ_pulls (.cons (.tail .head) (.cons .head (.cons (.tail .head) (.cons (.tail .head) (.cons .head (.cons .head (.cons .head .nil))))))) ?_
            refine GQ_dropr ?_
            refine GQ_next8_ _ _ _ _ _ _ _ _ ?_ ?_ (.cons (k := 20) rfl (.cons (k := 2) rfl (.cons (k := 4) rfl (.cons (k := 8) rfl (.cons (k := 9) rfl (.cons (k := 18) rfl (.cons (k := 19) rfl (.nil _)))))))) (.refl _)
            · exact ⟨hI11.next (by omega) (by simp only [Telnet.step, c1, c2, c3, c5, c9, ↓reduceIte, Bool.false_eq_true]) (by simp only [Telnet.step, c1, c2, c3, c5, c9, List.append_nil, ↓reduceIte, Bool.false_eq_true]) (by simp only [Telnet.step, c1, c2, c3, c5, c9, List.append_nil, ↓reduceIte, Bool.false_eq_true]), by assumption, by assumption, by assumption, by assumption, by assumption, by assumption⟩
            · omega
          · skip
            have c9p := c9
            try simp only [decide_eq_true_eq, decide_eq_false_iff_not, Bool.not_eq_true', Bool.not_eq_false', Bool.or_eq_true, Bool.and_eq_true, Bool.or_eq_false_iff, Bool.and_eq_false_iff, Int.not_lt, Int.not_le] at c9p
            refine G_seq ?_
            refine G_region ?_
            refine GL_step rfl (PS_eql rfl rfl) ?_
            refine GL_step rfl (PS_assign rfl) ?_
            refine GL_nil ?_
            refine GQ_sub (.cons (k := 2) rfl (.cons (k := 4) rfl (.cons (k := 8) rfl (.cons (k := 9) rfl (.cons (k := 11) rfl (.cons (k := 12) rfl (.cons (k := 18) rfl (.cons (k := 19) rfl (.cons (k := 20) rfl (.cons (k := 27) rfl (.cons (k := 62) rfl (.nil _)))))))))))) ?_
            refine GQ_then ?_
            refine G_cond rfl (fun c10 => ?_) (fun c10 => ?_)
            · skip
              have c10p := c10
              try simp only [decide_eq_true_eq, decide_eq_false_iff_not, Bool.not_eq_true', Bool.not_eq_false', Bool.or_eq_true, Bool.and_eq_true, Bool.or_eq_false_iff, Bool.and_eq_false_iff, Int.not_lt, Int.not_le] at c10p
              refine G_seq ?_
              refine G_region ?_
              refine GL_step rfl (PS_move rfl) ?_
              refine GL_step rfl (PS_eql rfl rfl) ?_
              refine GL_nil ?_
              refine GQ_sub (.cons (k := 2) rfl (.cons (k := 4) rfl (.cons (k := 8) rfl (.cons (k := 9) rfl (.cons (k := 11) rfl (.cons (k := 18) rfl (.cons (k := 19) rfl (.cons (k := 20) rfl (.cons (k := 65) rfl (.nil _)))))))))) ?_
              refine GQ_then ?_
              refine G_cond rfl (fun c11 => ?_) (fun c11 => ?_)
              · skip
                have c11p := c11
                try simp only [decide_eq_true_eq, decide_eq_false_iff_not, Bool.not_eq_true', Bool.not_eq_false', Bool.or_eq_true, Bool.and_eq_true, Bool.or_eq_false_iff, Bool.and_eq_false_iff, Int.not_lt, Int.not_le] at c11p
                refine G_region ?_
                refine GL_step rfl (PS_fieldAddr fa41_0 rfl) ?_
                refine GL_unit (PU_store Telnet.l0 rfl rfl rfl sz3 rfl (.tail (.tail (.tail (.tail .head))))) ?_
                refine GL_nil ?_
                refine GQ_sub (.cons (k := 2) rfl (.cons (k := 4) rfl (.cons (k := 8) rfl (.cons (k := 9) rfl (.cons (k := 18) rfl (.cons (k := 19) rfl (.cons (k := 20) rfl (.nil _)))))))) ?_
                refine GQ_block ?_
                refine GQ_block ?_
                refine GQ_then ?_
                refine G_region ?_
                refine GL_step rfl (PS_add rfl rfl (IntWalk.i64_in _ (by omega))) ?_
                refine GL_step rfl (PS_move rfl) ?_
                refine GL_nil ?_
                refine GQ_sub (.cons (k := 2) rfl (.cons (k := 4) rfl (.cons (k := 8) rfl (.cons (k := 9) rfl (.cons (k := 18) rfl (.cons (k := 19) rfl (.cons (k := 20) rfl (.nil _)))))))) ?_
                refine GQ_next8_ _ _ _ _ _ _ _ _ ?_ ?_ (.cons (k := 20) rfl (.cons (k := 2) rfl (.cons (k := 4) rfl (.cons (k := 8) rfl (.cons (k := 9) rfl (.cons (k := 18) rfl (.cons (k := 19) rfl (.nil _)))))))) (.refl _)
                · exact ⟨hI11.next (by omega) (by simp only [Telnet.step, c1, c2, c3, c5, c9, c10, c11, ↓reduceIte, Bool.false_eq_true]) (by simp only [Telnet.step, c1, c2, c3, c5, c9, c10, c11, List.append_nil, ↓reduceIte, Bool.false_eq_true]) (by simp only [Telnet.step, c1, c2, c3, c5, c9, c10, c11, List.append_nil, ↓reduceIte, Bool.false_eq_true]), by assumption, by assumption, by assumption, by assumption, by assumption, by assumption⟩
                · omega
              · skip
                have c11p := c11
                try simp only [decide_eq_true_eq, decide_eq_false_iff_not, Bool.not_eq_true', Bool.not_eq_false', Bool.or_eq_true, Bool.and_eq_true, Bool.or_eq_false_iff, Bool.and_eq_false_iff, Int.not_lt, Int.not_le] at c11p
                refine G_region ?_
                refine GL_step rfl (PS_move rfl) ?_
                refine GL_callL rfl cf36 (.cons rfl (.cons rfl .nil)) (.cons (.tail (.tail (.tail (.tail .head)))) .nil) (telnet_collect_spec _ _ _ (by first | assumption | omega)) (fun v21 B hv => ?_)
                obtain ⟨rfl, rfl⟩ := hv
                refine GL_nil ?_
                refine GQ_sub (.cons (k := 2) rfl (.cons (k := 4) rfl (.cons (k := 8) rfl (.cons (k := 9) rfl (.cons (k := 18) rfl (.cons (k := 19) rfl (.cons (k := 20) rfl (.nil _)))))))) ?_
                refine GQ_block ?_
                refine GQ_block ?_
                refine GQ_then ?_
                refine G_region ?_
                refine GL_step rfl (PS_add rfl rfl (IntWalk.i64_in _ (by omega))) ?_
                refine GL_step rfl (PS_move rfl) ?_
                refine GL_nil ?_
                refine GQ_sub (.cons (k := 2) rfl (.cons (k := 4) rfl (.cons (k := 8) rfl (.cons (k := 9) rfl (.cons (k := 18) rfl (.cons (k := 19) rfl (.cons (k := 20) rfl (.nil _)))))))) ?_
                refine GQ_pulls (.cons (.tail .head) (.cons (.tail .head) (.cons (.tail .head) (.cons (.tail .head) (.cons .head (.cons .head (.cons .head .nil))))))) ?_
                refine GQ_dropr ?_
                refine GQ_next8_ _ _ _ _ _ _ _ _ ?_ ?_ (.cons (k := 20) rfl (.cons (k := 2) rfl (.cons (k := 4) rfl (.cons (k := 8) rfl (.cons (k := 9) rfl (.cons (k := 18) rfl (.cons (k := 19) rfl (.nil _)))))))) (.refl _)
                · exact ⟨hI11.next (by omega) (by simp only [Telnet.step, c1, c2, c3, c5, c9, c10, c11, ↓reduceIte, Bool.false_eq_true]) (by simp only [Telnet.step, c1, c2, c3, c5, c9, c10, c11, List.append_nil, ↓reduceIte, Bool.false_eq_true]) (by simp only [Telnet.step, c1, c2, c3, c5, c9, c10, c11, List.append_nil, ↓reduceIte, Bool.false_eq_true]), by assumption, by assumption, by assumption, by assumption, by assumption, by assumption⟩
                · omega
            · skip
              have c10p := c10
              try simp only [decide_eq_true_eq, decide_eq_false_iff_not, Bool.not_eq_true', Bool.not_eq_false', Bool.or_eq_true, Bool.and_eq_true, Bool.or_eq_false_iff, Bool.and_eq_false_iff, Int.not_lt, Int.not_le] at c10p
              refine G_seq ?_
              refine G_region ?_
              refine GL_step rfl (PS_eql rfl rfl) ?_
              refine GL_step rfl (PS_assign rfl) ?_
              refine GL_nil ?_
              refine GQ_sub (.cons (k := 2) rfl (.cons (k := 4) rfl (.cons (k := 8) rfl (.cons (k := 9) rfl (.cons (k := 11) rfl (.cons (k := 12) rfl (.cons (k := 18) rfl (.cons (k := 19) rfl (.cons (k := 20) rfl (.cons (k := 69) rfl (.nil _))))))))))) ?_
              refine GQ_then ?_
              refine G_cond rfl (fun c12 => ?_) (fun c12 => ?_)
              · skip
                have c12p := c12
                try simp only [decide_eq_true_eq, decide_eq_false_iff_not, Bool.not_eq_true', Bool.not_eq_false', Bool.or_eq_true, Bool.and_eq_true, Bool.or_eq_false_iff, Bool.and_eq_false_iff, Int.not_lt, Int.not_le] at c12p
                refine G_seq ?_
                refine G_region ?_
                refine GL_step rfl (PS_move rfl) ?_
                refine GL_nil ?_
                refine GQ_sub (.cons (k := 2) rfl (.cons (k := 4) rfl (.cons (k := 8) rfl (.cons (k := 9) rfl (.cons (k := 11) rfl (.cons (k := 12) rfl (.cons (k := 18) rfl (.cons (k := 19) rfl (.cons (k := 20) rfl (.cons (k := 71) rfl (.nil _))))))))))) ?_
                refine GQ_then ?_
                refine G_block ?_
                refine G_seq ?_
                refine G_region ?_
                refine GL_step rfl (PS_eql rfl rfl) ?_
                refine GL_step rfl (PS_assign rfl) ?_
                refine GL_nil ?_
                refine GQ_sub (.cons (k := 2) rfl (.cons (k := 4) rfl (.cons (k := 8) rfl (.cons (k := 9) rfl (.cons (k := 11) rfl (.cons (k := 12) rfl (.cons (k := 18) rfl (.cons (k := 19) rfl (.cons (k := 20) rfl (.cons (k := 77) rfl (.nil _))))))))))) ?_
                refine GQ_then ?_
                refine G_cond rfl (fun c13 => ?_) (fun c13 => ?_)
                · skip
                  have c13p := c13
                  try simp only [decide_eq_true_eq, decide_eq_false_iff_not, Bool.not_eq_true', Bool.not_eq_false', Bool.or_eq_true, Bool.and_eq_true, Bool.or_eq_false_iff, Bool.and_eq_false_iff, Int.not_lt, Int.not_le] at c13p
                  refine G_seq ?_
                  refine G_region ?_
                  refine GL_step rfl (PS_fieldAddr fa41_0 rfl) ?_
                  refine GL_unit (PU_store Telnet.l0 rfl rfl rfl sz3 rfl (.tail (.tail (.tail (.tail .head))))) ?_
                  refine GL_nil ?_
                  refine GQ_sub (.cons (k := 2) rfl (.cons (k := 4) rfl (.cons (k := 8) rfl (.cons (k := 9) rfl (.cons (k := 11) rfl (.cons (k := 18) rfl (.cons (k := 19) rfl (.cons (k := 20) rfl (.nil _))))))))) ?_
                  refine GQ_then ?_
                  refine G_region ?_
                  refine GL_step rfl (PS_move rfl) ?_
                  refine GL_callL rfl cf36 (.cons rfl (.cons rfl .nil)) (.cons (.tail (.tail (.tail (.tail .head)))) .nil) (telnet_collect_spec _ _ _ (by first | assumption | omega)) (fun v22 B hv => ?_)
                  obtain ⟨rfl, rfl⟩ := hv
                  refine GL_nil ?_
                  refine GQ_sub (.cons (k := 2) rfl (.cons (k := 4) rfl (.cons (k := 8) rfl (.cons (k := 9) rfl (.cons (k := 18) rfl (.cons (k := 19) rfl (.cons (k := 20) rfl (.nil _)))))))) ?_
                  refine GQ_block ?_
                  refine GQ_block ?_
                  refine GQ_block ?_
                  refine GQ_then ?_
                  refine G_region ?_
                  refine GL_step rfl (PS_add rfl rfl (IntWalk.i64_in _ (by omega))) ?_
                  refine GL_step rfl (PS_move rfl) ?_
                  refine GL_nil ?_
                  refine GQ_sub (.cons (k := 2) rfl (.cons (k := 4) rfl (.cons (k := 8) rfl (.cons (k := 9) rfl (.cons (k := 18) rfl (.cons (k := 19) rfl (.cons (k := 20) rfl (.nil _)))))))) ?_
                  refine GQ_pulls (.cons (.tail .head) (.cons (.tail .head) (.cons (.tail .head) (.cons (.tail .head) (.cons .head (.cons .head (.cons .head .nil))))))) ?_
                  refine GQ_dropr ?_
                  refine GQ_next8_ _ _ _ _ _ _ _ _ ?_ ?_ (.cons (k := 20) rfl (.cons (k := 2) rfl (.cons (k := 4) rfl (.cons (k := 8) rfl (.cons (k := 9) rfl (.cons (k := 18) rfl (.cons (k := 19) rfl (.nil _)))))))) (.refl _)
                  · exact ⟨hI11.next (by omega) (by simp only [Telnet.step, c1, c2, c3, c5, c9, c10, c12, c13, ↓reduceIte, Bool.false_eq_true]) (by simp only [Telnet.step, c1, c2, c3, c5, c9, c10, c12, c13, List.append_nil, ↓reduceIte, Bool.false_eq_true]) (by simp only [Telnet.step, c1, c2, c3, c5, c9, c10, c12, c13, List.append_nil, ↓reduceIte, Bool.false_eq_true]), by assumption, by assumption, by assumption, by assumption, by assumption, by assumption⟩
                  · omega
                · skip
                  have c13p := c13
                  try simp only [decide_eq_true_eq, decide_eq_false_iff_not, Bool.not_eq_true', Bool.not_eq_false', Bool.or_eq_true, Bool.and_eq_true, Bool.or_eq_false_iff, Bool.and_eq_false_iff, Int.not_lt, Int.not_le] at c13p
                  refine G_seq ?_
                  refine G_seq ?_
                  refine G_region ?_
                  refine GL_step rfl (PS_move rfl) ?_
                  refine GL_step rfl (PS_eql rfl rfl) ?_
                  refine GL_nil ?_
                  refine GQ_sub (.cons (k := 2) rfl (.cons (k := 4) rfl (.cons (k := 8) rfl (.cons (k := 9) rfl (.cons (k := 18) rfl (.cons (k := 19) rfl (.cons (k := 20) rfl (.cons (k := 73) rfl (.nil _))))))))) ?_
                  refine GQ_then ?_
                  refine G_cond rfl (fun c14 => ?_) (fun c14 => ?_)
                  · skip
                    have c14p := c14
                    try simp only [decide_eq_true_eq, decide_eq_false_iff_not, Bool.not_eq_true', Bool.not_eq_false', Bool.or_eq_true, Bool.and_eq_true, Bool.or_eq_false_iff, Bool.and_eq_false_iff, Int.not_lt, Int.not_le] at c14p
                    refine G_region ?_
                    refine GL_callL rfl cf37 (.cons rfl .nil) (.cons (.tail (.tail (.tail (.tail .head)))) .nil) (telnet_measure_spec _ _) (fun v23 B hv => ?_)
                    obtain ⟨rfl, rfl⟩ := hv
                    refine GL_nil ?_
                    refine GQ_sub (.cons (k := 2) rfl (.cons (k := 4) rfl (.cons (k := 8) rfl (.cons (k := 9) rfl (.cons (k := 18) rfl (.cons (k := 19) rfl (.cons (k := 20) rfl (.nil _)))))))) ?_
                    refine GQ_then ?_
                    refine G_region ?_
                    refine GL_step rfl (PS_fieldAddr fa41_0 rfl) ?_
                    refine GL_unit (PU_store Telnet.l0 rfl rfl rfl sz3 rfl .head) ?_
                    refine GL_step rfl (PS_fieldAddr fa41_2 rfl) ?_
                    refine GL_unit (PU_store Telnet.l2 rfl rfl rfl sz9 rfl .head) ?_
                    refine GL_nil ?_
                    refine GQ_sub (.cons (k := 2) rfl (.cons (k := 4) rfl (.cons (k := 8) rfl (.cons (k := 9) rfl (.cons (k := 18) rfl (.cons (k := 19) rfl (.cons (k := 20) rfl (.nil _)))))))) ?_
                    refine GQ_block ?_
                    refine GQ_block ?_
                    refine GQ_block ?_
                    refine GQ_then ?_
                    refine G_region ?_
                    refine GL_step rfl (PS_add rfl rfl (IntWalk.i64_in _ (by omega))) ?_
                    refine GL_step rfl (PS_move rfl) ?_
                    refine GL_nil ?_
                    refine GQ_sub (.cons (k := 2) rfl (.cons (k := 4) rfl (.cons (k := 8) rfl (.cons (k := 9) rfl (.cons (k := 18) rfl (.cons (k := 19) rfl (.cons (k := 20) rfl (.nil _)))))))) ?_
                    refine GQ_pulls (.cons (.tail .head) (.cons (.tail .head) (.cons (.tail .head) (.cons (.tail .head) (.cons .head (.cons .head (.cons .head .nil))))))) ?_
                    refine GQ_dropr ?_
                    refine GQ_next8_ _ _ _ _ _ _ _ _ ?_ ?_ (.cons (k := 20) rfl (.cons (k := 2) rfl (.cons (k := 4) rfl (.cons (k := 8) rfl (.cons (k := 9) rfl (.cons (k := 18) rfl (.cons (k := 19) rfl (.nil _)))))))) (.refl _)
                    · exact ⟨hI11.next (by omega) (by simp only [Telnet.step, c1, c2, c3, c5, c9, c10, c12, c13, c14, ↓reduceIte, Bool.false_eq_true]) (by simp only [Telnet.step, c1, c2, c3, c5, c9, c10, c12, c13, c14, List.append_nil, ↓reduceIte, Bool.false_eq_true]) (by simp only [Telnet.step, c1, c2, c3, c5, c9, c10, c12, c13, c14, List.append_nil, ↓reduceIte, Bool.false_eq_true]), by assumption, by assumption, by assumption, by assumption, by assumption, by assumption⟩
                    · omega
                  · skip
                    have c14p := c14
                    try simp only [decide_eq_true_eq, decide_eq_false_iff_not, Bool.not_eq_true', Bool.not_eq_false', Bool.or_eq_true, Bool.and_eq_true, Bool.or_eq_false_iff, Bool.and_eq_false_iff, Int.not_lt, Int.not_le] at c14p
                    refine G_skip ?_
                    refine GQ_sub (.cons (k := 2) rfl (.cons (k := 4) rfl (.cons (k := 8) rfl (.cons (k := 9) rfl (.cons (k := 18) rfl (.cons (k := 19) rfl (.cons (k := 20) rfl (.nil _)))))))) ?_
                    refine GQ_then ?_
                    refine G_region ?_
                    refine GL_step rfl (PS_fieldAddr fa41_0 rfl) ?_
                    refine GL_unit (PU_store Telnet.l0 rfl rfl rfl sz3 rfl (.tail (.tail (.tail (.tail .head))))) ?_
                    refine GL_step rfl (PS_fieldAddr fa41_2 rfl) ?_
                    refine GL_unit (PU_store Telnet.l2 rfl rfl rfl sz9 rfl (.tail (.tail (.tail (.tail .head))))) ?_
                    refine GL_nil ?_
                    refine GQ_sub (.cons (k := 2) rfl (.cons (k := 4) rfl (.cons (k := 8) rfl (.cons (k := 9) rfl (.cons (k := 18) rfl (.cons (k := 19) rfl (.cons (k := 20) rfl (.nil _)))))))) ?_
                    refine GQ_block ?_
                    refine GQ_block ?_
                    refine GQ_block ?_
                    refine GQ_then ?_
                    refine G_region ?_
                    refine GL_step rfl (PS_add rfl rfl (IntWalk.i64_in _ (by omega))) ?_
                    refine GL_step rfl (PS_move rfl) ?_
                    refine GL_nil ?_
                    refine GQ_sub (.cons (k := 2) rfl (.cons (k := 4) rfl (.cons (k := 8) rfl (.cons (k := 9) rfl (.cons (k := 18) rfl (.cons (k := 19) rfl (.cons (k := 20) rfl (.nil _)))))))) ?_
                    refine GQ_next8_ _ _ _ _ _ _ _ _ ?_ ?_ (.cons (k := 20) rfl (.cons (k := 2) rfl (.cons (k := 4) rfl (.cons (k := 8) rfl (.cons (k := 9) rfl (.cons (k := 18) rfl (.cons (k := 19) rfl (.nil _)))))))) (.refl _)
                    · exact ⟨hI11.next (by omega) (by simp only [Telnet.step, c1, c2, c3, c5, c9, c10, c12, c13, c14, ↓reduceIte, Bool.false_eq_true]) (by simp only [Telnet.step, c1, c2, c3, c5, c9, c10, c12, c13, c14, List.append_nil, ↓reduceIte, Bool.false_eq_true]) (by simp only [Telnet.step, c1, c2, c3, c5, c9, c10, c12, c13, c14, List.append_nil, ↓reduceIte, Bool.false_eq_true]), by assumption, by assumption, by assumption, by assumption, by assumption, by assumption⟩
                    · omega
              · skip
                have c12p := c12
                try simp only [decide_eq_true_eq, decide_eq_false_iff_not, Bool.not_eq_true', Bool.not_eq_false', Bool.or_eq_true, Bool.and_eq_true, Bool.or_eq_false_iff, Bool.and_eq_false_iff, Int.not_lt, Int.not_le] at c12p
                refine G_skip ?_
                refine GQ_sub (.cons (k := 2) rfl (.cons (k := 4) rfl (.cons (k := 8) rfl (.cons (k := 9) rfl (.cons (k := 18) rfl (.cons (k := 19) rfl (.cons (k := 20) rfl (.nil _)))))))) ?_
                refine GQ_block ?_
                refine GQ_block ?_
                refine GQ_then ?_
                refine G_region ?_
                refine GL_step rfl (PS_add rfl rfl (IntWalk.i64_in _ (by omega))) ?_
                refine GL_step rfl (PS_move rfl) ?_
                refine GL_nil ?_
                refine GQ_sub (.cons (k := 2) rfl (.cons (k := 4) rfl (.cons (k := 8) rfl (.cons (k := 9) rfl (.cons (k := 18) rfl (.cons (k := 19) rfl (.cons (k := 20) rfl (.nil _)))))))) ?_
                refine GQ_next8_ _ _ _ _ _ _ _ _ ?_ ?_ (.cons (k := 20) rfl (.cons (k := 2) rfl (.cons (k := 4) rfl (.cons (k := 8) rfl (.cons (k := 9) rfl (.cons (k := 18) rfl (.cons (k := 19) rfl (.nil _)))))))) (.refl _)
                · exact ⟨hI11.next (by omega) (by simp only [Telnet.step, c1, c2, c3, c5, c9, c10, c12, ↓reduceIte, Bool.false_eq_true]) (by simp only [Telnet.step, c1, c2, c3, c5, c9, c10, c12, List.append_nil, ↓reduceIte, Bool.false_eq_true]) (by simp only [Telnet.step, c1, c2, c3, c5, c9, c10, c12, List.append_nil, ↓reduceIte, Bool.false_eq_true]), by assumption, by assumption, by assumption, by assumption, by assumption, by assumption⟩
                · omega
    · skip
      have c2p := c2
      try simp only [decide_eq_true_eq, decide_eq_false_iff_not, Bool.not_eq_true', Bool.not_eq_false', Bool.or_eq_true, Bool.and_eq_true, Bool.or_eq_false_iff, Bool.and_eq_false_iff, Int.not_lt, Int.not_le] at c2p
      refine G_exit ?_
      refine GQ_then_exit ?_
      refine GQ_then_exit ?_
      refine GQ_block_exit ?_
      refine GQ_sub (.cons (k := 2) rfl (.cons (k := 4) rfl (.cons (k := 8) rfl (.cons (k := 9) rfl (.nil _))))) ?_
      refine GQ_then ?_
      refine G_seq ?_
      refine G_planN (N := 7) [0, 0, 2, 7, 15, 31, 63] mix (by kernel_rfl) rfl ?_
      refine Plan_float 0 rfl rfl (by kernel_rfl) (OK_s (EX_s (PS_loadA rfl tya41 (.tail _ (.tail _ (.tail _ (.tail _ (.head _))))) (Lens.id Telnet.fl.len Telnet.fl.one) rfl))) ?_
      refine Plan_chain 1 rfl (by kernel_rfl) ?_
      refine GL_callL rfl cf38 (.cons rfl .nil) (.cons (.tail (.tail (.tail .head))) (.cons (.tail (.tail .head)) .nil)) (strings_Builder_String_spec _ _ _ _ (by assumption) (by assumption) (by omega)) (fun v24 B hv => ?_)
      obtain ⟨rfl, rfl⟩ := hv
      refine GL_hand rfl ⟨?_, ?_⟩
      · exact (Pend_okv rfl (OK_s (EX_s (PS_loadA rfl tya41 (.tail _ (.tail _ (.tail _ (.head _)))) (Lens.id Telnet.fl.len Telnet.fl.one) rfl))) rfl rfl Pend_nil)
      refine Plan_chain 2 rfl (by kernel_rfl) ?_
      refine GL_callL rfl cf38 (.cons rfl .nil) (.cons (.tail (.tail .head)) (.cons (.tail .head) .nil)) (strings_Builder_String_spec _ _ _ _ (by assumption) (by assumption) (by omega)) (fun v25 B hv => ?_)
      obtain ⟨rfl, rfl⟩ := hv
      refine GL_hand rfl ⟨?_, ?_⟩
      · exact (Pend_okv rfl (OK_s (EX_s (PS_loadA rfl tya41 (.tail _ (.tail _ (.head _))) (Lens.id Telnet.fl.len Telnet.fl.one) rfl))) rfl rfl Pend_nil)
      refine Plan_chain 3 rfl (by kernel_rfl) ?_
      refine GL_unit (PU_store (Lens.id Telnet.fl.len Telnet.fl.one) rfl rfl rfl sz41 rfl (.tail (.tail (.tail (.tail .head))))) ?_
      refine GL_hand0 rfl ⟨?_, ?_⟩
      · exact (Pend_skip (by kernel_rfl) Pend_nil)
      refine Plan_float 4 rfl rfl (by kernel_rfl) (OK_s (EX_s (PS_assign rfl))) ?_
      refine Plan_float 5 rfl rfl (by kernel_rfl) (OK_s (EX_s (PS_assign rfl))) ?_
      refine Plan_float 6 rfl rfl (by kernel_rfl) (OK_s (EX_s (PS_assign rfl))) ?_
      refine Plan_end (by kernel_rfl) ?_
      refine GQ_sub (.cons (k := 4) rfl (.cons (k := 5) rfl (.cons (k := 6) rfl (.cons (k := 7) rfl (.nil _))))) ?_
      refine GQ_then ?_
      refine G_ret ?_
      refine GQ_ret rfl (.cell rfl (.tail _ (.tail _ (.tail _ (.tail _ (.head _))))) (.inl ⟨(by rw [Telnet.fl.len]; exact tya41), rfl⟩) (.tmp rfl (.tmp rfl (.tmp rfl .nil)))) ?_
      intro w1 hS; refine ⟨?_, hS.toKeep⟩; rw [show X.Feed u = _ from if_f c1, hI11.done (by omega)]; rfl
theorem ref_GoodTelnet_spec (X : Telnet) (w : World) : Ret Tryd.prog 26 #[.agg X.enc.toArray] w fun v w' => v = .bool X.refGood ∧ Keep w w' := by
  refine Ret_body [] [] Tryd.func26 rfl rfl rfl (St.start w []) ?_
  refine G_seq ?_
  refine G_region ?_
  refine GL_box rfl rfl rfl (fun b1 => ?_)
  refine GL_step rfl (PS_assign rfl) ?_
  refine GL_nil ?_
  refine GQ_sub (.cons (k := 1) rfl (.nil _)) ?_
  refine GQ_then ?_
  refine G_seq ?_
  refine G_seq ?_
  refine G_region ?_
  refine GL_step rfl (PS_move rfl) ?_
  refine GL_nil ?_
  refine GQ_then ?_
  refine G_block ?_
  refine G_subF (.cons (k := 4) rfl (.cons (k := 1) rfl (.nil _))) ?_
  refine G_loop1_ (fun (k : Int) => 0 ≤ k ∧ k ≤ 3 ∧ X.refGood = (allFrom 3 (fun i => !X.badOptR i) (3 - k).toNat && X.refGoodA)) (fun (k : Int) => (3 - k).toNat) (fun (k : Int) => [(4, .int .i64 k)]) (fun (k : Int) => []) (0) ?_ rfl rfl (fun k hI1 => ?_)
  · exact ⟨Int.le_refl _, by omega, rfl⟩
  obtain ⟨hI11, hI12, hI13⟩ := hI1
  refine G_seq ?_
  refine G_region ?_
  refine GL_step rfl (PS_lss rfl rfl) ?_
  refine GL_nil ?_
  refine GQ_then ?_
  refine G_seq ?_
  refine G_cond rfl (fun c1 => ?_) (fun c1 => ?_)
  · skip
    have c1p := c1
    try simp only [decide_eq_true_eq, decide_eq_false_iff_not, Bool.not_eq_true', Bool.not_eq_false', Bool.or_eq_true, Bool.and_eq_true, Bool.or_eq_false_iff, Bool.and_eq_false_iff, Int.not_lt, Int.not_le] at c1p
    rw [allFrom_step _ (by omega)] at hI13
    refine G_skip ?_
    refine GQ_sub (.cons (k := 1) rfl (.cons (k := 4) rfl (.nil _))) ?_
    refine GQ_then ?_
    refine G_seq ?_
    refine G_block ?_
    refine G_seq ?_
    refine G_region ?_
    refine GL_step rfl (PS_move rfl) ?_
    refine GL_step rfl (PS_assign rfl) ?_
    refine GL_nil ?_
    refine GQ_sub (.cons (k := 1) rfl (.cons (k := 3) rfl (.cons (k := 4) rfl (.nil _)))) ?_
    refine GQ_then ?_
    refine G_seq ?_
    refine G_region ?_
    refine GL_step rfl (PS_move rfl) ?_
    refine GL_step rfl (PS_fieldAddr fa41_3 rfl) ?_
    refine GL_step rfl (PS_indexAddr ia39 rfl rfl (by omega) (by omega)) ?_
    refine GL_step rfl (PS_load rfl tys3 (.head _) (Telnet.l3.comp (Lens.arr (n := 3) flI (by omega) (by omega))) rfl rfl) ?_
    refine GL_step rfl (PS_lss rfl rfl) ?_
    refine GL_step rfl (PS_move rfl) ?_
    refine GL_gf (t := 12) rfl rfl rfl (fun q => PS_move rfl) ?_
    refine GL_gf (t := 12) rfl rfl rfl (fun q => PS_fieldAddr fa41_3 rfl) ?_
    refine GL_gf (t := 12) rfl rfl rfl (fun q => by have q1 := q; (try simp at q1); exact PS_indexAddr ia39 (cvE rfl (by rw [q]; rfl)) (cvE rfl (by rw [q]; rfl)) (by omega) (by omega)) ?_
    refine GL_gf (t := 12) rfl rfl rfl (fun q => by have q1 := q; (try simp at q1); exact PS_load (cvE rfl (by rw [q]; rfl)) tys3 (.head _) (Telnet.l3.comp (Lens.arr (n := 3) flI (by omega) (by omega))) rfl rfl) ?_
    refine GL_gf (t := 12) rfl rfl rfl (fun q => PS_gtr (cvE rfl (by rw [q]; rfl)) rfl) ?_
    refine GL_step rfl (PS_or rfl rfl (fun h => by rw [h]; rfl)) ?_
    refine GL_step rfl (PS_move rfl) ?_
    refine GL_gf (t := 19) rfl rfl rfl (fun q => PS_move rfl) ?_
    refine GL_gf (t := 19) rfl rfl rfl (fun q => PS_fieldAddr fa41_4 rfl) ?_
    refine GL_gf (t := 19) rfl rfl rfl (fun q => by have q1 := q; (try simp at q1); exact PS_indexAddr ia39 (cvE rfl (by rw [q]; rfl)) (cvE rfl (by rw [q]; rfl)) (by omega) (by omega)) ?_
    refine GL_gf (t := 19) rfl rfl rfl (fun q => by have q1 := q; (try simp at q1); exact PS_load (cvE rfl (by rw [q]; rfl)) tys3 (.head _) (Telnet.l4.comp (Lens.arr (n := 3) flI (by omega) (by omega))) rfl rfl) ?_
    refine GL_gf (t := 19) rfl rfl rfl (fun q => PS_lss (cvE rfl (by rw [q]; rfl)) rfl) ?_
    refine GL_step rfl (PS_or rfl rfl (fun h => by rw [h]; rfl)) ?_
    refine GL_step rfl (PS_move rfl) ?_
    refine GL_gf (t := 26) rfl rfl rfl (fun q => PS_move rfl) ?_
    refine GL_gf (t := 26) rfl rfl rfl (fun q => PS_fieldAddr fa41_4 rfl) ?_
    refine GL_gf (t := 26) rfl rfl rfl (fun q => by have q1 := q; (try simp at q1); exact PS_indexAddr ia39 (cvE rfl (by rw [q]; rfl)) (cvE rfl (by rw [q]; rfl)) (by omega) (by omega)) ?_
    refine GL_gf (t := 26) rfl rfl rfl (fun q => by have q1 := q; (try simp at q1); exact PS_load (cvE rfl (by rw [q]; rfl)) tys3 (.head _) (Telnet.l4.comp (Lens.arr (n := 3) flI (by omega) (by omega))) rfl rfl) ?_
    refine GL_gf (t := 26) rfl rfl rfl (fun q => PS_gtr (cvE rfl (by rw [q]; rfl)) rfl) ?_
    refine GL_step rfl (PS_or rfl rfl (fun h => by rw [h]; rfl)) ?_
    refine GL_nil ?_
    refine GQ_sub (.cons (k := 1) rfl (.cons (k := 4) rfl (.cons (k := 32) rfl (.nil _)))) ?_
    refine GQ_then ?_
    refine G_cond rfl (fun c2 => ?_) (fun c2 => ?_)
    · skip
      have c2p := c2
      try simp only [decide_eq_true_eq, decide_eq_false_iff_not, Bool.not_eq_true', Bool.not_eq_false', Bool.or_eq_true, Bool.and_eq_true, Bool.or_eq_false_iff, Bool.and_eq_false_iff, Int.not_lt, Int.not_le] at c2p
      refine G_seq ?_
      refine G_region ?_
      refine GL_step rfl (PS_assign rfl) ?_
      refine GL_nil ?_
      refine GQ_sub (.cons (k := 2) rfl (.nil _)) ?_
      refine GQ_then ?_
      refine G_ret ?_
      refine GQ_block_ret ?_
      refine GQ_then_ret ?_
      refine GQ_then_ret ?_
      refine GQ_block_ret ?_
      refine GQ_then_ret ?_
      refine GQ_ret rfl (.tmp rfl .nil) ?_
      intro w1 hS; refine ⟨congrArg Value.bool ?_, hS.toKeep⟩; rw [hI13, Telnet.badOptR, c2]; rfl
    · skip
      have c2p := c2
      try simp only [decide_eq_true_eq, decide_eq_false_iff_not, Bool.not_eq_true', Bool.not_eq_false', Bool.or_eq_true, Bool.and_eq_true, Bool.or_eq_false_iff, Bool.and_eq_false_iff, Int.not_lt, Int.not_le] at c2p
      refine G_skip ?_
      refine GQ_sub (.cons (k := 1) rfl (.cons (k := 4) rfl (.nil _))) ?_
      refine GQ_block ?_
      refine GQ_then ?_
      refine G_region ?_
      refine GL_step rfl (PS_add rfl rfl (IntWalk.i64_in _ (by omega))) ?_
      refine GL_step rfl (PS_move rfl) ?_
      refine GL_nil ?_
      refine GQ_sub (.cons (k := 1) rfl (.cons (k := 4) rfl (.nil _))) ?_
      refine GQ_next1_ (k + 1) ?_ ?_ (.cons (k := 4) rfl (.cons (k := 1) rfl (.nil _))) (.refl _)
      · exact ⟨by omega, by omega, by rw [hI13, Telnet.badOptR, c2]; rfl⟩
      · omega
  · skip
    have c1p := c1
    try simp only [decide_eq_true_eq, decide_eq_false_iff_not, Bool.not_eq_true', Bool.not_eq_false', Bool.or_eq_true, Bool.and_eq_true, Bool.or_eq_false_iff, Bool.and_eq_false_iff, Int.not_lt, Int.not_le] at c1p
    obtain rfl : k = 3 := by omega
    refine G_exit ?_
    refine GQ_then_exit ?_
    refine GQ_then_exit ?_
    refine GQ_block_exit ?_
    refine GQ_sub (.cons (k := 1) rfl (.nil _)) ?_
    refine GQ_then ?_
    refine G_seq ?_
    refine G_seq ?_
    refine G_region ?_
    refine GL_step rfl (PS_fieldAddr fa41_3 rfl) ?_
    refine GL_step rfl (PS_indexAddr ia39 rfl rfl (by decide) (by decide)) ?_
    refine GL_step rfl (PS_load rfl tys3 (.head _) (Telnet.l3.comp (Lens.arr (n := 3) flI (by decide) (by decide))) rfl rfl) ?_
    refine GL_step rfl (PS_neq rfl rfl) ?_
    refine GL_step rfl (PS_move rfl) ?_
    refine GL_gf (t := 38) rfl rfl rfl (fun q => PS_fieldAddr fa41_4 rfl) ?_
    refine GL_gf (t := 38) rfl rfl rfl (fun q => PS_indexAddr ia39 (cvE rfl (by rw [q]; rfl)) rfl (by decide) (by decide)) ?_
    refine GL_gf (t := 38) rfl rfl rfl (fun q => PS_load (cvE rfl (by rw [q]; rfl)) tys3 (.head _) (Telnet.l4.comp (Lens.arr (n := 3) flI (by decide) (by decide))) rfl rfl) ?_
    refine GL_gf (t := 38) rfl rfl rfl (fun q => PS_neq (cvE rfl (by rw [q]; rfl)) rfl) ?_
    refine GL_step rfl (PS_or rfl rfl (fun h => by rw [h]; rfl)) ?_
    refine GL_step rfl (PS_move rfl) ?_
    refine GL_gf (t := 44) rfl rfl rfl (fun q => PS_fieldAddr fa41_5 rfl) ?_
    refine GL_gf (t := 44) rfl rfl rfl (fun q => PS_load (cvE rfl (by rw [q]; rfl)) tys3 (.head _) Telnet.l5 rfl rfl) ?_
    refine GL_gf (t := 44) rfl rfl rfl (fun q => PS_lss (cvE rfl (by rw [q]; rfl)) rfl) ?_
    refine GL_step rfl (PS_or rfl rfl (fun h => by rw [h]; rfl)) ?_
    refine GL_step rfl (PS_move rfl) ?_
    refine GL_gf (t := 49) rfl rfl rfl (fun q => PS_fieldAddr fa41_5 rfl) ?_
    refine GL_gf (t := 49) rfl rfl rfl (fun q => PS_load (cvE rfl (by rw [q]; rfl)) tys3 (.head _) Telnet.l5 rfl rfl) ?_
    refine GL_gf (t := 49) rfl rfl rfl (fun q => PS_gtr (cvE rfl (by rw [q]; rfl)) rfl) ?_
    refine GL_step rfl (PS_or rfl rfl (fun h => by rw [h]; rfl)) ?_
    refine GL_step rfl (PS_move rfl) ?_
    refine GL_gf (t := 54) rfl rfl rfl (fun q => PS_fieldAddr fa41_2 rfl) ?_
    refine GL_gf (t := 54) rfl rfl rfl (fun q => PS_load (cvE rfl (by rw [q]; rfl)) tys9 (.head _) Telnet.l2 rfl rfl) ?_
    refine GL_gf (t := 54) rfl rfl rfl (fun q => PS_len_str rfl Tryd.underlying9 (cvE rfl (by rw [q]; rfl))) ?_
    refine GL_gf (t := 54) rfl rfl rfl (fun q => PS_gtr (cvE rfl (by rw [q]; rfl)) rfl) ?_
    refine GL_step rfl (PS_or rfl rfl (fun h => by rw [h]; rfl)) ?_
    refine GL_nil ?_
    refine GQ_sub (.cons (k := 1) rfl (.cons (k := 59) rfl (.nil _))) ?_
    refine GQ_then ?_
    refine G_cond rfl (fun c3 => ?_) (fun c3 => ?_)
    · skip
      have c3p := c3
      try simp only [decide_eq_true_eq, decide_eq_false_iff_not, Bool.not_eq_true', Bool.not_eq_false', Bool.or_eq_true, Bool.and_eq_true, Bool.or_eq_false_iff, Bool.and_eq_false_iff, Int.not_lt, Int.not_le] at c3p
      refine G_seq ?_
      refine G_region ?_
      refine GL_step rfl (PS_assign rfl) ?_
      refine GL_nil ?_
      refine GQ_sub (.cons (k := 2) rfl (.nil _)) ?_
      refine GQ_then ?_
      refine G_ret ?_
      refine GQ_then_ret ?_
      refine GQ_ret rfl (.tmp rfl .nil) ?_
      intro w1 hS; refine ⟨congrArg Value.bool ?_, hS.toKeep⟩; rw [hI13]; show _ = (true && _); rw [Bool.true_and, Telnet.refGoodA]; simp only [c1, c3, ↓reduceIte, Bool.false_eq_true]
    · skip
      have c3p := c3
      try simp only [decide_eq_true_eq, decide_eq_false_iff_not, Bool.not_eq_true', Bool.not_eq_false', Bool.or_eq_true, Bool.and_eq_true, Bool.or_eq_false_iff, Bool.and_eq_false_iff, Int.not_lt, Int.not_le] at c3p
      refine G_skip ?_
      refine GQ_sub (.cons (k := 1) rfl (.nil _)) ?_
      refine GQ_then ?_
      refine G_seq ?_
      refine G_seq ?_
      refine G_region ?_
      refine GL_step rfl (PS_fieldAddr fa41_0 rfl) ?_
      refine GL_step rfl (PS_load rfl tys3 (.head _) Telnet.l0 rfl rfl) ?_
      refine GL_nil ?_
      refine GQ_sub (.cons (k := 1) rfl (.cons (k := 61) rfl (.nil _))) ?_
      refine GQ_then ?_
      refine G_block ?_
      refine G_seq ?_
      refine G_seq ?_
      refine G_region ?_
      refine GL_step rfl (PS_eql rfl rfl) ?_
      refine GL_step rfl (PS_assign rfl) ?_
      refine GL_nil ?_
      refine GQ_sub (.cons (k := 1) rfl (.cons (k := 61) rfl (.cons (k := 62) rfl (.nil _)))) ?_
      refine GQ_then ?_
      refine G_cond rfl (fun c4 => ?_) (fun c4 => ?_)
      · skip
        have c4p := c4
        try simp only [decide_eq_true_eq, decide_eq_false_iff_not, Bool.not_eq_true', Bool.not_eq_false', Bool.or_eq_true, Bool.and_eq_true, Bool.or_eq_false_iff, Bool.and_eq_false_iff, Int.not_lt, Int.not_le] at c4p
        refine G_skip ?_
        refine GQ_then ?_
        refine G_true rfl c4 ?_
        refine G_seq ?_
        refine G_region ?_
        refine GL_step rfl (PS_fieldAddr fa41_1 rfl) ?_
        refine GL_step rfl (PS_load rfl tys3 (.head _) Telnet.l1 rfl rfl) ?_
        refine GL_step rfl (PS_eql rfl rfl) ?_
        refine GL_step rfl (PS_move rfl) ?_
        refine GL_gt (t := 68) rfl rfl rfl (fun q => PS_fieldAddr fa41_2 rfl) ?_
        refine GL_gt (t := 68) rfl rfl rfl (fun q => PS_load (cvE rfl q) tys9 (.head _) Telnet.l2 rfl rfl) ?_
        refine GL_gt (t := 68) rfl rfl rfl (fun q => PS_eql_str (cvE rfl q) rfl) ?_
        refine GL_step rfl (PS_and rfl rfl (fun h => h)) ?_
        refine GL_step rfl (PS_assign rfl) ?_
        refine GL_nil ?_
        refine GQ_sub (.cons (k := 2) rfl (.nil _)) ?_
        refine GQ_then ?_
        refine G_ret ?_
        refine GQ_block_ret ?_
        refine GQ_then_ret ?_
        refine GQ_ret rfl (.tmp rfl .nil) ?_
        intro w1 hS; refine ⟨congrArg Value.bool ?_, hS.toKeep⟩; rw [hI13]; show _ = (true && _); rw [Bool.true_and, Telnet.refGoodA]; simp only [c1, c3, c4, ↓reduceIte, Bool.false_eq_true]
      · skip
        have c4p := c4
        try simp only [decide_eq_true_eq, decide_eq_false_iff_not, Bool.not_eq_true', Bool.not_eq_false', Bool.or_eq_true, Bool.and_eq_true, Bool.or_eq_false_iff, Bool.and_eq_false_iff, Int.not_lt, Int.not_le] at c4p
        refine G_region ?_
        refine GL_step rfl (PS_eql rfl rfl) ?_
        refine GL_step rfl (PS_assign rfl) ?_
        refine GL_nil ?_
        refine GQ_sub (.cons (k := 1) rfl (.cons (k := 61) rfl (.cons (k := 62) rfl (.nil _)))) ?_
        refine GQ_then ?_
        refine G_cond rfl (fun c5 => ?_) (fun c5 => ?_)
        · skip
          have c5p := c5
          try simp only [decide_eq_true_eq, decide_eq_false_iff_not, Bool.not_eq_true', Bool.not_eq_false', Bool.or_eq_true, Bool.and_eq_true, Bool.or_eq_false_iff, Bool.and_eq_false_iff, Int.not_lt, Int.not_le] at c5p
          refine G_seq ?_
          refine G_region ?_
          refine GL_step rfl (PS_fieldAddr fa41_1 rfl) ?_
          refine GL_step rfl (PS_load rfl tys3 (.head _) Telnet.l1 rfl rfl) ?_
          refine GL_step rfl (PS_eql rfl rfl) ?_
          refine GL_step rfl (PS_move rfl) ?_
          refine GL_gt (t := 68) rfl rfl rfl (fun q => PS_fieldAddr fa41_2 rfl) ?_
          refine GL_gt (t := 68) rfl rfl rfl (fun q => PS_load (cvE rfl q) tys9 (.head _) Telnet.l2 rfl rfl) ?_
          refine GL_gt (t := 68) rfl rfl rfl (fun q => PS_eql_str (cvE rfl q) rfl) ?_
          refine GL_step rfl (PS_and rfl rfl (fun h => h)) ?_
          refine GL_step rfl (PS_assign rfl) ?_
          refine GL_nil ?_
          refine GQ_sub (.cons (k := 2) rfl (.nil _)) ?_
          refine GQ_then ?_
          refine G_ret ?_
          refine GQ_block_ret ?_
          refine GQ_then_ret ?_
          refine GQ_ret rfl (.tmp rfl .nil) ?_
          intro w1 hS; refine ⟨congrArg Value.bool ?_, hS.toKeep⟩; rw [hI13]; show _ = (true && _); rw [Bool.true_and, Telnet.refGoodA]; simp only [c1, c3, c4, c5, ↓reduceIte, Bool.false_eq_true]
        · skip
          have c5p := c5
          try simp only [decide_eq_true_eq, decide_eq_false_iff_not, Bool.not_eq_true', Bool.not_eq_false', Bool.or_eq_true, Bool.and_eq_true, Bool.or_eq_false_iff, Bool.and_eq_false_iff, Int.not_lt, Int.not_le] at c5p
          refine G_seq ?_
          refine G_region ?_
          refine GL_step rfl (PS_eql rfl rfl) ?_
          refine GL_step rfl (PS_assign rfl) ?_
          refine GL_nil ?_
          refine GQ_sub (.cons (k := 1) rfl (.cons (k := 61) rfl (.cons (k := 73) rfl (.nil _)))) ?_
          refine GQ_then ?_
          refine G_cond rfl (fun c6 => ?_) (fun c6 => ?_)
          · skip
            have c6p := c6
            try simp only [decide_eq_true_eq, decide_eq_false_iff_not, Bool.not_eq_true', Bool.not_eq_false', Bool.or_eq_true, Bool.and_eq_true, Bool.or_eq_false_iff, Bool.and_eq_false_iff, Int.not_lt, Int.not_le] at c6p
            refine G_seq ?_
            refine G_region ?_
            refine GL_step rfl (PS_fieldAddr fa41_1 rfl) ?_
            refine GL_step rfl (PS_load rfl tys3 (.head _) Telnet.l1 rfl rfl) ?_
            refine GL_step rfl (PS_geq rfl rfl) ?_
            refine GL_step rfl (PS_move rfl) ?_
            refine GL_gt (t := 78) rfl rfl rfl (fun q => PS_fieldAddr fa41_1 rfl) ?_
            refine GL_gt (t := 78) rfl rfl rfl (fun q => PS_load (cvE rfl q) tys3 (.head _) Telnet.l1 rfl rfl) ?_
            refine GL_gt (t := 78) rfl rfl rfl (fun q => PS_leq (cvE rfl q) rfl) ?_
            refine GL_step rfl (PS_and rfl rfl (fun h => h)) ?_
            refine GL_step rfl (PS_move rfl) ?_
            refine GL_gt (t := 83) rfl rfl rfl (fun q => PS_fieldAddr fa41_2 rfl) ?_
            refine GL_gt (t := 83) rfl rfl rfl (fun q => PS_load (cvE rfl q) tys9 (.head _) Telnet.l2 rfl rfl) ?_
            refine GL_gt (t := 83) rfl rfl rfl (fun q => PS_eql_str (cvE rfl q) rfl) ?_
            refine GL_step rfl (PS_and rfl rfl (fun h => h)) ?_
            refine GL_step rfl (PS_assign rfl) ?_
            refine GL_nil ?_
            refine GQ_sub (.cons (k := 2) rfl (.nil _)) ?_
            refine GQ_then ?_
            refine G_ret ?_
            refine GQ_block_ret ?_
            refine GQ_then_ret ?_
            refine GQ_ret rfl (.tmp rfl .nil) ?_
            intro w1 hS; refine ⟨congrArg Value.bool ?_, hS.toKeep⟩; rw [hI13]; show _ = (true && _); rw [Bool.true_and, Telnet.refGoodA]; simp only [c1, c3, c4, c5, c6, ↓reduceIte, Bool.false_eq_true]
          · skip
            have c6p := c6
            try simp only [decide_eq_true_eq, decide_eq_false_iff_not, Bool.not_eq_true', Bool.not_eq_false', Bool.or_eq_true, Bool.and_eq_true, Bool.or_eq_false_iff, Bool.and_eq_false_iff, Int.not_lt, Int.not_le] at c6p
            refine G_seq ?_
            refine G_seq ?_
            refine G_region ?_
            refine GL_step rfl (PS_eql rfl rfl) ?_
            refine GL_step rfl (PS_assign rfl) ?_
            refine GL_nil ?_
            refine GQ_sub (.cons (k := 1) rfl (.cons (k := 61) rfl (.cons (k := 88) rfl (.nil _)))) ?_
            refine GQ_then ?_
            refine G_cond rfl (fun c7 => ?_) (fun c7 => ?_)
            · skip
              have c7p := c7
              try simp only [decide_eq_true_eq, decide_eq_false_iff_not, Bool.not_eq_true', Bool.not_eq_false', Bool.or_eq_true, Bool.and_eq_true, Bool.or_eq_false_iff, Bool.and_eq_false_iff, Int.not_lt, Int.not_le] at c7p
              refine G_skip ?_
              refine GQ_sub (.cons (k := 1) rfl (.cons (k := 88) rfl (.nil _))) ?_
              refine GQ_then ?_
              refine G_true rfl c7 ?_
              refine G_seq ?_
              refine G_region ?_
              refine GL_step rfl (PS_fieldAddr fa41_1 rfl) ?_
              refine GL_step rfl (PS_load rfl tys3 (.head _) Telnet.l1 rfl rfl) ?_
              refine GL_step rfl (PS_eql rfl rfl) ?_
              refine GL_step rfl (PS_assign rfl) ?_
              refine GL_nil ?_
              refine GQ_sub (.cons (k := 2) rfl (.nil _)) ?_
              refine GQ_then ?_
              refine G_ret ?_
              refine GQ_block_ret ?_
              refine GQ_then_ret ?_
              refine GQ_ret rfl (.tmp rfl .nil) ?_
              intro w1 hS; refine ⟨congrArg Value.bool ?_, hS.toKeep⟩; rw [hI13]; show _ = (true && _); rw [Bool.true_and, Telnet.refGoodA]; simp only [c1, c3, c4, c5, c6, c7, ↓reduceIte, Bool.false_eq_true]
            · skip
              have c7p := c7
              try simp only [decide_eq_true_eq, decide_eq_false_iff_not, Bool.not_eq_true', Bool.not_eq_false', Bool.or_eq_true, Bool.and_eq_true, Bool.or_eq_false_iff, Bool.and_eq_false_iff, Int.not_lt, Int.not_le] at c7p
              refine G_region ?_
              refine GL_step rfl (PS_eql rfl rfl) ?_
              refine GL_step rfl (PS_assign rfl) ?_
              refine GL_nil ?_
              refine GQ_sub (.cons (k := 1) rfl (.cons (k := 88) rfl (.nil _))) ?_
              refine GQ_then ?_
              refine G_cond rfl (fun c8 => ?_) (fun c8 => ?_)
              · skip
                have c8p := c8
                try simp only [decide_eq_true_eq, decide_eq_false_iff_not, Bool.not_eq_true', Bool.not_eq_false', Bool.or_eq_true, Bool.and_eq_true, Bool.or_eq_false_iff, Bool.and_eq_false_iff, Int.not_lt, Int.not_le] at c8p
                refine G_seq ?_
                refine G_region ?_
                refine GL_step rfl (PS_fieldAddr fa41_1 rfl) ?_
                refine GL_step rfl (PS_load rfl tys3 (.head _) Telnet.l1 rfl rfl) ?_
                refine GL_step rfl (PS_eql rfl rfl) ?_
                refine GL_step rfl (PS_assign rfl) ?_
                refine GL_nil ?_
                refine GQ_sub (.cons (k := 2) rfl (.nil _)) ?_
                refine GQ_then ?_
                refine G_ret ?_
                refine GQ_block_ret ?_
                refine GQ_then_ret ?_
                refine GQ_ret rfl (.tmp rfl .nil) ?_
                intro w1 hS; refine ⟨congrArg Value.bool ?_, hS.toKeep⟩; rw [hI13]; show _ = (true && _); rw [Bool.true_and, Telnet.refGoodA]; simp only [c1, c3, c4, c5, c6, c7, c8, ↓reduceIte, Bool.false_eq_true]
              · skip
                have c8p := c8
                try simp only [decide_eq_true_eq, decide_eq_false_iff_not, Bool.not_eq_true', Bool.not_eq_false', Bool.or_eq_true, Bool.and_eq_true, Bool.or_eq_false_iff, Bool.and_eq_false_iff, Int.not_lt, Int.not_le] at c8p
                refine G_skip ?_
                refine GQ_sub (.nil _) ?_
                refine GQ_block ?_
                refine GQ_then ?_
                refine G_seq ?_
                refine G_region ?_
                refine GL_step rfl (PS_assign rfl) ?_
                refine GL_nil ?_
                refine GQ_then ?_
                refine G_ret ?_
                refine GQ_ret rfl (.tmp rfl .nil) ?_
                intro w1 hS; refine ⟨congrArg Value.bool ?_, hS.toKeep⟩; rw [hI13]; show _ = (true && _); rw [Bool.true_and, Telnet.refGoodA]; simp only [c1, c3, c4, c5, c6, c7, c8, ↓reduceIte, Bool.false_eq_true]
theorem ref_bytesOf_spec {t0 : Nat} (h : Hd) (xs : List Int) (h9 : ∀ x ∈ xs, 0 ≤ x ∧ x ≤ 255) (hn : xs.length ≤ 1000000) (w : World) (r0 : Rd w h t0 1 (xs.flatMap encI)) : Ret Tryd.prog 40 #[h.val] w fun v w' => v = vstr (Telnet.bytesOf xs) ∧ Keep w w' := by
  have hl := r0.len1 flI (by decide)
  refine Ret_body [] [] Tryd.func40 rfl rfl rfl (St.start w []) ?_
  refine G_seq ?_
  refine G_region ?_
  refine GL_step rfl (PS_assign rfl) ?_
  refine GL_nil ?_
  refine GQ_sub (.cons (k := 0) rfl (.nil _)) ?_
  refine GQ_then ?_
  refine G_seq ?_
  refine G_region ?_
  refine GL_step rfl (PS_assign rfl) ?_
  refine GL_nil ?_
  refine GQ_then ?_
  refine G_seq ?_
  refine G_seq ?_
  refine G_region ?_
  refine GL_step rfl (PS_move rfl) ?_
  refine GL_step rfl (PS_len_slice rfl Tryd.underlying74 rfl) ?_
  refine GL_step rfl (PS_move rfl) ?_
  refine GL_nil ?_
  refine GQ_sub (.cons (k := 3) rfl (.cons (k := 6) rfl (.cons (k := 7) rfl (.cons (k := 8) rfl (.nil _))))) ?_
  refine GQ_then ?_
  refine G_block ?_
  refine G_subF (.cons (k := 3) rfl (.cons (k := 8) rfl (.cons (k := 6) rfl (.cons (k := 7) rfl (.nil _))))) ?_
  refine G_loop2_ (fun (k : Int) (s : Str) => 0 ≤ k ∧ k ≤ xs.length ∧ Telnet.bytesOf xs = s ++ Telnet.bytesOf (xs.drop k.toNat) ∧ s.length = k.toNat) (fun (k : Int) (s : Str) => ((xs.length : Int) - k).toNat) (fun (k : Int) (s : Str) => [(3, vstr s), (8, .int .i64 k)]) (fun (k : Int) (s : Str) => []) (0) ([]) ?_ rfl rfl (fun k s hI1 => ?_)
  · exact ⟨by omega, by omega, rfl, rfl⟩
  obtain ⟨hI11, hI12, hI13, hI14⟩ := hI1
  refine G_seq ?_
  refine G_region ?_
  refine GL_step rfl (PS_lss rfl rfl) ?_
  refine GL_nil ?_
  refine GQ_then ?_
  refine G_seq ?_
  refine G_cond rfl (fun c1 => ?_) (fun c1 => ?_)
  · skip
    have c1p := c1
    try simp only [decide_eq_true_eq, decide_eq_false_iff_not, Bool.not_eq_true', Bool.not_eq_false', Bool.or_eq_true, Bool.and_eq_true, Bool.or_eq_false_iff, Bool.and_eq_false_iff, Int.not_lt, Int.not_le] at c1p
    have hx := h9 (xs.getD k.toNat 0) (Telnet.getD_mem (by omega))
    refine G_skip ?_
    refine GQ_sub (.cons (k := 3) rfl (.cons (k := 6) rfl (.cons (k := 7) rfl (.cons (k := 8) rfl (.nil _))))) ?_
    refine GQ_then ?_
    refine G_seq ?_
    refine G_block ?_
    refine G_seq ?_
    refine G_region ?_
    refine GL_step rfl (PS_idxS is74 (by decide) (Kn.old r0) rfl rfl (by omega) (by omega)) ?_
    refine GL_step rfl (PS_ldInt rfl tys3 (Kn.old r0) (by omega)) ?_
    refine GL_step rfl (PS_assign rfl) ?_
    refine GL_nil ?_
    refine GQ_sub (.cons (k := 3) rfl (.cons (k := 5) rfl (.cons (k := 6) rfl (.cons (k := 7) rfl (.cons (k := 8) rfl (.nil _)))))) ?_
    refine GQ_then ?_
    refine G_region ?_
    refine GL_step rfl (PS_move rfl) ?_
    refine GL_step rfl (PS_move rfl) ?_
    refine GL_step rfl (PS_toInt Tryd.underlying5 Tryd.underlying3 rfl (IntWalk.u8_in _ (by first | omega | (simp only [List.length_cons, List.length_nil]; omega)))) ?_
    refine GL_bs1 rfl Tryd.underlying50 sz5 zv5 rfl (by decide) (by decide) rfl rfl rfl (fun b1 => ?_)
    refine GL_step rfl (PS_stringE (s := [u8 (xs.getD k.toNat 0)]) (by show [_] = encY _ ++ []; simp only [encY, u8_val hx.1 hx.2, List.append_nil]) Tryd.underlying50 Tryd.underlying9 Tryd.underlying5 rfl (Kn.own (.head _))) ?_
    refine GL_step rfl (PS_add_str rfl rfl (by first | omega | (simp only [List.length_cons, List.length_nil]; omega))) ?_
    refine GL_step rfl (PS_assign rfl) ?_
    refine GL_nil ?_
    refine GQ_sub (.cons (k := 3) rfl (.cons (k := 6) rfl (.cons (k := 7) rfl (.cons (k := 8) rfl (.nil _))))) ?_
    refine GQ_block ?_
    refine GQ_then ?_
    refine G_region ?_
    refine GL_step rfl (PS_add rfl rfl (IntWalk.i64_in _ (by first | omega | (simp only [List.length_cons, List.length_nil]; omega)))) ?_
    refine GL_step rfl (PS_move rfl) ?_
    refine GL_nil ?_
    refine GQ_sub (.cons (k := 3) rfl (.cons (k := 6) rfl (.cons (k := 7) rfl (.cons (k := 8) rfl (.nil _))))) ?_
    refine GQ_next2_ _ _ ?_ ?_ (.cons (k := 3) rfl (.cons (k := 8) rfl (.cons (k := 6) rfl (.cons (k := 7) rfl (.nil _))))) (.cons _ (.refl _))
    · exact ⟨by omega, by omega, by rw [hI13, Telnet.bytesOf_drop hI11 (by omega), List.append_assoc], by simp only [List.length_append, List.length_cons, List.length_nil]; omega⟩
    · omega
  · skip
    have c1p := c1
    try simp only [decide_eq_true_eq, decide_eq_false_iff_not, Bool.not_eq_true', Bool.not_eq_false', Bool.or_eq_true, Bool.and_eq_true, Bool.or_eq_false_iff, Bool.and_eq_false_iff, Int.not_lt, Int.not_le] at c1p
    refine G_exit ?_
    refine GQ_then_exit ?_
    refine GQ_then_exit ?_
    refine GQ_block_exit ?_
    refine GQ_sub (.cons (k := 3) rfl (.nil _)) ?_
    refine GQ_then ?_
    refine G_seq ?_
    refine G_region ?_
    refine GL_step rfl (PS_move rfl) ?_
    refine GL_step rfl (PS_assign rfl) ?_
    refine GL_nil ?_
    refine GQ_sub (.cons (k := 2) rfl (.nil _)) ?_
    refine GQ_then ?_
    refine G_ret ?_
    refine GQ_ret rfl (.tmp rfl .nil) ?_
    intro w1 hS; refine ⟨?_, hS.toKeep⟩; obtain rfl : k = xs.length := by omega
    rw [hI13]; simp [tup, Telnet.bytesOf]
theorem ref_FeedBytes_1_spec (b c : Nat) (X : Telnet) (z : UInt8) (h0 : X.sub.length ≤ 16) : Ctr Tryd.prog 39 #[.pointer (some ⟨b, 0, none⟩), .pointer (some ⟨c, 0, none⟩)] [Res.box b 41 X.enc, Res.box c 3 [.int .i64 (z.toNat : Int)]] (fun v B => v = .tuple #[] ∧ B = [Res.box b 41 (X.collect z).enc, Res.box c 3 [.int .i64 (z.toNat : Int)]]) := by
  intro w hS0
  have hz := z.toNat_lt
  refine Ret_body _ _ Tryd.func39 rfl rfl rfl (hS0) ?_
  refine G_seq ?_
  refine G_region ?_
  refine GL_step rfl (PS_fieldAddr fa41_2 rfl) ?_
  refine GL_step rfl (PS_load rfl tys9 (.head _) Telnet.l2 rfl rfl) ?_
  refine GL_step rfl (PS_len_str rfl Tryd.underlying9 rfl) ?_
  refine GL_step rfl (PS_lss rfl rfl) ?_
  refine GL_nil ?_
  refine GQ_sub (.cons (k := 0) rfl (.cons (k := 1) rfl (.cons (k := 5) rfl (.nil _)))) ?_
  refine GQ_then ?_
  refine G_cond rfl (fun c1 => ?_) (fun c1 => ?_)
  · skip
    have c1p := c1
    try simp only [decide_eq_true_eq, decide_eq_false_iff_not, Bool.not_eq_true', Bool.not_eq_false', Bool.or_eq_true, Bool.and_eq_true, Bool.or_eq_false_iff, Bool.and_eq_false_iff, Int.not_lt, Int.not_le] at c1p
    refine G_planN (N := 8) [0, 1, 0, 4, 12, 31, 63, 127] mix (by kernel_rfl) rfl ?_
    refine Plan_float 0 rfl rfl (by kernel_rfl) (OK_s (EX_s (PS_fieldAddr fa41_2 rfl))) ?_
    refine Plan_float 1 rfl rfl (by kernel_rfl) (OK_s (EX_s (PS_load rfl tys9 (.head _) Telnet.l2 rfl rfl))) ?_
    refine Plan_float 2 rfl rfl (by kernel_rfl) (OK_s (EX_s (PS_load1 rfl tys3 (.tail _ (.head _))))) ?_
    refine Plan_chain 3 rfl (by kernel_rfl) ?_
    refine GL_bs1F encI flI rfl Tryd.underlying74 sz3 zv3 rfl (by decide) (by decide) rfl rfl (fun b1 => ?_)
    refine GL_hand rfl ⟨?_, ?_⟩
    · exact (Pend_skip (by kernel_rfl) (Pend_okv rfl (OK_s (EX_s (PS_load rfl tys9 (.tail _ (.head _)) Telnet.l2 rfl rfl))) rfl rfl (Pend_okv rfl (OK_s (EX_s (PS_fieldAddr fa41_2 rfl))) rfl rfl Pend_nil)))
    refine Plan_float 4 rfl rfl (by kernel_rfl) (OK_s (EX_c (PC_of cf40 (.cons rfl .nil) (fun w hS => ref_bytesOf_spec _ [(z.toNat : Int)] (by intro x hx; simp at hx; omega) (by simp) w ((Kn.own (.head _)) w hS))))) ?_
    refine Plan_float 5 rfl rfl (by kernel_rfl) (OK_s (EX_s (PS_add_str rfl rfl (by first | omega | (simp only [Line.bytes1, List.length_cons, List.length_nil]; omega))))) ?_
    refine Plan_float 6 rfl rfl (by kernel_rfl) (OK_s (EX_s (PS_fieldAddr fa41_2 rfl))) ?_
    refine Plan_chain 7 rfl (by kernel_rfl) ?_
    refine GL_unit (PU_store Telnet.l2 rfl rfl rfl sz9 rfl (.tail .head)) ?_
    refine GL_hand0 rfl ⟨?_, ?_⟩
    · exact (Pend_skip (by kernel_rfl) (Pend_skip (by kernel_rfl) (Pend_skip (by kernel_rfl) (Pend_skip (by kernel_rfl) (Pend_skip (by kernel_rfl) (Pend_skip (by kernel_rfl) Pend_nil))))))
    refine Plan_end (by kernel_rfl) ?_
    refine GQ_end rfl .nil ?_
    intro w1 hS
    have hS := (hS.perm (Pulls.perm (.cons (.tail .head) (.cons (.tail .head) .nil)))).headL
    exact ⟨_, ⟨rfl, by rw [show X.collect z = _ from (if_t c1)] <;> simp only [Line.bytes1]⟩, hS⟩
  · skip
    have c1p := c1
    try simp only [decide_eq_true_eq, decide_eq_false_iff_not, Bool.not_eq_true', Bool.not_eq_false', Bool.or_eq_true, Bool.and_eq_true, Bool.or_eq_false_iff, Bool.and_eq_false_iff, Int.not_lt, Int.not_le] at c1p
    refine G_skip ?_
    refine GQ_end rfl .nil ?_
    intro w1 hS
    have hS := (hS.perm (Pulls.perm (.cons .head (.cons .head .nil)))).headL
    exact ⟨_, ⟨rfl, by rw [show X.collect z = _ from (if_f c1)] <;> simp only [Line.bytes1]⟩, hS⟩
theorem ref_asked_spec (X : Telnet) (verb opt : Int) (h0 : 0 ≤ opt ∧ opt ≤ 255) (w : World) : Ret Tryd.prog 41 #[.agg X.enc.toArray, .int .i64 verb, .int .i64 opt] w fun v w' => v = .tuple #[.agg (X.asked verb opt).1.enc.toArray, vstr (X.asked verb opt).2] ∧ Keep w w' := by
  have hk1 := Telnet.kidx_rng opt
  refine Ret_body [] [] Tryd.func41 rfl rfl rfl (St.start w []) ?_
  refine G_seq ?_
  refine G_region ?_
  refine GL_box rfl rfl rfl (fun b1 => ?_)
  refine GL_alloc rfl zv41 rfl (fun b2 => ?_)
  refine GL_step rfl (PS_assign rfl) ?_
  refine GL_nil ?_
  refine GQ_sub (.cons (k := 1) rfl (.cons (k := 2) rfl (.cons (k := 3) rfl (.cons (k := 6) rfl (.nil _))))) ?_
  refine GQ_then ?_
  refine G_seq ?_
  refine G_region ?_
  refine GL_makeMap rfl (fun b3 => ?_)
  refine GL_unit (PU_mapSet Tryd.underlying75 Tryd.underlying3 rfl rfl rfl rfl .head).2 ?_
  refine GL_unit (PU_mapSet Tryd.underlying75 Tryd.underlying3 rfl rfl rfl rfl .head).2 ?_
  refine GL_unit (PU_mapSet Tryd.underlying75 Tryd.underlying3 rfl rfl rfl rfl .head).2 ?_
  refine GL_step rfl (PS_move rfl) ?_
  refine GL_step rfl (PS_assign rfl) ?_
  refine GL_nil ?_
  refine GQ_sub (.cons (k := 1) rfl (.cons (k := 2) rfl (.cons (k := 3) rfl (.cons (k := 6) rfl (.cons (k := 8) rfl (.nil _)))))) ?_
  refine GQ_then ?_
  refine G_seq ?_
  refine G_region ?_
  refine GL_step rfl (PS_move rfl) ?_
  refine GL_step rfl (PS_move rfl) ?_
  refine GL_step rfl (PS_conv (PS_lookup2 Tryd.underlying75 Tryd.underlying3 zv3 rfl rfl (.head _)) (Telnet.kmap opt)) ?_
  refine GL_step rfl (PS_move rfl) ?_
  refine GL_step rfl (PS_extract rfl rfl) ?_
  refine GL_step rfl (PS_extract rfl rfl) ?_
  refine GL_step rfl (PS_assign rfl) ?_
  refine GL_step rfl (PS_assign rfl) ?_
  refine GL_nil ?_
  refine GQ_sub (.cons (k := 1) rfl (.cons (k := 2) rfl (.cons (k := 3) rfl (.cons (k := 6) rfl (.cons (k := 9) rfl (.cons (k := 10) rfl (.nil _))))))) ?_
  refine GQ_then ?_
  refine G_seq ?_
  refine G_region ?_
  refine GL_step rfl (PS_move rfl) ?_
  refine GL_step rfl (PS_move rfl) ?_
  refine GL_gt (t := 26) rfl rfl rfl (fun q => PS_move rfl) ?_
  refine GL_gt (t := 26) rfl rfl rfl (fun q => PS_neq (cvE rfl q) rfl) ?_
  refine GL_step rfl (PS_and rfl rfl (fun h => h)) ?_
  refine GL_step rfl (PS_assign rfl) ?_
  refine GL_nil ?_
  refine GQ_sub (.cons (k := 1) rfl (.cons (k := 2) rfl (.cons (k := 3) rfl (.cons (k := 6) rfl (.cons (k := 9) rfl (.cons (k := 10) rfl (.cons (k := 11) rfl (.nil _)))))))) ?_
  refine GQ_then ?_
  refine G_seq ?_
  refine G_region ?_
  refine GL_step rfl (PS_move rfl) ?_
  refine GL_step rfl (PS_move rfl) ?_
  refine GL_gt (t := 31) rfl rfl rfl (fun q => PS_move rfl) ?_
  refine GL_gt (t := 31) rfl rfl rfl (fun q => PS_neq (cvE rfl q) rfl) ?_
  refine GL_step rfl (PS_and rfl rfl (fun h => h)) ?_
  refine GL_step rfl (PS_assign rfl) ?_
  refine GL_nil ?_
  refine GQ_sub (.cons (k := 1) rfl (.cons (k := 2) rfl (.cons (k := 3) rfl (.cons (k := 6) rfl (.cons (k := 9) rfl (.cons (k := 11) rfl (.cons (k := 12) rfl (.nil _)))))))) ?_
  refine GQ_then ?_
  refine G_seq ?_
  refine G_block ?_
  refine G_seq ?_
  refine G_region ?_
  refine GL_step rfl (PS_move rfl) ?_
  refine GL_step rfl (PS_eql rfl rfl) ?_
  refine GL_step rfl (PS_move rfl) ?_
  refine GL_gt (t := 38) rfl rfl rfl (fun q => PS_move rfl) ?_
  refine GL_gt (t := 38) rfl rfl rfl (fun q => PS_not (cvE rfl q)) ?_
  refine GL_step rfl (PS_and rfl rfl (fun h => h)) ?_
  refine GL_step rfl (PS_assign rfl) ?_
  refine GL_nil ?_
  refine GQ_sub (.cons (k := 1) rfl (.cons (k := 2) rfl (.cons (k := 3) rfl (.cons (k := 6) rfl (.cons (k := 9) rfl (.cons (k := 11) rfl (.cons (k := 12) rfl (.cons (k := 35) rfl (.nil _))))))))) ?_
  refine GQ_then ?_
  refine G_cond rfl (fun c1 => ?_) (fun c1 => ?_)
  · skip
    have c1p := c1
    try simp only [decide_eq_true_eq, decide_eq_false_iff_not, Bool.not_eq_true', Bool.not_eq_false', Bool.or_eq_true, Bool.and_eq_true, Bool.or_eq_false_iff, Bool.and_eq_false_iff, Int.not_lt, Int.not_le] at c1p
    refine G_seq ?_
    refine G_planN (N := 6) [0, 0, 2, 6, 15, 31] mix (by kernel_rfl) rfl ?_
    refine Plan_float 0 rfl rfl (by kernel_rfl) (OK_s (EX_s (PS_loadA rfl tya41 (.tail _ (.tail _ (.head _))) (Lens.id Telnet.fl.len Telnet.fl.one) rfl))) ?_
    refine Plan_float 1 rfl rfl (by kernel_rfl) (OK_s (EX_s (PS_move rfl))) ?_
    refine Plan_chain 2 rfl (by kernel_rfl) ?_
    refine GL_bs (cs := encA (n := 3) encI (Vector.replicate 3 default)) rfl Tryd.underlying74 sz3 zv3 (by decide) (by decide) (by kernel_rfl) (.cons (Lens.arr (n := 3) (i := 0) flI (by decide) (by decide)) rfl rfl rfl (.cons (Lens.arr (n := 3) (i := 1) flI (by decide) (by decide)) rfl rfl rfl (.cons (Lens.arr (n := 3) (i := 2) flI (by decide) (by decide)) rfl rfl rfl .nil))) ((flA flI).len _) (fun b4 => ?_)
    refine GL_hand rfl ⟨?_, ?_⟩
    · exact (Pend_skip (by kernel_rfl) (Pend_okv rfl (OK_s (EX_s (PS_loadA rfl tya41 (.tail _ (.tail _ (.tail _ (.head _)))) (Lens.id Telnet.fl.len Telnet.fl.one) rfl))) rfl rfl Pend_nil))
    refine Plan_float 3 rfl rfl (by kernel_rfl) (OK_s (EX_c (PC_of cf40 (.cons rfl .nil) (fun w hS => ref_bytesOf_spec _ [255, 252, opt] (by intro x hx; simp at hx; omega) (by simp) w ((Kn.own (.head _)) w hS))))) ?_
    refine Plan_chain 4 rfl (by kernel_rfl) ?_
    refine GL_unit (PU_store (Lens.id Telnet.fl.len Telnet.fl.one) rfl rfl rfl sz41 rfl (.tail (.tail .head))) ?_
    refine GL_hand0 rfl ⟨?_, ?_⟩
    · exact (Pend_skip (by kernel_rfl) (Pend_skip (by kernel_rfl) (Pend_skip (by kernel_rfl) Pend_nil)))
    refine Plan_float 5 rfl rfl (by kernel_rfl) (OK_s (EX_s (PS_assign rfl))) ?_
    refine Plan_end (by kernel_rfl) ?_
    refine GQ_sub (.cons (k := 6) rfl (.cons (k := 7) rfl (.nil _))) ?_
    refine GQ_then ?_
    refine G_ret ?_
    refine GQ_block_ret ?_
    refine GQ_then_ret ?_
    refine GQ_ret rfl (.cell rfl (.tail _ (.tail _ (.head _))) (.inl ⟨(by rw [Telnet.fl.len]; exact tya41), rfl⟩) (.tmp rfl .nil)) ?_
    intro w1 hS; refine ⟨?_, hS.toKeep⟩; rw [show X.asked verb opt = _ from (if_t c1)]; rfl
  · skip
    have c1p := c1
    try simp only [decide_eq_true_eq, decide_eq_false_iff_not, Bool.not_eq_true', Bool.not_eq_false', Bool.or_eq_true, Bool.and_eq_true, Bool.or_eq_false_iff, Bool.and_eq_false_iff, Int.not_lt, Int.not_le] at c1p
    refine G_seq ?_
    refine G_region ?_
    refine GL_step rfl (PS_move rfl) ?_
    refine GL_step rfl (PS_eql rfl rfl) ?_
    refine GL_step rfl (PS_move rfl) ?_
    refine GL_gt (t := 49) rfl rfl rfl (fun q => PS_move rfl) ?_
    refine GL_gt (t := 49) rfl rfl rfl (fun q => PS_not (cvE rfl q)) ?_
    refine GL_step rfl (PS_and rfl rfl (fun h => h)) ?_
    refine GL_step rfl (PS_assign rfl) ?_
    refine GL_nil ?_
    refine GQ_sub (.cons (k := 1) rfl (.cons (k := 2) rfl (.cons (k := 3) rfl (.cons (k := 6) rfl (.cons (k := 9) rfl (.cons (k := 11) rfl (.cons (k := 12) rfl (.cons (k := 46) rfl (.nil _))))))))) ?_
    refine GQ_then ?_
    refine G_cond rfl (fun c2 => ?_) (fun c2 => ?_)
    · skip
      have c2p := c2
      try simp only [decide_eq_true_eq, decide_eq_false_iff_not, Bool.not_eq_true', Bool.not_eq_false', Bool.or_eq_true, Bool.and_eq_true, Bool.or_eq_false_iff, Bool.and_eq_false_iff, Int.not_lt, Int.not_le] at c2p
      refine G_seq ?_
      refine G_planN (N := 6) [0, 0, 2, 6, 15, 31] mix (by kernel_rfl) rfl ?_
      refine Plan_float 0 rfl rfl (by kernel_rfl) (OK_s (EX_s (PS_loadA rfl tya41 (.tail _ (.tail _ (.head _))) (Lens.id Telnet.fl.len Telnet.fl.one) rfl))) ?_
      refine Plan_float 1 rfl rfl (by kernel_rfl) (OK_s (EX_s (PS_move rfl))) ?_
      refine Plan_chain 2 rfl (by kernel_rfl) ?_
      refine GL_bs (cs := encA (n := 3) encI (Vector.replicate 3 default)) rfl Tryd.underlying74 sz3 zv3 (by decide) (by decide) (by kernel_rfl) (.cons (Lens.arr (n := 3) (i := 0) flI (by decide) (by decide)) rfl rfl rfl (.cons (Lens.arr (n := 3) (i := 1) flI (by decide) (by decide)) rfl rfl rfl (.cons (Lens.arr (n := 3) (i := 2) flI (by decide) (by decide)) rfl rfl rfl .nil))) ((flA flI).len _) (fun b5 => ?_)
      refine GL_hand rfl ⟨?_, ?_⟩
      · exact (Pend_skip (by kernel_rfl) (Pend_okv rfl (OK_s (EX_s (PS_loadA rfl tya41 (.tail _ (.tail _ (.tail _ (.head _)))) (Lens.id Telnet.fl.len Telnet.fl.one) rfl))) rfl rfl Pend_nil))
      refine Plan_float 3 rfl rfl (by kernel_rfl) (OK_s (EX_c (PC_of cf40 (.cons rfl .nil) (fun w hS => ref_bytesOf_spec _ [255, 254, opt] (by intro x hx; simp at hx; omega) (by simp) w ((Kn.own (.head _)) w hS))))) ?_
      refine Plan_chain 4 rfl (by kernel_rfl) ?_
      refine GL_unit (PU_store (Lens.id Telnet.fl.len Telnet.fl.one) rfl rfl rfl sz41 rfl (.tail (.tail .head))) ?_
      refine GL_hand0 rfl ⟨?_, ?_⟩
      · exact (Pend_skip (by kernel_rfl) (Pend_skip (by kernel_rfl) (Pend_skip (by kernel_rfl) Pend_nil)))
      refine Plan_float 5 rfl rfl (by kernel_rfl) (OK_s (EX_s (PS_assign rfl))) ?_
      refine Plan_end (by kernel_rfl) ?_
      refine GQ_sub (.cons (k := 6) rfl (.cons (k := 7) rfl (.nil _))) ?_
      refine GQ_then ?_
      refine G_ret ?_
      refine GQ_block_ret ?_
      refine GQ_then_ret ?_
      refine GQ_ret rfl (.cell rfl (.tail _ (.tail _ (.head _))) (.inl ⟨(by rw [Telnet.fl.len]; exact tya41), rfl⟩) (.tmp rfl .nil)) ?_
      intro w1 hS; refine ⟨?_, hS.toKeep⟩; rw [show X.asked verb opt = _ from ((if_f c1).trans (if_t c2))]; rfl
    · skip
      have c2p := c2
      try simp only [decide_eq_true_eq, decide_eq_false_iff_not, Bool.not_eq_true', Bool.not_eq_false', Bool.or_eq_true, Bool.and_eq_true, Bool.or_eq_false_iff, Bool.and_eq_false_iff, Int.not_lt, Int.not_le] at c2p
      refine G_seq ?_
      refine G_region ?_
      refine GL_step rfl (PS_move rfl) ?_
      refine GL_step rfl (PS_eql rfl rfl) ?_
      refine GL_step rfl (PS_assign rfl) ?_
      refine GL_nil ?_
      refine GQ_sub (.cons (k := 1) rfl (.cons (k := 2) rfl (.cons (k := 3) rfl (.cons (k := 6) rfl (.cons (k := 9) rfl (.cons (k := 11) rfl (.cons (k := 12) rfl (.cons (k := 57) rfl (.nil _))))))))) ?_
      refine GQ_then ?_
      refine G_cond rfl (fun c3 => ?_) (fun c3 => ?_)
      · skip
        have c3p := c3
        try simp only [decide_eq_true_eq, decide_eq_false_iff_not, Bool.not_eq_true', Bool.not_eq_false', Bool.or_eq_true, Bool.and_eq_true, Bool.or_eq_false_iff, Bool.and_eq_false_iff, Int.not_lt, Int.not_le] at c3p
        refine G_seq ?_
        refine G_region ?_
        refine GL_step rfl (PS_move rfl) ?_
        refine GL_step rfl (PS_fieldAddr fa41_3 rfl) ?_
        refine GL_step rfl (PS_indexAddr ia39 rfl rfl (by omega) (by omega)) ?_
        refine GL_step rfl (PS_load rfl tys3 (.tail _ (.tail _ (.head _))) (Telnet.l3.comp (Lens.arr (n := 3) flI (by omega) (by omega))) rfl rfl) ?_
        refine GL_step rfl (PS_assign rfl) ?_
        refine GL_nil ?_
        refine GQ_sub (.cons (k := 2) rfl (.cons (k := 3) rfl (.cons (k := 6) rfl (.cons (k := 9) rfl (.cons (k := 13) rfl (.nil _)))))) ?_
        refine GQ_then ?_
        refine G_seq ?_
        refine G_region ?_
        refine GL_step rfl (PS_move rfl) ?_
        refine GL_step rfl (PS_fieldAddr fa41_3 rfl) ?_
        refine GL_step rfl (PS_indexAddr ia39 rfl rfl (by omega) (by omega)) ?_
        refine GL_unit (PU_store (Telnet.l3.comp (Lens.arr (n := 3) flI (by omega) (by omega))) rfl rfl rfl sz3 rfl (.tail (.tail .head))) ?_
        refine GL_nil ?_
        refine GQ_sub (.cons (k := 2) rfl (.cons (k := 3) rfl (.cons (k := 6) rfl (.cons (k := 13) rfl (.nil _))))) ?_
        refine GQ_then ?_
        refine G_seq ?_
        refine G_region ?_
        refine GL_step rfl (PS_move rfl) ?_
        refine GL_step rfl (PS_eql rfl rfl) ?_
        refine GL_nil ?_
        refine GQ_sub (.cons (k := 2) rfl (.cons (k := 3) rfl (.cons (k := 6) rfl (.cons (k := 68) rfl (.nil _))))) ?_
        refine GQ_then ?_
        refine G_cond rfl (fun c4 => ?_) (fun c4 => ?_)
        · skip
          have c4p := c4
          try simp only [decide_eq_true_eq, decide_eq_false_iff_not, Bool.not_eq_true', Bool.not_eq_false', Bool.or_eq_true, Bool.and_eq_true, Bool.or_eq_false_iff, Bool.and_eq_false_iff, Int.not_lt, Int.not_le] at c4p
          refine G_seq ?_
          refine G_planN (N := 6) [0, 0, 2, 6, 15, 31] mix (by kernel_rfl) rfl ?_
          refine Plan_float 0 rfl rfl (by kernel_rfl) (OK_s (EX_s (PS_loadA rfl tya41 (.tail _ (.tail _ (.head _))) (Lens.id Telnet.fl.len Telnet.fl.one) rfl))) ?_
          refine Plan_float 1 rfl rfl (by kernel_rfl) (OK_s (EX_s (PS_move rfl))) ?_
          refine Plan_chain 2 rfl (by kernel_rfl) ?_
          refine GL_bs (cs := encA (n := 3) encI (Vector.replicate 3 default)) rfl Tryd.underlying74 sz3 zv3 (by decide) (by decide) (by kernel_rfl) (.cons (Lens.arr (n := 3) (i := 0) flI (by decide) (by decide)) rfl rfl rfl (.cons (Lens.arr (n := 3) (i := 1) flI (by decide) (by decide)) rfl rfl rfl (.cons (Lens.arr (n := 3) (i := 2) flI (by decide) (by decide)) rfl rfl rfl .nil))) ((flA flI).len _) (fun b6 => ?_)
          refine GL_hand rfl ⟨?_, ?_⟩
          · exact (Pend_skip (by kernel_rfl) (Pend_okv rfl (OK_s (EX_s (PS_loadA rfl tya41 (.tail _ (.tail _ (.tail _ (.head _)))) (Lens.id Telnet.fl.len Telnet.fl.one) rfl))) rfl rfl Pend_nil))
          refine Plan_float 3 rfl rfl (by kernel_rfl) (OK_s (EX_c (PC_of cf40 (.cons rfl .nil) (fun w hS => ref_bytesOf_spec _ [255, 251, opt] (by intro x hx; simp at hx; omega) (by simp) w ((Kn.own (.head _)) w hS))))) ?_
          refine Plan_chain 4 rfl (by kernel_rfl) ?_
          refine GL_unit (PU_store (Lens.id Telnet.fl.len Telnet.fl.one) rfl rfl rfl sz41 rfl (.tail (.tail .head))) ?_
          refine GL_hand0 rfl ⟨?_, ?_⟩
          · exact (Pend_skip (by kernel_rfl) (Pend_skip (by kernel_rfl) (Pend_skip (by kernel_rfl) Pend_nil)))
          refine Plan_float 5 rfl rfl (by kernel_rfl) (OK_s (EX_s (PS_assign rfl))) ?_
          refine Plan_end (by kernel_rfl) ?_
          refine GQ_sub (.cons (k := 6) rfl (.cons (k := 7) rfl (.nil _))) ?_
          refine GQ_then ?_
          refine G_ret ?_
          refine GQ_block_ret ?_
          refine GQ_then_ret ?_
          refine GQ_ret rfl (.cell rfl (.tail _ (.tail _ (.head _))) (.inl ⟨(by rw [Telnet.fl.len]; exact tya41), rfl⟩) (.tmp rfl .nil)) ?_
          intro w1 hS; refine ⟨?_, hS.toKeep⟩; rw [show X.asked verb opt = _ from ((if_f c1).trans ((if_f c2).trans ((if_t c3).trans (if_t c4))))]; rfl
        · skip
          have c4p := c4
          try simp only [decide_eq_true_eq, decide_eq_false_iff_not, Bool.not_eq_true', Bool.not_eq_false', Bool.or_eq_true, Bool.and_eq_true, Bool.or_eq_false_iff, Bool.and_eq_false_iff, Int.not_lt, Int.not_le] at c4p
          refine G_skip ?_
          refine GQ_sub (.cons (k := 3) rfl (.cons (k := 6) rfl (.nil _))) ?_
          refine GQ_block ?_
          refine GQ_then ?_
          refine G_seq ?_
          refine G_region ?_
          refine GL_step rfl (PS_loadA rfl tya41 (.tail _ (.tail _ (.head _))) (Lens.id Telnet.fl.len Telnet.fl.one) rfl) ?_
          refine GL_unit (PU_store (Lens.id Telnet.fl.len Telnet.fl.one) rfl rfl rfl sz41 rfl (.tail .head)) ?_
          refine GL_step rfl (PS_assign rfl) ?_
          refine GL_nil ?_
          refine GQ_sub (.cons (k := 6) rfl (.cons (k := 7) rfl (.nil _))) ?_
          refine GQ_then ?_
          refine G_ret ?_
          refine GQ_ret rfl (.cell rfl (.tail _ (.head _)) (.inl ⟨(by rw [Telnet.fl.len]; exact tya41), rfl⟩) (.tmp rfl .nil)) ?_
          intro w1 hS; refine ⟨?_, hS.toKeep⟩; rw [show X.asked verb opt = _ from ((if_f c1).trans ((if_f c2).trans ((if_t c3).trans (if_f c4))))]; rfl
      · skip
        have c3p := c3
        try simp only [decide_eq_true_eq, decide_eq_false_iff_not, Bool.not_eq_true', Bool.not_eq_false', Bool.or_eq_true, Bool.and_eq_true, Bool.or_eq_false_iff, Bool.and_eq_false_iff, Int.not_lt, Int.not_le] at c3p
        refine G_seq ?_
        refine G_region ?_
        refine GL_step rfl (PS_move rfl) ?_
        refine GL_step rfl (PS_eql rfl rfl) ?_
        refine GL_step rfl (PS_assign rfl) ?_
        refine GL_nil ?_
        refine GQ_sub (.cons (k := 1) rfl (.cons (k := 2) rfl (.cons (k := 3) rfl (.cons (k := 6) rfl (.cons (k := 9) rfl (.cons (k := 11) rfl (.cons (k := 12) rfl (.cons (k := 73) rfl (.nil _))))))))) ?_
        refine GQ_then ?_
        refine G_cond rfl (fun c5 => ?_) (fun c5 => ?_)
        · skip
          have c5p := c5
          try simp only [decide_eq_true_eq, decide_eq_false_iff_not, Bool.not_eq_true', Bool.not_eq_false', Bool.or_eq_true, Bool.and_eq_true, Bool.or_eq_false_iff, Bool.and_eq_false_iff, Int.not_lt, Int.not_le] at c5p
          refine G_seq ?_
          refine G_region ?_
          refine GL_step rfl (PS_move rfl) ?_
          refine GL_step rfl (PS_fieldAddr fa41_4 rfl) ?_
          refine GL_step rfl (PS_indexAddr ia39 rfl rfl (by omega) (by omega)) ?_
          refine GL_step rfl (PS_load rfl tys3 (.tail _ (.tail _ (.head _))) (Telnet.l4.comp (Lens.arr (n := 3) flI (by omega) (by omega))) rfl rfl) ?_
          refine GL_step rfl (PS_assign rfl) ?_
          refine GL_nil ?_
          refine GQ_sub (.cons (k := 2) rfl (.cons (k := 3) rfl (.cons (k := 6) rfl (.cons (k := 9) rfl (.cons (k := 14) rfl (.nil _)))))) ?_
          refine GQ_then ?_
          refine G_seq ?_
          refine G_region ?_
          refine GL_step rfl (PS_move rfl) ?_
          refine GL_step rfl (PS_fieldAddr fa41_4 rfl) ?_
          refine GL_step rfl (PS_indexAddr ia39 rfl rfl (by omega) (by omega)) ?_
          refine GL_unit (PU_store (Telnet.l4.comp (Lens.arr (n := 3) flI (by omega) (by omega))) rfl rfl rfl sz3 rfl (.tail (.tail .head))) ?_
          refine GL_nil ?_
          refine GQ_sub (.cons (k := 2) rfl (.cons (k := 3) rfl (.cons (k := 6) rfl (.cons (k := 14) rfl (.nil _))))) ?_
          refine GQ_then ?_
          refine G_seq ?_
          refine G_region ?_
          refine GL_step rfl (PS_move rfl) ?_
          refine GL_step rfl (PS_eql rfl rfl) ?_
          refine GL_nil ?_
          refine GQ_sub (.cons (k := 2) rfl (.cons (k := 3) rfl (.cons (k := 6) rfl (.cons (k := 84) rfl (.nil _))))) ?_
          refine GQ_then ?_
          refine G_cond rfl (fun c6 => ?_) (fun c6 => ?_)
          · skip
            have c6p := c6
            try simp only [decide_eq_true_eq, decide_eq_false_iff_not, Bool.not_eq_true', Bool.not_eq_false', Bool.or_eq_true, Bool.and_eq_true, Bool.or_eq_false_iff, Bool.and_eq_false_iff, Int.not_lt, Int.not_le] at c6p
            refine G_seq ?_
            refine G_planN (N := 6) [0, 0, 2, 6, 15, 31] mix (by kernel_rfl) rfl ?_
            refine Plan_float 0 rfl rfl (by kernel_rfl) (OK_s (EX_s (PS_loadA rfl tya41 (.tail _ (.tail _ (.head _))) (Lens.id Telnet.fl.len Telnet.fl.one) rfl))) ?_
            refine Plan_float 1 rfl rfl (by kernel_rfl) (OK_s (EX_s (PS_move rfl))) ?_
            refine Plan_chain 2 rfl (by kernel_rfl) ?_
            refine GL_bs (cs := encA (n := 3) encI (Vector.replicate 3 default)) rfl Tryd.underlying74 sz3 zv3 (by decide) (by decide) (by kernel_rfl) (.cons (Lens.arr (n := 3) (i := 0) flI (by decide) (by decide)) rfl rfl rfl (.cons (Lens.arr (n := 3) (i := 1) flI (by decide) (by decide)) rfl rfl rfl (.cons (Lens.arr (n := 3) (i := 2) flI (by decide) (by decide)) rfl rfl rfl .nil))) ((flA flI).len _) (fun b7 => ?_)
            refine GL_hand rfl ⟨?_, ?_⟩
            · exact (Pend_skip (by kernel_rfl) (Pend_okv rfl (OK_s (EX_s (PS_loadA rfl tya41 (.tail _ (.tail _ (.tail _ (.head _)))) (Lens.id Telnet.fl.len Telnet.fl.one) rfl))) rfl rfl Pend_nil))
            refine Plan_float 3 rfl rfl (by kernel_rfl) (OK_s (EX_c (PC_of cf40 (.cons rfl .nil) (fun w hS => ref_bytesOf_spec _ [255, 253, opt] (by intro x hx; simp at hx; omega) (by simp) w ((Kn.own (.head _)) w hS))))) ?_
            refine Plan_chain 4 rfl (by kernel_rfl) ?_
            refine GL_unit (PU_store (Lens.id Telnet.fl.len Telnet.fl.one) rfl rfl rfl sz41 rfl (.tail (.tail .head))) ?_
            refine GL_hand0 rfl ⟨?_, ?_⟩
            · exact (Pend_skip (by kernel_rfl) (Pend_skip (by kernel_rfl) (Pend_skip (by kernel_rfl) Pend_nil)))
            refine Plan_float 5 rfl rfl (by kernel_rfl) (OK_s (EX_s (PS_assign rfl))) ?_
            refine Plan_end (by kernel_rfl) ?_
            refine GQ_sub (.cons (k := 6) rfl (.cons (k := 7) rfl (.nil _))) ?_
            refine GQ_then ?_
            refine G_ret ?_
            refine GQ_block_ret ?_
            refine GQ_then_ret ?_
            refine GQ_ret rfl (.cell rfl (.tail _ (.tail _ (.head _))) (.inl ⟨(by rw [Telnet.fl.len]; exact tya41), rfl⟩) (.tmp rfl .nil)) ?_
            intro w1 hS; refine ⟨?_, hS.toKeep⟩; rw [show X.asked verb opt = _ from ((if_f c1).trans ((if_f c2).trans ((if_f c3).trans ((if_t c5).trans (if_t c6)))))]; rfl
          · skip
            have c6p := c6
            try simp only [decide_eq_true_eq, decide_eq_false_iff_not, Bool.not_eq_true', Bool.not_eq_false', Bool.or_eq_true, Bool.and_eq_true, Bool.or_eq_false_iff, Bool.and_eq_false_iff, Int.not_lt, Int.not_le] at c6p
            refine G_skip ?_
            refine GQ_sub (.cons (k := 3) rfl (.cons (k := 6) rfl (.nil _))) ?_
            refine GQ_block ?_
            refine GQ_then ?_
            refine G_seq ?_
            refine G_region ?_
            refine GL_step rfl (PS_loadA rfl tya41 (.tail _ (.tail _ (.head _))) (Lens.id Telnet.fl.len Telnet.fl.one) rfl) ?_
            refine GL_unit (PU_store (Lens.id Telnet.fl.len Telnet.fl.one) rfl rfl rfl sz41 rfl (.tail .head)) ?_
            refine GL_step rfl (PS_assign rfl) ?_
            refine GL_nil ?_
            refine GQ_sub (.cons (k := 6) rfl (.cons (k := 7) rfl (.nil _))) ?_
            refine GQ_then ?_
            refine G_ret ?_
            refine GQ_ret rfl (.cell rfl (.tail _ (.head _)) (.inl ⟨(by rw [Telnet.fl.len]; exact tya41), rfl⟩) (.tmp rfl .nil)) ?_
            intro w1 hS; refine ⟨?_, hS.toKeep⟩; rw [show X.asked verb opt = _ from ((if_f c1).trans ((if_f c2).trans ((if_f c3).trans ((if_t c5).trans (if_f c6)))))]; rfl
        · skip
          have c5p := c5
          try simp only [decide_eq_true_eq, decide_eq_false_iff_not, Bool.not_eq_true', Bool.not_eq_false', Bool.or_eq_true, Bool.and_eq_true, Bool.or_eq_false_iff, Bool.and_eq_false_iff, Int.not_lt, Int.not_le] at c5p
          refine G_seq ?_
          refine G_region ?_
          refine GL_step rfl (PS_move rfl) ?_
          refine GL_step rfl (PS_eql rfl rfl) ?_
          refine GL_step rfl (PS_move rfl) ?_
          refine GL_gt (t := 92) rfl rfl rfl (fun q => PS_move rfl) ?_
          refine GL_step rfl (PS_and rfl rfl (fun h => h)) ?_
          refine GL_step rfl (PS_assign rfl) ?_
          refine GL_nil ?_
          refine GQ_sub (.cons (k := 1) rfl (.cons (k := 2) rfl (.cons (k := 3) rfl (.cons (k := 6) rfl (.cons (k := 9) rfl (.cons (k := 12) rfl (.cons (k := 89) rfl (.nil _)))))))) ?_
          refine GQ_then ?_
          refine G_cond rfl (fun c7 => ?_) (fun c7 => ?_)
          · skip
            have c7p := c7
            try simp only [decide_eq_true_eq, decide_eq_false_iff_not, Bool.not_eq_true', Bool.not_eq_false', Bool.or_eq_true, Bool.and_eq_true, Bool.or_eq_false_iff, Bool.and_eq_false_iff, Int.not_lt, Int.not_le] at c7p
            refine G_seq ?_
            refine G_region ?_
            refine GL_step rfl (PS_move rfl) ?_
            refine GL_step rfl (PS_fieldAddr fa41_3 rfl) ?_
            refine GL_step rfl (PS_indexAddr ia39 rfl rfl (by omega) (by omega)) ?_
            refine GL_step rfl (PS_load rfl tys3 (.tail _ (.tail _ (.head _))) (Telnet.l3.comp (Lens.arr (n := 3) flI (by omega) (by omega))) rfl rfl) ?_
            refine GL_step rfl (PS_assign rfl) ?_
            refine GL_nil ?_
            refine GQ_sub (.cons (k := 2) rfl (.cons (k := 3) rfl (.cons (k := 6) rfl (.cons (k := 9) rfl (.cons (k := 15) rfl (.nil _)))))) ?_
            refine GQ_then ?_
            refine G_seq ?_
            refine G_region ?_
            refine GL_step rfl (PS_move rfl) ?_
            refine GL_step rfl (PS_fieldAddr fa41_3 rfl) ?_
            refine GL_step rfl (PS_indexAddr ia39 rfl rfl (by omega) (by omega)) ?_
            refine GL_unit (PU_store (Telnet.l3.comp (Lens.arr (n := 3) flI (by omega) (by omega))) rfl rfl rfl sz3 rfl (.tail (.tail .head))) ?_
            refine GL_nil ?_
            refine GQ_sub (.cons (k := 2) rfl (.cons (k := 3) rfl (.cons (k := 6) rfl (.cons (k := 15) rfl (.nil _))))) ?_
            refine GQ_then ?_
            refine G_seq ?_
            refine G_region ?_
            refine GL_step rfl (PS_move rfl) ?_
            refine GL_step rfl (PS_eql rfl rfl) ?_
            refine GL_nil ?_
            refine GQ_sub (.cons (k := 2) rfl (.cons (k := 3) rfl (.cons (k := 6) rfl (.cons (k := 103) rfl (.nil _))))) ?_
            refine GQ_then ?_
            refine G_cond rfl (fun c8 => ?_) (fun c8 => ?_)
            · skip
              have c8p := c8
              try simp only [decide_eq_true_eq, decide_eq_false_iff_not, Bool.not_eq_true', Bool.not_eq_false', Bool.or_eq_true, Bool.and_eq_true, Bool.or_eq_false_iff, Bool.and_eq_false_iff, Int.not_lt, Int.not_le] at c8p
              refine G_seq ?_
              refine G_planN (N := 6) [0, 0, 2, 6, 15, 31] mix (by kernel_rfl) rfl ?_
              refine Plan_float 0 rfl rfl (by kernel_rfl) (OK_s (EX_s (PS_loadA rfl tya41 (.tail _ (.tail _ (.head _))) (Lens.id Telnet.fl.len Telnet.fl.one) rfl))) ?_
              refine Plan_float 1 rfl rfl (by kernel_rfl) (OK_s (EX_s (PS_move rfl))) ?_
              refine Plan_chain 2 rfl (by kernel_rfl) ?_
              refine GL_bs (cs := encA (n := 3) encI (Vector.replicate 3 default)) rfl Tryd.underlying74 sz3 zv3 (by decide) (by decide) (by kernel_rfl) (.cons (Lens.arr (n := 3) (i := 0) flI (by decide) (by decide)) rfl rfl rfl (.cons (Lens.arr (n := 3) (i := 1) flI (by decide) (by decide)) rfl rfl rfl (.cons (Lens.arr (n := 3) (i := 2) flI (by decide) (by decide)) rfl rfl rfl .nil))) ((flA flI).len _) (fun b8 => ?_)
              refine GL_hand rfl ⟨?_, ?_⟩
              · exact (Pend_skip (by kernel_rfl) (Pend_okv rfl (OK_s (EX_s (PS_loadA rfl tya41 (.tail _ (.tail _ (.tail _ (.head _)))) (Lens.id Telnet.fl.len Telnet.fl.one) rfl))) rfl rfl Pend_nil))
              refine Plan_float 3 rfl rfl (by kernel_rfl) (OK_s (EX_c (PC_of cf40 (.cons rfl .nil) (fun w hS => ref_bytesOf_spec _ [255, 252, opt] (by intro x hx; simp at hx; omega) (by simp) w ((Kn.own (.head _)) w hS))))) ?_
              refine Plan_chain 4 rfl (by kernel_rfl) ?_
              refine GL_unit (PU_store (Lens.id Telnet.fl.len Telnet.fl.one) rfl rfl rfl sz41 rfl (.tail (.tail .head))) ?_
              refine GL_hand0 rfl ⟨?_, ?_⟩
              · exact (Pend_skip (by kernel_rfl) (Pend_skip (by kernel_rfl) (Pend_skip (by kernel_rfl) Pend_nil)))
              refine Plan_float 5 rfl rfl (by kernel_rfl) (OK_s (EX_s (PS_assign rfl))) ?_
              refine Plan_end (by kernel_rfl) ?_
              refine GQ_sub (.cons (k := 6) rfl (.cons (k := 7) rfl (.nil _))) ?_
              refine GQ_then ?_
              refine G_ret ?_
              refine GQ_block_ret ?_
              refine GQ_then_ret ?_
              refine GQ_ret rfl (.cell rfl (.tail _ (.tail _ (.head _))) (.inl ⟨(by rw [Telnet.fl.len]; exact tya41), rfl⟩) (.tmp rfl .nil)) ?_
              intro w1 hS; refine ⟨?_, hS.toKeep⟩; rw [show X.asked verb opt = _ from ((if_f c1).trans ((if_f c2).trans ((if_f c3).trans ((if_f c5).trans ((if_t c7).trans (if_t c8))))))]; rfl
            · skip
              have c8p := c8
              try simp only [decide_eq_true_eq, decide_eq_false_iff_not, Bool.not_eq_true', Bool.not_eq_false', Bool.or_eq_true, Bool.and_eq_true, Bool.or_eq_false_iff, Bool.and_eq_false_iff, Int.not_lt, Int.not_le] at c8p
              refine G_skip ?_
              refine GQ_sub (.cons (k := 3) rfl (.cons (k := 6) rfl (.nil _))) ?_
              refine GQ_block ?_
              refine GQ_then ?_
              refine G_seq ?_
              refine G_region ?_
              refine GL_step rfl (PS_loadA rfl tya41 (.tail _ (.tail _ (.head _))) (Lens.id Telnet.fl.len Telnet.fl.one) rfl) ?_
              refine GL_unit (PU_store (Lens.id Telnet.fl.len Telnet.fl.one) rfl rfl rfl sz41 rfl (.tail .head)) ?_
              refine GL_step rfl (PS_assign rfl) ?_
              refine GL_nil ?_
              refine GQ_sub (.cons (k := 6) rfl (.cons (k := 7) rfl (.nil _))) ?_
              refine GQ_then ?_
              refine G_ret ?_
              refine GQ_ret rfl (.cell rfl (.tail _ (.head _)) (.inl ⟨(by rw [Telnet.fl.len]; exact tya41), rfl⟩) (.tmp rfl .nil)) ?_
              intro w1 hS; refine ⟨?_, hS.toKeep⟩; rw [show X.asked verb opt = _ from ((if_f c1).trans ((if_f c2).trans ((if_f c3).trans ((if_f c5).trans ((if_t c7).trans (if_f c8))))))]; rfl
          · skip
            have c7p := c7
            try simp only [decide_eq_true_eq, decide_eq_false_iff_not, Bool.not_eq_true', Bool.not_eq_false', Bool.or_eq_true, Bool.and_eq_true, Bool.or_eq_false_iff, Bool.and_eq_false_iff, Int.not_lt, Int.not_le] at c7p
            refine G_seq ?_
            refine G_region ?_
            refine GL_step rfl (PS_move rfl) ?_
            refine GL_step rfl (PS_eql rfl rfl) ?_
            refine GL_step rfl (PS_move rfl) ?_
            refine GL_gt (t := 111) rfl rfl rfl (fun q => PS_move rfl) ?_
            refine GL_step rfl (PS_and rfl rfl (fun h => h)) ?_
            refine GL_step rfl (PS_assign rfl) ?_
            refine GL_nil ?_
            refine GQ_sub (.cons (k := 2) rfl (.cons (k := 3) rfl (.cons (k := 6) rfl (.cons (k := 9) rfl (.cons (k := 108) rfl (.nil _)))))) ?_
            refine GQ_then ?_
            refine G_cond rfl (fun c9 => ?_) (fun c9 => ?_)
            · skip
              have c9p := c9
              try simp only [decide_eq_true_eq, decide_eq_false_iff_not, Bool.not_eq_true', Bool.not_eq_false', Bool.or_eq_true, Bool.and_eq_true, Bool.or_eq_false_iff, Bool.and_eq_false_iff, Int.not_lt, Int.not_le] at c9p
              refine G_seq ?_
              refine G_region ?_
              refine GL_step rfl (PS_move rfl) ?_
              refine GL_step rfl (PS_fieldAddr fa41_4 rfl) ?_
              refine GL_step rfl (PS_indexAddr ia39 rfl rfl (by omega) (by omega)) ?_
              refine GL_step rfl (PS_load rfl tys3 (.tail _ (.tail _ (.head _))) (Telnet.l4.comp (Lens.arr (n := 3) flI (by omega) (by omega))) rfl rfl) ?_
              refine GL_step rfl (PS_assign rfl) ?_
              refine GL_nil ?_
              refine GQ_sub (.cons (k := 2) rfl (.cons (k := 3) rfl (.cons (k := 6) rfl (.cons (k := 9) rfl (.cons (k := 16) rfl (.nil _)))))) ?_
              refine GQ_then ?_
              refine G_seq ?_
              refine G_region ?_
              refine GL_step rfl (PS_move rfl) ?_
              refine GL_step rfl (PS_fieldAddr fa41_4 rfl) ?_
              refine GL_step rfl (PS_indexAddr ia39 rfl rfl (by omega) (by omega)) ?_
              refine GL_unit (PU_store (Telnet.l4.comp (Lens.arr (n := 3) flI (by omega) (by omega))) rfl rfl rfl sz3 rfl (.tail (.tail .head))) ?_
              refine GL_nil ?_
              refine GQ_sub (.cons (k := 2) rfl (.cons (k := 3) rfl (.cons (k := 6) rfl (.cons (k := 16) rfl (.nil _))))) ?_
              refine GQ_then ?_
              refine G_seq ?_
              refine G_region ?_
              refine GL_step rfl (PS_move rfl) ?_
              refine GL_step rfl (PS_eql rfl rfl) ?_
              refine GL_nil ?_
              refine GQ_sub (.cons (k := 2) rfl (.cons (k := 3) rfl (.cons (k := 6) rfl (.cons (k := 122) rfl (.nil _))))) ?_
              refine GQ_then ?_
              refine G_cond rfl (fun c10 => ?_) (fun c10 => ?_)
              · skip
                have c10p := c10
                try simp only [decide_eq_true_eq, decide_eq_false_iff_not, Bool.not_eq_true', Bool.not_eq_false', Bool.or_eq_true, Bool.and_eq_true, Bool.or_eq_false_iff, Bool.and_eq_false_iff, Int.not_lt, Int.not_le] at c10p
                refine G_seq ?_
                refine G_planN (N := 6) [0, 0, 2, 6, 15, 31] mix (by kernel_rfl) rfl ?_
                refine Plan_float 0 rfl rfl (by kernel_rfl) (OK_s (EX_s (PS_loadA rfl tya41 (.tail _ (.tail _ (.head _))) (Lens.id Telnet.fl.len Telnet.fl.one) rfl))) ?_
                refine Plan_float 1 rfl rfl (by kernel_rfl) (OK_s (EX_s (PS_move rfl))) ?_
                refine Plan_chain 2 rfl (by kernel_rfl) ?_
                refine GL_bs (cs := encA (n := 3) encI (Vector.replicate 3 default)) rfl Tryd.underlying74 sz3 zv3 (by decide) (by decide) (by kernel_rfl) (.cons (Lens.arr (n := 3) (i := 0) flI (by decide) (by decide)) rfl rfl rfl (.cons (Lens.arr (n := 3) (i := 1) flI (by decide) (by decide)) rfl rfl rfl (.cons (Lens.arr (n := 3) (i := 2) flI (by decide) (by decide)) rfl rfl rfl .nil))) ((flA flI).len _) (fun b9 => ?_)
                refine GL_hand rfl ⟨?_, ?_⟩
                · exact (Pend_skip (by kernel_rfl) (Pend_okv rfl (OK_s (EX_s (PS_loadA rfl tya41 (.tail _ (.tail _ (.tail _ (.head _)))) (Lens.id Telnet.fl.len Telnet.fl.one) rfl))) rfl rfl Pend_nil))
                refine Plan_float 3 rfl rfl (by kernel_rfl) (OK_s (EX_c (PC_of cf40 (.cons rfl .nil) (fun w hS => ref_bytesOf_spec _ [255, 254, opt] (by intro x hx; simp at hx; omega) (by simp) w ((Kn.own (.head _)) w hS))))) ?_
                refine Plan_chain 4 rfl (by kernel_rfl) ?_
                refine GL_unit (PU_store (Lens.id Telnet.fl.len Telnet.fl.one) rfl rfl rfl sz41 rfl (.tail (.tail .head))) ?_
                refine GL_hand0 rfl ⟨?_, ?_⟩
                · exact (Pend_skip (by kernel_rfl) (Pend_skip (by kernel_rfl) (Pend_skip (by kernel_rfl) Pend_nil)))
                refine Plan_float 5 rfl rfl (by kernel_rfl) (OK_s (EX_s (PS_assign rfl))) ?_
                refine Plan_end (by kernel_rfl) ?_
                refine GQ_sub (.cons (k := 6) rfl (.cons (k := 7) rfl (.nil _))) ?_
                refine GQ_then ?_
                refine G_ret ?_
                refine GQ_block_ret ?_
                refine GQ_then_ret ?_
                refine GQ_ret rfl (.cell rfl (.tail _ (.tail _ (.head _))) (.inl ⟨(by rw [Telnet.fl.len]; exact tya41), rfl⟩) (.tmp rfl .nil)) ?_
                intro w1 hS; refine ⟨?_, hS.toKeep⟩; rw [show X.asked verb opt = _ from ((if_f c1).trans ((if_f c2).trans ((if_f c3).trans ((if_f c5).trans ((if_f c7).trans ((if_t c9).trans (if_t c10)))))))]; rfl
              · skip
                have c10p := c10
                try simp only [decide_eq_true_eq, decide_eq_false_iff_not, Bool.not_eq_true', Bool.not_eq_false', Bool.or_eq_true, Bool.and_eq_true, Bool.or_eq_false_iff, Bool.and_eq_false_iff, Int.not_lt, Int.not_le] at c10p
                refine G_skip ?_
                refine GQ_sub (.cons (k := 3) rfl (.cons (k := 6) rfl (.nil _))) ?_
                refine GQ_block ?_
                refine GQ_then ?_
                refine G_seq ?_
                refine G_region ?_
                refine GL_step rfl (PS_loadA rfl tya41 (.tail _ (.tail _ (.head _))) (Lens.id Telnet.fl.len Telnet.fl.one) rfl) ?_
                refine GL_unit (PU_store (Lens.id Telnet.fl.len Telnet.fl.one) rfl rfl rfl sz41 rfl (.tail .head)) ?_
                refine GL_step rfl (PS_assign rfl) ?_
                refine GL_nil ?_
                refine GQ_sub (.cons (k := 6) rfl (.cons (k := 7) rfl (.nil _))) ?_
                refine GQ_then ?_
                refine G_ret ?_
                refine GQ_ret rfl (.cell rfl (.tail _ (.head _)) (.inl ⟨(by rw [Telnet.fl.len]; exact tya41), rfl⟩) (.tmp rfl .nil)) ?_
                intro w1 hS; refine ⟨?_, hS.toKeep⟩; rw [show X.asked verb opt = _ from ((if_f c1).trans ((if_f c2).trans ((if_f c3).trans ((if_f c5).trans ((if_f c7).trans ((if_t c9).trans (if_f c10)))))))]; rfl
            · skip
              have c9p := c9
              try simp only [decide_eq_true_eq, decide_eq_false_iff_not, Bool.not_eq_true', Bool.not_eq_false', Bool.or_eq_true, Bool.and_eq_true, Bool.or_eq_false_iff, Bool.and_eq_false_iff, Int.not_lt, Int.not_le] at c9p
              refine G_skip ?_
              refine GQ_sub (.cons (k := 3) rfl (.cons (k := 6) rfl (.nil _))) ?_
              refine GQ_block ?_
              refine GQ_then ?_
              refine G_seq ?_
              refine G_region ?_
              refine GL_step rfl (PS_loadA rfl tya41 (.tail _ (.tail _ (.head _))) (Lens.id Telnet.fl.len Telnet.fl.one) rfl) ?_
              refine GL_unit (PU_store (Lens.id Telnet.fl.len Telnet.fl.one) rfl rfl rfl sz41 rfl (.tail .head)) ?_
              refine GL_step rfl (PS_assign rfl) ?_
              refine GL_nil ?_
              refine GQ_sub (.cons (k := 6) rfl (.cons (k := 7) rfl (.nil _))) ?_
              refine GQ_then ?_
              refine G_ret ?_
              refine GQ_ret rfl (.cell rfl (.tail _ (.head _)) (.inl ⟨(by rw [Telnet.fl.len]; exact tya41), rfl⟩) (.tmp rfl .nil)) ?_
              intro w1 hS; refine ⟨?_, hS.toKeep⟩; rw [show X.asked verb opt = _ from ((if_f c1).trans ((if_f c2).trans ((if_f c3).trans ((if_f c5).trans ((if_f c7).trans (if_f c9))))))]; rfl
end Go.Proofs.YtiimccommiokjaaDoor
