/- For every input the law TelnetEscapes returns true. No condition. -/
import Derived.Test.YtiimccommiokjaaDoorCards
import Derived.Test.YtiimccommiokjaaDoorTie
import Derived.Deep.DeepHandedRow
import Derived.Test.YtiimccommiokjaaDoorRows
import Derived.Test.YtiimccommiokjaaDoorTelnetEscapesEc3
import Derived.Test.YtiimccommiokjaaDoorTelnetEscapesPlain
set_option linter.unusedSimpArgs false
set_option linter.unusedVariables false
set_option maxRecDepth 100000
set_option maxHeartbeats 1000000
namespace Go.Proofs.YtiimccommiokjaaDoor
open Go Go.Ing Go.RowKit Go.ChangeShapes Go.WideShapes Go.ChangeAt
theorem own : ownKnob Tryd.prog.godebug = none := by kernel_rfl
theorem laidOut : laidOutB Tryd.prog = true := by kernel_rfl
theorem sz39 : Sz Tryd.prog 39 3 := Sz_of (by kernel_rfl)
theorem fa41_3 : FA Tryd.prog 41 3 3 := FA_of Tryd.underlying41 rfl sz39
theorem sz3 : Sz Tryd.prog 3 1 := Sz_of (by kernel_rfl)
theorem ia39 : IA Tryd.prog 39 3 1 := IA_of Tryd.underlying39 sz3
theorem tys3 : TyS Tryd.prog 3 := TyS_of Tryd.underlying3 rfl
theorem fa41_4 : FA Tryd.prog 41 4 6 := FA_of Tryd.underlying41 rfl sz39
theorem fa41_0 : FA Tryd.prog 41 0 0 := FA_of Tryd.underlying41 rfl sz3
theorem fa41_1 : FA Tryd.prog 41 1 1 := FA_of Tryd.underlying41 rfl sz3
theorem sz9 : Sz Tryd.prog 9 1 := Sz_of (by kernel_rfl)
theorem fa41_2 : FA Tryd.prog 41 2 2 := FA_of Tryd.underlying41 rfl sz9
theorem tys9 : TyS Tryd.prog 9 := TyS_of Tryd.underlying9 rfl
theorem fa41_5 : FA Tryd.prog 41 5 9 := FA_of Tryd.underlying41 rfl sz3
theorem sz49 : Sz Tryd.prog 49 1 := Sz_of (by kernel_rfl)
theorem fa52_0 : FA Tryd.prog 52 0 0 := FA_of Tryd.underlying52 rfl sz49
theorem tys49 : TyS Tryd.prog 49 := TyS_of Tryd.underlying49 rfl
theorem inf52 : ∃ i, Tryd.prog.info? 52 = some i ∧ i.size ≠ 0 := by
  have h : (Tryd.prog.info? 52).map (·.size) = some 2 := by kernel_rfl
  obtain ⟨i, h1, h2⟩ := Option.map_eq_some_iff.1 h
  exact ⟨i, h1, by omega⟩
theorem cf43 : CF Tryd.prog 43 := Tryd.call43
theorem sz50 : Sz Tryd.prog 50 1 := Sz_of (by kernel_rfl)
theorem fa52_1 : FA Tryd.prog 52 1 1 := FA_of Tryd.underlying52 rfl sz50
theorem tys50 : TyS Tryd.prog 50 := TyS_of Tryd.underlying50 rfl
theorem sz5 : Sz Tryd.prog 5 1 := Sz_of (by kernel_rfl)
theorem zv5 : ZV Tryd.prog 5 (.int .u8 0) := ZV_of (by kernel_rfl)
theorem by5 : BY Tryd.prog 5 1 := BY_of (by kernel_rfl)
theorem cf45 : CF Tryd.prog 45 := Tryd.call45
theorem cf44 : CF Tryd.prog 44 := Tryd.call44
theorem cf46 : CF Tryd.prog 46 := Tryd.call46
theorem mix : Tryd.prog.follows .mixedOrders = true := by kernel_rfl
theorem ce5 : Tryd.prog.cellsOf 5 = 1 := by kernel_rfl
theorem zv41 : ZV Tryd.prog 41 (.agg (Telnet.enc (default : Telnet)).toArray) := ZV_of (by kernel_rfl)
theorem sz41 : Sz Tryd.prog 41 10 := Sz_of (by kernel_rfl)
theorem tya41 : TyA Tryd.prog 41 10 := TyA_of Tryd.underlying41 rfl sz41
theorem cf25 : CF Tryd.prog 25 := Tryd.call25
theorem zv52 : ZV Tryd.prog 52 (.agg (BldV.enc ⟨none, ⟨none, 0, 0⟩⟩).toArray) := ZV_of (by kernel_rfl)
theorem is50 : IS Tryd.prog 50 1 := IS_of Tryd.underlying50 sz5
theorem tys5 : TyS Tryd.prog 5 := TyS_of Tryd.underlying5 rfl
theorem cf33 : CF Tryd.prog 33 := Tryd.call33
theorem cf35 : CF Tryd.prog 35 := Tryd.call35
theorem cf34 : CF Tryd.prog 34 := Tryd.call34
theorem cf36 : CF Tryd.prog 36 := Tryd.call36
theorem cf37 : CF Tryd.prog 37 := Tryd.call37
theorem cf38 : CF Tryd.prog 38 := Tryd.call38
theorem pl41 : Places Tryd.prog 41 [(0, 1), (1, 1), (2, 1), (3, 3), (6, 3), (9, 1)] := ⟨_, Tryd.underlying41, fun w => by simp [sz3 w, sz9 w, sz39 w]⟩
theorem cf23 : CF Tryd.prog 23 := Tryd.call23
theorem cf58 : CF Tryd.prog 58 := Tryd.call58
theorem cf55 : CF Tryd.prog 55 := Tryd.call55
theorem cf54 : CF Tryd.prog 54 := Tryd.call54
theorem cf47 : CF Tryd.prog 47 := Tryd.call47
theorem cf48 : CF Tryd.prog 48 := Tryd.call48
theorem cf49 : CF Tryd.prog 49 := Tryd.call49
theorem cf42 : CF Tryd.prog 42 := Tryd.call42
theorem cf32 : CF Tryd.prog 32 := Tryd.call32
theorem cf29 : CF Tryd.prog 29 := Tryd.call29
theorem cf21 : CF Tryd.prog 21 := Tryd.call21
theorem eq3 : EqV Tryd.prog 1 3 (fun n : Int => .int .i64 n) := EqV_int Tryd.underlying3
theorem eq9 : EqV Tryd.prog 1 9 (fun s : Str => vstr s) := EqV_str Tryd.underlying9
theorem eq39 : EqV Tryd.prog 2 39 (fun v : Arr _ 3 => .agg (encA encI v).toArray) := EqV_arr flI Tryd.underlying39 (by kernel_rfl) (by kernel_rfl) (.inr ⟨tys3, rfl, fun _ => rfl⟩) eq3
theorem tya39 : TyA Tryd.prog 39 3 := TyA_of Tryd.underlying39 rfl sz39
theorem eq41 : EqV Tryd.prog 3 41 (fun x : Telnet => .agg (Telnet.enc x).toArray) := EqV_struct Tryd.underlying41 (by kernel_rfl) (.cons (by decide) rfl (.inr ⟨tys3, rfl, fun _ => rfl⟩) Telnet.l0 eq3 (by decide) (.cons (by decide) rfl (.inr ⟨tys3, rfl, fun _ => rfl⟩) Telnet.l1 eq3 (by decide) (.cons (by decide) rfl (.inr ⟨tys9, rfl, fun _ => rfl⟩) Telnet.l2 eq9 (by decide) (.cons (by decide) rfl (.inl ⟨tya39, fun _ => rfl⟩) Telnet.l3 eq39 (by decide) (.cons (by decide) rfl (.inl ⟨tya39, fun _ => rfl⟩) Telnet.l4 eq39 (by decide) (.cons (by decide) rfl (.inr ⟨tys3, rfl, fun _ => rfl⟩) Telnet.l5 eq3 (by decide) .nil)))))) (fun x y => by rw [Bool.eq_iff_iff]; cases x; cases y; simp)
theorem dc3 {H : Type} {enc : TypeId × Value → H} {w : World} : Dc H enc Tryd.prog w (encI) wfI 3 := Dc_int Tryd.underlying3
theorem dc9 {H : Type} {enc : TypeId × Value → H} {w : World} : Dc H enc Tryd.prog w (encS) wfS 9 := Dc_string Tryd.underlying9
theorem dc39 {H : Type} {enc : TypeId × Value → H} {w : World} : Dc H enc Tryd.prog w (encA (n := 3) encI) (wfA wfI) 39 := Dc_arr (sz := 1) Tryd.underlying39 (by kernel_rfl) (by kernel_rfl) dc3
theorem dc41 {H : Type} {enc : TypeId × Value → H} {w : World} : Dc H enc Tryd.prog w (Telnet.enc) Telnet.wf 41 := Telnet.dc Tryd.underlying41 (by kernel_rfl) rfl (by kernel_rfl) dc3 rfl (by kernel_rfl) dc3 rfl (by kernel_rfl) dc9 rfl (by kernel_rfl) dc39 rfl (by kernel_rfl) dc39 rfl (by kernel_rfl) dc3
theorem telnet_Good_spec (X : Telnet) (w : World) : Ret Tryd.prog 25 #[.agg X.enc.toArray] w fun v w' => v = .bool X.good ∧ Keep w w' := by
 refine Ret_body [] [] Tryd.func25 rfl rfl rfl (St.start w []) ?_
 refine G_seq ?_
 refine G_region ?_
 refine GL_box rfl rfl rfl (fun b1 => ?_)
 refine GL_step rfl (PS_assign rfl) ?_
 refine GL_nil ?_
 refine GQ_sub (.cons (k := 1) rfl (.nil _)) ?_
 refine GQ_then ?_
 refine G_seq ?_
 refine G_seq ?_
 refine G_region ?_
 refine GL_step rfl (PS_move rfl) ?_
 refine GL_nil ?_
 refine GQ_then ?_
 refine G_block ?_
 refine G_subF (.cons (k := 4) rfl (.cons (k := 1) rfl (.nil _))) ?_
 refine G_loop1_ (fun (k : Int) => 0 ≤ k ∧ k ≤ 3 ∧ X.good = (allFrom 3 (fun i => !X.badOpt i) (3 - k).toNat && (!(!decide (X.us.at 2 = 0) || !decide (X.them.at 0 = 0)) && X.goodA))) (fun (k : Int) => (3 - k).toNat) (fun (k : Int) => [(4, .int .i64 k)]) (fun (k : Int) => []) (0) ?_ rfl rfl (fun k hI1 => ?_)
 · exact ⟨Int.le_refl _, by omega, rfl⟩
 obtain ⟨hI11, hI12, hI13⟩ := hI1
 refine G_seq ?_
 refine G_region ?_
 refine GL_step rfl (PS_lss rfl rfl) ?_
 refine GL_nil ?_
 refine GQ_then ?_
 refine G_seq ?_
 refine G_cond rfl (fun c1 => ?_) (fun c1 => ?_)
 ·
  have c1p := kz c1
  rw [allFrom_step _ (by omega)] at hI13
  refine G_skip ?_
  refine GQ_sub (.cons (k := 1) rfl (.cons (k := 4) rfl (.nil _))) ?_
  refine GQ_then ?_
  refine G_seq ?_
  refine G_block ?_
  refine G_seq ?_
  refine G_region ?_
  refine GL_step rfl (PS_move rfl) ?_
  refine GL_step rfl (PS_assign rfl) ?_
  refine GL_nil ?_
  refine GQ_sub (.cons (k := 1) rfl (.cons (k := 3) rfl (.cons (k := 4) rfl (.nil _)))) ?_
  refine GQ_then ?_
  refine G_seq ?_
  refine G_region ?_
  refine GL_step rfl (PS_move rfl) ?_
  refine GL_step rfl (PS_fieldAddr fa41_3 rfl) ?_
  refine GL_step rfl (PS_indexAddr ia39 rfl rfl (by omega) (by omega)) ?_
  refine GL_step rfl (PS_load rfl tys3 (.head _) (Telnet.l3.comp (Lens.arr (n := 3) flI (by omega) (by omega))) rfl rfl) ?_
  refine GL_step rfl (PS_lss rfl rfl) ?_
  refine GL_step rfl (PS_move rfl) ?_
  refine GL_gf (t := 12) rfl rfl rfl (fun q => PS_move rfl) ?_
  refine GL_gf (t := 12) rfl rfl rfl (fun q => PS_fieldAddr fa41_3 rfl) ?_
  refine GL_gf (t := 12) rfl rfl rfl (fun q => by have q1 := q; (try simp at q1); exact PS_indexAddr ia39 (cvE rfl (by rw [q]; rfl)) (cvE rfl (by rw [q]; rfl)) (by omega) (by omega)) ?_
  refine GL_gf (t := 12) rfl rfl rfl (fun q => by have q1 := q; (try simp at q1); exact PS_load (cvE rfl (by rw [q]; rfl)) tys3 (.head _) (Telnet.l3.comp (Lens.arr (n := 3) flI (by omega) (by omega))) rfl rfl) ?_
  refine GL_gf (t := 12) rfl rfl rfl (fun q => PS_gtr (cvE rfl (by rw [q]; rfl)) rfl) ?_
  refine GL_step rfl (PS_or rfl rfl (fun h => by rw [h]; rfl)) ?_
  refine GL_step rfl (PS_move rfl) ?_
  refine GL_gf (t := 19) rfl rfl rfl (fun q => PS_move rfl) ?_
  refine GL_gf (t := 19) rfl rfl rfl (fun q => PS_fieldAddr fa41_4 rfl) ?_
  refine GL_gf (t := 19) rfl rfl rfl (fun q => by have q1 := q; (try simp at q1); exact PS_indexAddr ia39 (cvE rfl (by rw [q]; rfl)) (cvE rfl (by rw [q]; rfl)) (by omega) (by omega)) ?_
  refine GL_gf (t := 19) rfl rfl rfl (fun q => by have q1 := q; (try simp at q1); exact PS_load (cvE rfl (by rw [q]; rfl)) tys3 (.head _) (Telnet.l4.comp (Lens.arr (n := 3) flI (by omega) (by omega))) rfl rfl) ?_
  refine GL_gf (t := 19) rfl rfl rfl (fun q => PS_lss (cvE rfl (by rw [q]; rfl)) rfl) ?_
  refine GL_step rfl (PS_or rfl rfl (fun h => by rw [h]; rfl)) ?_
  refine GL_step rfl (PS_move rfl) ?_
  refine GL_gf (t := 26) rfl rfl rfl (fun q => PS_move rfl) ?_
  refine GL_gf (t := 26) rfl rfl rfl (fun q => PS_fieldAddr fa41_4 rfl) ?_
  refine GL_gf (t := 26) rfl rfl rfl (fun q => by have q1 := q; (try simp at q1); exact PS_indexAddr ia39 (cvE rfl (by rw [q]; rfl)) (cvE rfl (by rw [q]; rfl)) (by omega) (by omega)) ?_
  refine GL_gf (t := 26) rfl rfl rfl (fun q => by have q1 := q; (try simp at q1); exact PS_load (cvE rfl (by rw [q]; rfl)) tys3 (.head _) (Telnet.l4.comp (Lens.arr (n := 3) flI (by omega) (by omega))) rfl rfl) ?_
  refine GL_gf (t := 26) rfl rfl rfl (fun q => PS_gtr (cvE rfl (by rw [q]; rfl)) rfl) ?_
  refine GL_step rfl (PS_or rfl rfl (fun h => by rw [h]; rfl)) ?_
  refine GL_nil ?_
  refine GQ_sub (.cons (k := 1) rfl (.cons (k := 4) rfl (.cons (k := 32) rfl (.nil _)))) ?_
  refine GQ_then ?_
  refine G_cond rfl (fun c2 => ?_) (fun c2 => ?_)
  ·
   have c2p := kz c2
   refine G_seq ?_
   refine G_region ?_
   refine GL_step rfl (PS_assign rfl) ?_
   refine GL_nil ?_
   refine GQ_sub (.cons (k := 2) rfl (.nil _)) ?_
   refine GQ_then ?_
   refine G_ret ?_
   refine GQ_block_ret ?_
   refine GQ_then_ret ?_
   refine GQ_then_ret ?_
   refine GQ_block_ret ?_
   refine GQ_then_ret ?_
   refine GQ_ret rfl (.tmp rfl .nil) ?_
   intro w1 hS; refine ⟨congrArg Value.bool ?_, hS.toKeep⟩; rw [hI13, Telnet.badOpt, c2]; rfl
  have c2p := kz c2
  refine G_skip ?_
  refine GQ_sub (.cons (k := 1) rfl (.cons (k := 4) rfl (.nil _))) ?_
  refine GQ_block ?_
  refine GQ_then ?_
  refine G_region ?_
  refine GL_step rfl (PS_add rfl rfl (IntWalk.i64_in _ (by omega))) ?_
  refine GL_step rfl (PS_move rfl) ?_
  refine GL_nil ?_
  refine GQ_sub (.cons (k := 1) rfl (.cons (k := 4) rfl (.nil _))) ?_
  refine GQ_next1_ (k + 1) ?_ ?_ (.cons (k := 4) rfl (.cons (k := 1) rfl (.nil _))) (.refl _)
  · exact ⟨by omega, by omega, by rw [hI13, Telnet.badOpt, c2]; rfl⟩
  · omega
 have c1p := kz c1
 obtain rfl : k = 3 := by omega
 refine G_exit ?_
 refine GQ_then_exit ?_
 refine GQ_then_exit ?_
 refine GQ_block_exit ?_
 refine GQ_sub (.cons (k := 1) rfl (.nil _)) ?_
 refine GQ_then ?_
 refine G_seq ?_
 refine G_seq ?_
 refine G_region ?_
 refine GL_step rfl (PS_fieldAddr fa41_3 rfl) ?_
 refine GL_step rfl (PS_indexAddr ia39 rfl rfl (by decide) (by decide)) ?_
 refine GL_step rfl (PS_load rfl tys3 (.head _) (Telnet.l3.comp (Lens.arr (n := 3) flI (by decide) (by decide))) rfl rfl) ?_
 refine GL_step rfl (PS_neq rfl rfl) ?_
 refine GL_step rfl (PS_move rfl) ?_
 refine GL_gf (t := 38) rfl rfl rfl (fun q => PS_fieldAddr fa41_4 rfl) ?_
 refine GL_gf (t := 38) rfl rfl rfl (fun q => PS_indexAddr ia39 (cvE rfl (by rw [q]; rfl)) rfl (by decide) (by decide)) ?_
 refine GL_gf (t := 38) rfl rfl rfl (fun q => PS_load (cvE rfl (by rw [q]; rfl)) tys3 (.head _) (Telnet.l4.comp (Lens.arr (n := 3) flI (by decide) (by decide))) rfl rfl) ?_
 refine GL_gf (t := 38) rfl rfl rfl (fun q => PS_neq (cvE rfl (by rw [q]; rfl)) rfl) ?_
 refine GL_step rfl (PS_or rfl rfl (fun h => by rw [h]; rfl)) ?_
 refine GL_nil ?_
 refine GQ_sub (.cons (k := 1) rfl (.cons (k := 43) rfl (.nil _))) ?_
 refine GQ_then ?_
 refine G_cond rfl (fun c3 => ?_) (fun c3 => ?_)
 ·
  have c3p := kz c3
  refine G_seq ?_
  refine G_region ?_
  refine GL_step rfl (PS_assign rfl) ?_
  refine GL_nil ?_
  refine GQ_sub (.cons (k := 2) rfl (.nil _)) ?_
  refine GQ_then ?_
  refine G_ret ?_
  refine GQ_then_ret ?_
  refine GQ_ret rfl (.tmp rfl .nil) ?_
  intro w1 hS; refine ⟨congrArg Value.bool ?_, hS.toKeep⟩; rw [hI13, c3]; rfl
 have c3p := kz c3
 refine G_skip ?_
 refine GQ_sub (.cons (k := 1) rfl (.nil _)) ?_
 refine GQ_then ?_
 refine G_seq ?_
 refine G_region ?_
 refine GL_step rfl (PS_fieldAddr fa41_0 rfl) ?_
 refine GL_step rfl (PS_load rfl tys3 (.head _) Telnet.l0 rfl rfl) ?_
 refine GL_step rfl (PS_geq rfl rfl) ?_
 refine GL_step rfl (PS_move rfl) ?_
 refine GL_gt (t := 47) rfl rfl rfl (fun q => PS_fieldAddr fa41_0 rfl) ?_
 refine GL_gt (t := 47) rfl rfl rfl (fun q => PS_load (cvE rfl q) tys3 (.head _) Telnet.l0 rfl rfl) ?_
 refine GL_gt (t := 47) rfl rfl rfl (fun q => PS_leq (cvE rfl q) rfl) ?_
 refine GL_step rfl (PS_and rfl rfl (fun h => h)) ?_
 refine GL_step rfl (PS_move rfl) ?_
 refine GL_gt (t := 52) rfl rfl rfl (fun q => PS_fieldAddr fa41_0 rfl) ?_
 refine GL_gt (t := 52) rfl rfl rfl (fun q => PS_load (cvE rfl q) tys3 (.head _) Telnet.l0 rfl rfl) ?_
 refine GL_gt (t := 52) rfl rfl rfl (fun q => PS_eql (cvE rfl q) rfl) ?_
 refine GL_gt (t := 52) rfl rfl rfl (fun q => PS_fieldAddr fa41_1 rfl) ?_
 refine GL_gt (t := 52) rfl rfl rfl (fun q => PS_load (cvE rfl q) tys3 (.head _) Telnet.l1 rfl rfl) ?_
 refine GL_gt (t := 52) rfl rfl rfl (fun q => PS_neq (cvE rfl q) rfl) ?_
 refine GL_gt (t := 52) rfl rfl rfl (fun q => PS_eql_bool Tryd.underlying4 (cvE rfl q) (cvE rfl q)) ?_
 refine GL_step rfl (PS_and rfl rfl (fun h => h)) ?_
 refine GL_step rfl (PS_move rfl) ?_
 refine GL_gt (t := 61) rfl rfl rfl (fun q => PS_fieldAddr fa41_1 rfl) ?_
 refine GL_gt (t := 61) rfl rfl rfl (fun q => PS_load (cvE rfl q) tys3 (.head _) Telnet.l1 rfl rfl) ?_
 refine GL_gt (t := 61) rfl rfl rfl (fun q => PS_eql (cvE rfl q) rfl) ?_
 refine GL_gt (t := 61) rfl rfl rfl (fun q => PS_move (cvE rfl q)) ?_
 refine GL_gfc (t := 65) rfl rfl rfl (fun qc q => PS_fieldAddr fa41_1 rfl) ?_
 refine GL_gfc (t := 65) rfl rfl rfl (fun qc q => PS_load (cvE rfl (by rw [qc, q]; rfl)) tys3 (.head _) Telnet.l1 rfl rfl) ?_
 refine GL_gfc (t := 65) rfl rfl rfl (fun qc q => PS_geq (cvE rfl (by rw [qc, q]; rfl)) rfl) ?_
 refine GL_gfc (t := 65) rfl rfl rfl (fun qc q => PS_move (cvE rfl (by rw [qc, q]; rfl))) ?_
 refine GL_gtc (t := 69) rfl rfl rfl (fun qc q => PS_fieldAddr fa41_1 rfl) ?_
 refine GL_gtc (t := 69) rfl rfl rfl (fun qc q => PS_load (cvE rfl (by rw [qc, q]; rfl)) tys3 (.head _) Telnet.l1 rfl rfl) ?_
 refine GL_gtc (t := 69) rfl rfl rfl (fun qc q => PS_leq (cvE rfl (by rw [qc, q]; rfl)) rfl) ?_
 refine GL_gfc (t := 65) rfl rfl rfl (fun qc q => PS_and (cvE rfl (by rw [qc, q]; rfl)) rfl (fun h => by rw [qc, q, h]; rfl)) ?_
 refine GL_gt (t := 61) rfl rfl rfl (fun q => PS_or (cvE rfl q) rfl (fun h => by rw [q, h]; rfl)) ?_
 refine GL_step rfl (PS_and rfl rfl (fun h => h)) ?_
 refine GL_step rfl (PS_move rfl) ?_
 refine GL_gt (t := 76) rfl rfl rfl (fun q => PS_fieldAddr fa41_2 rfl) ?_
 refine GL_gt (t := 76) rfl rfl rfl (fun q => PS_load (cvE rfl q) tys9 (.head _) Telnet.l2 rfl rfl) ?_
 refine GL_gt (t := 76) rfl rfl rfl (fun q => PS_len_str rfl Tryd.underlying9 (cvE rfl q)) ?_
 refine GL_gt (t := 76) rfl rfl rfl (fun q => PS_leq (cvE rfl q) rfl) ?_
 refine GL_step rfl (PS_and rfl rfl (fun h => h)) ?_
 refine GL_step rfl (PS_move rfl) ?_
 refine GL_gt (t := 82) rfl rfl rfl (fun q => PS_fieldAddr fa41_0 rfl) ?_
 refine GL_gt (t := 82) rfl rfl rfl (fun q => PS_load (cvE rfl q) tys3 (.head _) Telnet.l0 rfl rfl) ?_
 refine GL_gt (t := 82) rfl rfl rfl (fun q => PS_geq (cvE rfl q) rfl) ?_
 refine GL_gt (t := 82) rfl rfl rfl (fun q => PS_move (cvE rfl q)) ?_
 refine GL_gfc (t := 86) rfl rfl rfl (fun qc q => PS_fieldAddr fa41_2 rfl) ?_
 refine GL_gfc (t := 86) rfl rfl rfl (fun qc q => PS_load (cvE rfl (by rw [qc, q]; rfl)) tys9 (.head _) Telnet.l2 rfl rfl) ?_
 refine GL_gfc (t := 86) rfl rfl rfl (fun qc q => PS_eql_str (cvE rfl (by rw [qc, q]; rfl)) rfl) ?_
 refine GL_gt (t := 82) rfl rfl rfl (fun q => PS_or (cvE rfl q) rfl (fun h => by rw [q, h]; rfl)) ?_
 refine GL_step rfl (PS_and rfl rfl (fun h => h)) ?_
 refine GL_step rfl (PS_move rfl) ?_
 refine GL_gt (t := 92) rfl rfl rfl (fun q => PS_fieldAddr fa41_5 rfl) ?_
 refine GL_gt (t := 92) rfl rfl rfl (fun q => PS_load (cvE rfl q) tys3 (.head _) Telnet.l5 rfl rfl) ?_
 refine GL_gt (t := 92) rfl rfl rfl (fun q => PS_geq (cvE rfl q) rfl) ?_
 refine GL_step rfl (PS_and rfl rfl (fun h => h)) ?_
 refine GL_step rfl (PS_move rfl) ?_
 refine GL_gt (t := 97) rfl rfl rfl (fun q => PS_fieldAddr fa41_5 rfl) ?_
 refine GL_gt (t := 97) rfl rfl rfl (fun q => PS_load (cvE rfl q) tys3 (.head _) Telnet.l5 rfl rfl) ?_
 refine GL_gt (t := 97) rfl rfl rfl (fun q => PS_leq (cvE rfl q) rfl) ?_
 refine GL_step rfl (PS_and rfl rfl (fun h => h)) ?_
 refine GL_step rfl (PS_assign rfl) ?_
 refine GL_nil ?_
 refine GQ_sub (.cons (k := 2) rfl (.nil _)) ?_
 refine GQ_then ?_
 refine G_ret ?_
 refine GQ_ret rfl (.tmp rfl .nil) ?_
 intro w1 hS; refine ⟨congrArg Value.bool ?_, hS.toKeep⟩; rw [hI13, c3]; rfl
theorem strings_Builder_copyCheck_spec (b : Nat) (p : Option Addr) (h : Hd) (hp : p = none ∨ p = some ⟨b, 0, none⟩) : Ctr Tryd.prog 43 #[.pointer (some ⟨b, 0, none⟩)] [Res.box b 52 (BldV.enc ⟨p, h⟩)] (fun v B => v = .tuple #[] ∧ B = [Res.box b 52 (BldV.enc ⟨some ⟨b, 0, none⟩, h⟩)]) := by
 intro w hS0
 refine Ret_body _ _ Tryd.func43 rfl rfl rfl (hS0) ?_
 refine G_seq ?_
 refine G_region ?_
 refine GL_step rfl (PS_move rfl) ?_
 refine GL_step rfl (PS_nilCheck rfl) ?_
 refine GL_step rfl (PS_fieldAddr fa52_0 rfl) ?_
 refine GL_step rfl (PS_load rfl tys49 (.head _) BldV.l0 rfl rfl) ?_
 refine GL_step rfl (PS_eqp_nil Tryd.underlying49 rfl) ?_
 refine GL_nil ?_
 refine GQ_sub (.cons (k := 0) rfl (.cons (k := 6) rfl (.nil _))) ?_
 refine GQ_then ?_
 refine G_cond rfl (fun c1 => ?_) (fun c1 => ?_)
 ·
  have c1p := kz c1
  obtain rfl : p = none := by simpa using c1
  refine G_region ?_
  refine GL_step rfl (PS_move rfl) ?_
  refine GL_step rfl (PS_move rfl) ?_
  refine GL_step rfl ((let ⟨_, h, h2⟩ := inf52; PS_toUnsafe Tryd.underlying49 Tryd.underlying81 h h2 rfl (.head _) (by rw [BldV.fl.len]; decide))) ?_
  refine GL_step rfl (PS_noEscape Tryd.func51 (by kernel_rfl) (by kernel_rfl) (by kernel_rfl) (by kernel_rfl) rfl) ?_
  refine GL_step rfl ((let ⟨_, h, _⟩ := inf52; PS_fromUnsafe Tryd.underlying81 Tryd.underlying49 h rfl (.head _) (by rw [BldV.fl.len]; kernel_rfl))) ?_
  refine GL_step rfl (PS_nilCheck rfl) ?_
  refine GL_step rfl (PS_fieldAddr fa52_0 rfl) ?_
  refine GL_unit (PU_store BldV.l0 rfl rfl rfl sz49 rfl .head) ?_
  refine GL_nil ?_
  refine GQ_end rfl .nil ?_
  intro w1 hS
  have hS := (hS.perm (Pulls.perm (.cons .head .nil))).headL
  exact ⟨_, ⟨rfl, rfl⟩, hS⟩
 have c1p := kz c1
 obtain rfl : p = some ⟨b, 0, none⟩ := by rcases hp with h | h; (subst h; simp at c1); exact h
 refine G_seq ?_
 refine G_region ?_
 refine GL_step rfl (PS_move rfl) ?_
 refine GL_step rfl (PS_nilCheck rfl) ?_
 refine GL_step rfl (PS_fieldAddr fa52_0 rfl) ?_
 refine GL_step rfl (PS_load rfl tys49 (.head _) BldV.l0 rfl rfl) ?_
 refine GL_step rfl (PS_move rfl) ?_
 refine GL_step rfl ((let ⟨_, h, _⟩ := inf52; PS_neqp_same Tryd.underlying49 h rfl rfl)) ?_
 refine GL_nil ?_
 refine GQ_sub (.cons (k := 19) rfl (.nil _)) ?_
 refine GQ_then ?_
 refine G_false rfl rfl ?_
 refine G_skip ?_
 refine GQ_end rfl .nil ?_
 intro w1 hS
 have hS := (hS.perm (Pulls.perm (.cons .head .nil))).headL
 exact ⟨_, ⟨rfl, rfl⟩, hS⟩
theorem strings_Builder_WriteByte_spec (b : Nat) (p : Option Addr) (h : Hd) (s : Str) (hp : p = none ∨ p = some ⟨b, 0, none⟩) (hz : h.Z) (hl : h.len = s.length) (c : UInt8) (hb : s.length < 140737488355000) : Ctr Tryd.prog 33 #[.pointer (some ⟨b, 0, none⟩), .int .u8 (c.toNat : Int)] [Res.box b 52 (BldV.enc ⟨p, h⟩), Res.own h 5 1 (s.flatMap encY)] (fun v B => ∃ p' h', v = .nilIface ∧ (p' = none ∨ p' = some ⟨b, 0, none⟩) ∧ h'.Z ∧ h'.len = (s ++ [c]).length ∧ B = [Res.box b 52 (BldV.enc ⟨p', h'⟩), Res.own h' 5 1 ((s ++ [c]).flatMap encY)]) := by
 intro w hS0
 refine Ret_body _ _ Tryd.func33 rfl rfl rfl (hS0) ?_
 refine G_seq ?_
 refine G_region ?_
 refine GL_step rfl (PS_assign rfl) ?_
 refine GL_nil ?_
 refine GQ_sub (.cons (k := 0) rfl (.cons (k := 1) rfl (.nil _))) ?_
 refine GQ_then ?_
 refine G_seq ?_
 refine G_region ?_
 refine GL_step rfl (PS_move rfl) ?_
 refine GL_callL rfl cf43 (.cons rfl .nil) (.cons .head .nil) (strings_Builder_copyCheck_spec _ _ _ (by first | assumption | omega)) (fun v1 B hv => ?_)
 obtain ⟨rfl, rfl⟩ := hv
 refine GL_nil ?_
 refine GQ_sub (.cons (k := 0) rfl (.cons (k := 1) rfl (.nil _))) ?_
 refine GQ_then ?_
 refine G_seq ?_
 refine G_region ?_
 refine GL_step rfl (PS_move rfl) ?_
 refine GL_step rfl (PS_move rfl) ?_
 refine GL_step rfl (PS_nilCheck rfl) ?_
 refine GL_step rfl (PS_fieldAddr fa52_1 rfl) ?_
 refine GL_step rfl (PS_load rfl tys50 (.head _) BldV.l1 rfl rfl) ?_
 refine GL_step rfl (PS_move rfl) ?_
 refine GL_bs1 rfl Tryd.underlying50 sz5 zv5 rfl (by decide) (by decide) rfl rfl rfl (fun b1 => ?_)
 refine GL_appendG rfl Tryd.underlying50 sz5 zv5 rfl by5 (by decide) (by decide) rfl rfl (fun w hS => Src.sliceT Tryd.underlying50 ((Kn.own (.head _)) w hS)) (by intro v hv; simp at hv; subst hv; rfl) (by dsimp only; omega) (fun _ => (.tail (.tail .head))) (fun h2 h2l h2z => ?_)
 have h2z := h2z hz; dsimp only at h2l
 refine GL_step rfl (PS_nilCheck rfl) ?_
 refine GL_step rfl (PS_fieldAddr fa52_1 rfl) ?_
 refine GL_unit (PU_store BldV.l1 rfl rfl rfl sz50 rfl (.tail .head)) ?_
 refine GL_nil ?_
 refine GQ_sub (.nil _) ?_
 refine GQ_then ?_
 refine G_seq ?_
 refine G_region ?_
 refine GL_step rfl (PS_assign rfl) ?_
 refine GL_nil ?_
 refine GQ_then ?_
 refine G_ret ?_
 refine GQ_ret rfl (.tmp rfl .nil) ?_
 intro w1 hS
 have hS := (hS.perm (Pulls.perm (.cons (.tail .head) (.cons (.tail .head) .nil)))).headL
 exact ⟨_, ⟨_, _, rfl, .inr rfl, by assumption, by simp; omega, by rw [List.flatMap_append]; rfl⟩, hS⟩
theorem telnet_place_spec (opt : Int) (w : World) : Ret Tryd.prog 44 #[.int .i64 opt] w fun v w' => v = .tuple #[.int .i64 (Telnet.place opt).1, .bool (Telnet.place opt).2.1, .bool (Telnet.place opt).2.2] ∧ Keep w w' := by
 refine Ret_body [] [] Tryd.func44 rfl rfl rfl (St.start w []) ?_
 refine G_seq ?_
 refine G_region ?_
 refine GL_step rfl (PS_assign rfl) ?_
 refine GL_step rfl (PS_assign rfl) ?_
 refine GL_step rfl (PS_assign rfl) ?_
 refine GL_nil ?_
 refine GQ_sub (.cons (k := 0) rfl (.nil _)) ?_
 refine GQ_then ?_
 refine G_seq ?_
 refine G_seq ?_
 refine G_region ?_
 refine GL_step rfl (PS_move rfl) ?_
 refine GL_nil ?_
 refine GQ_sub (.cons (k := 5) rfl (.nil _)) ?_
 refine GQ_then ?_
 refine G_block ?_
 refine G_seq ?_
 refine G_region ?_
 refine GL_step rfl (PS_eql rfl rfl) ?_
 refine GL_step rfl (PS_assign rfl) ?_
 refine GL_nil ?_
 refine GQ_sub (.cons (k := 5) rfl (.cons (k := 6) rfl (.nil _))) ?_
 refine GQ_then ?_
 refine G_cond rfl (fun c1 => ?_) (fun c1 => ?_)
 ·
  have c1p := kz c1
  refine G_seq ?_
  refine G_region ?_
  refine GL_step rfl (PS_assign rfl) ?_
  refine GL_step rfl (PS_assign rfl) ?_
  refine GL_step rfl (PS_assign rfl) ?_
  refine GL_nil ?_
  refine GQ_sub (.cons (k := 2) rfl (.cons (k := 3) rfl (.cons (k := 4) rfl (.nil _)))) ?_
  refine GQ_then ?_
  refine G_ret ?_
  refine GQ_block_ret ?_
  refine GQ_then_ret ?_
  refine GQ_ret rfl (.tmp rfl (.tmp rfl (.tmp rfl .nil))) ?_
  intro w1 hS; refine ⟨?_, hS.toKeep⟩; simp only [Telnet.place, c1, ↓reduceIte, Bool.false_eq_true]; rfl
 have c1p := kz c1
 refine G_seq ?_
 refine G_region ?_
 refine GL_step rfl (PS_eql rfl rfl) ?_
 refine GL_step rfl (PS_assign rfl) ?_
 refine GL_nil ?_
 refine GQ_sub (.cons (k := 5) rfl (.cons (k := 8) rfl (.nil _))) ?_
 refine GQ_then ?_
 refine G_cond rfl (fun c2 => ?_) (fun c2 => ?_)
 ·
  have c2p := kz c2
  refine G_seq ?_
  refine G_region ?_
  refine GL_step rfl (PS_assign rfl) ?_
  refine GL_step rfl (PS_assign rfl) ?_
  refine GL_step rfl (PS_assign rfl) ?_
  refine GL_nil ?_
  refine GQ_sub (.cons (k := 2) rfl (.cons (k := 3) rfl (.cons (k := 4) rfl (.nil _)))) ?_
  refine GQ_then ?_
  refine G_ret ?_
  refine GQ_block_ret ?_
  refine GQ_then_ret ?_
  refine GQ_ret rfl (.tmp rfl (.tmp rfl (.tmp rfl .nil))) ?_
  intro w1 hS; refine ⟨?_, hS.toKeep⟩; simp only [Telnet.place, c1, c2, ↓reduceIte, Bool.false_eq_true]; rfl
 have c2p := kz c2
 refine G_seq ?_
 refine G_region ?_
 refine GL_step rfl (PS_eql rfl rfl) ?_
 refine GL_step rfl (PS_assign rfl) ?_
 refine GL_nil ?_
 refine GQ_sub (.cons (k := 10) rfl (.nil _)) ?_
 refine GQ_then ?_
 refine G_cond rfl (fun c3 => ?_) (fun c3 => ?_)
 ·
  have c3p := kz c3
  refine G_seq ?_
  refine G_region ?_
  refine GL_step rfl (PS_assign rfl) ?_
  refine GL_step rfl (PS_assign rfl) ?_
  refine GL_step rfl (PS_assign rfl) ?_
  refine GL_nil ?_
  refine GQ_sub (.cons (k := 2) rfl (.cons (k := 3) rfl (.cons (k := 4) rfl (.nil _)))) ?_
  refine GQ_then ?_
  refine G_ret ?_
  refine GQ_block_ret ?_
  refine GQ_then_ret ?_
  refine GQ_ret rfl (.tmp rfl (.tmp rfl (.tmp rfl .nil))) ?_
  intro w1 hS; refine ⟨?_, hS.toKeep⟩; simp only [Telnet.place, c1, c2, c3, ↓reduceIte, Bool.false_eq_true]; rfl
 have c3p := kz c3
 refine G_skip ?_
 refine GQ_sub (.nil _) ?_
 refine GQ_block ?_
 refine GQ_then ?_
 refine G_seq ?_
 refine G_region ?_
 refine GL_step rfl (PS_assign rfl) ?_
 refine GL_step rfl (PS_assign rfl) ?_
 refine GL_step rfl (PS_assign rfl) ?_
 refine GL_nil ?_
 refine GQ_then ?_
 refine G_ret ?_
 refine GQ_ret rfl (.tmp rfl (.tmp rfl (.tmp rfl .nil))) ?_
 intro w1 hS; refine ⟨?_, hS.toKeep⟩; simp only [Telnet.place, c1, c2, c3, ↓reduceIte, Bool.false_eq_true]; rfl
theorem telnet_say_spec (verb opt : Int) (h0 : 0 ≤ verb ∧ verb ≤ 255) (h1 : 0 ≤ opt ∧ opt ≤ 255) (w : World) : Ret Tryd.prog 45 #[.int .i64 verb, .int .i64 opt] w fun v w' => v = vstr (Telnet.say verb opt) ∧ Keep w w' := by
 refine Ret_body [] [] Tryd.func45 rfl rfl rfl (St.start w []) ?_
 refine G_seq ?_
 refine G_region ?_
 refine GL_step rfl (PS_assign rfl) ?_
 refine GL_nil ?_
 refine GQ_sub (.cons (k := 0) rfl (.cons (k := 1) rfl (.nil _))) ?_
 refine GQ_then ?_
 refine G_seq ?_
 refine G_region ?_
 refine GL_step rfl (PS_move rfl) ?_
 refine GL_step rfl (PS_toInt Tryd.underlying5 Tryd.underlying3 rfl (IntWalk.u8_in _ (by omega))) ?_
 refine GL_step rfl (PS_move rfl) ?_
 refine GL_step rfl (PS_toInt Tryd.underlying5 Tryd.underlying3 rfl (IntWalk.u8_in _ (by omega))) ?_
 refine GL_bs (cs := encA (n := 3) encU (Vector.replicate 3 default)) rfl Tryd.underlying50 sz5 zv5 (by decide) (by decide) (by kernel_rfl) (.cons (Lens.arr (n := 3) (i := 0) flU (by decide) (by decide)) rfl rfl rfl (.cons (Lens.arr (n := 3) (i := 1) flU (by decide) (by decide)) rfl rfl rfl (.cons (Lens.arr (n := 3) (i := 2) flU (by decide) (by decide)) rfl rfl rfl .nil))) ((flA flU).len _) (fun b1 => ?_)
 refine GL_step rfl (PS_stringE (s := Telnet.say verb opt) (by rw [show (Telnet.say verb opt).flatMap encY = [.int .u8 255, .int .u8 verb, .int .u8 opt] from by simp [Telnet.say, encY, u8_val h0.1 h0.2, u8_val h1.1 h1.2]]; rfl) Tryd.underlying50 Tryd.underlying9 Tryd.underlying5 rfl (Kn.own (.head _))) ?_
 refine GL_step rfl (PS_assign rfl) ?_
 refine GL_nil ?_
 refine GQ_sub (.cons (k := 4) rfl (.nil _)) ?_
 refine GQ_then ?_
 refine G_ret ?_
 refine GQ_ret rfl (.tmp rfl .nil) ?_
 intro w1 hS; refine ⟨?_, hS.toKeep⟩; rfl
theorem telnet_turn_spec {α : Type} {ea : α → List Value} {o : Nat} {g : α → Int} {st : α → Int → α} (b V : Nat) (Y : α) (on : Bool) (opt yes no : Int) (h0 : 0 ≤ yes ∧ yes ≤ 255) (h1 : 0 ≤ no ∧ no ≤ 255) (h2 : 0 ≤ opt ∧ opt ≤ 255) (ln : Lens ea encI o 1 g st) : Ctr Tryd.prog 46 #[.pointer (some ⟨b, o, none⟩), .bool on, .int .i64 opt, .int .i64 yes, .int .i64 no] [Res.box b V (ea Y)] (fun v B => v = vstr (Telnet.turnS (g Y) on opt yes no) ∧ B = [Res.box b V (ea (st Y (Telnet.onI on)))]) := by
 intro w hS0
 refine Ret_body _ _ Tryd.func46 rfl rfl rfl (hS0) ?_
 refine G_seq ?_
 refine G_region ?_
 refine GL_step rfl (PS_assign rfl) ?_
 refine GL_nil ?_
 refine GQ_sub (.cons (k := 0) rfl (.cons (k := 1) rfl (.cons (k := 2) rfl (.cons (k := 3) rfl (.cons (k := 4) rfl (.nil _)))))) ?_
 refine GQ_then ?_
 refine G_seq ?_
 refine G_region ?_
 refine GL_step rfl (PS_move rfl) ?_
 refine GL_step rfl (PS_nilCheck rfl) ?_
 refine GL_step rfl (PS_load rfl tys3 (.head _) ln rfl rfl) ?_
 refine GL_step rfl (PS_assign rfl) ?_
 refine GL_nil ?_
 refine GQ_sub (.cons (k := 0) rfl (.cons (k := 1) rfl (.cons (k := 2) rfl (.cons (k := 3) rfl (.cons (k := 4) rfl (.cons (k := 11) rfl (.nil _))))))) ?_
 refine GQ_then ?_
 refine G_seq ?_
 refine G_region ?_
 refine GL_step rfl (PS_move rfl) ?_
 refine GL_step rfl (PS_nilCheck rfl) ?_
 refine GL_unit (PU_store ln rfl rfl rfl sz3 rfl .head) ?_
 refine GL_nil ?_
 refine GQ_sub (.cons (k := 0) rfl (.cons (k := 1) rfl (.cons (k := 2) rfl (.cons (k := 3) rfl (.cons (k := 4) rfl (.cons (k := 11) rfl (.nil _))))))) ?_
 refine GQ_then ?_
 refine G_seq ?_
 refine G_seq ?_
 refine G_region ?_
 refine GL_step rfl (PS_move rfl) ?_
 refine GL_nil ?_
 refine GQ_then ?_
 refine G_cond rfl (fun c1 => ?_) (fun c1 => ?_)
 ·
  have c1p := kz c1
  refine G_region ?_
  refine GL_step rfl (PS_move rfl) ?_
  refine GL_step rfl (PS_nilCheck rfl) ?_
  refine GL_unit (PU_store ln rfl rfl rfl sz3 rfl .head) ?_
  refine GL_nil ?_
  refine GQ_sub (.cons (k := 1) rfl (.cons (k := 2) rfl (.cons (k := 3) rfl (.cons (k := 4) rfl (.cons (k := 11) rfl (.nil _)))))) ?_
  refine GQ_then ?_
  refine G_seq ?_
  refine G_block ?_
  refine G_seq ?_
  refine G_region ?_
  refine GL_step rfl (PS_move rfl) ?_
  refine GL_step rfl (PS_move rfl) ?_
  refine GL_gt (t := 22) rfl rfl rfl (fun q => PS_move rfl) ?_
  refine GL_gt (t := 22) rfl rfl rfl (fun q => PS_eql (cvE rfl q) rfl) ?_
  refine GL_step rfl (PS_and rfl rfl (fun h => h)) ?_
  refine GL_step rfl (PS_assign rfl) ?_
  refine GL_nil ?_
  refine GQ_sub (.cons (k := 1) rfl (.cons (k := 2) rfl (.cons (k := 3) rfl (.cons (k := 4) rfl (.cons (k := 11) rfl (.cons (k := 20) rfl (.nil _))))))) ?_
  refine GQ_then ?_
  refine G_cond rfl (fun c2 => ?_) (fun c2 => ?_)
  ·
   have c2p := kz c2
   refine G_seq ?_
   refine G_region ?_
   refine GL_step rfl (PS_move rfl) ?_
   refine GL_step rfl (PS_move rfl) ?_
   refine GL_pure rfl cf45 (.cons rfl (.cons rfl .nil)) (fun w hS => telnet_say_spec _ _ (by first | assumption | omega) (by first | assumption | omega) w) ?_
   refine GL_step rfl (PS_assign rfl) ?_
   refine GL_nil ?_
   refine GQ_sub (.cons (k := 10) rfl (.nil _)) ?_
   refine GQ_then ?_
   refine G_ret ?_
   refine GQ_block_ret ?_
   refine GQ_then_ret ?_
   refine GQ_ret rfl (.tmp rfl .nil) ?_
   intro w1 hS
   have hS := (hS.perm (Pulls.perm (.cons .head .nil))).headL
   exact ⟨_, ⟨by clear hS; simp_all [Telnet.turnS, tup], by simp only [Telnet.onI, ln.put_put, c1, c2, ↓reduceIte, Bool.false_eq_true]⟩, hS⟩
  have c2p := kz c2
  refine G_seq ?_
  refine G_region ?_
  refine GL_step rfl (PS_move rfl) ?_
  refine GL_step rfl (PS_not rfl) ?_
  refine GL_step rfl (PS_move rfl) ?_
  refine GL_gt (t := 32) rfl rfl rfl (fun q => PS_move rfl) ?_
  refine GL_gt (t := 32) rfl rfl rfl (fun q => PS_eql (cvE rfl q) rfl) ?_
  refine GL_step rfl (PS_and rfl rfl (fun h => h)) ?_
  refine GL_step rfl (PS_assign rfl) ?_
  refine GL_nil ?_
  refine GQ_sub (.cons (k := 2) rfl (.cons (k := 4) rfl (.cons (k := 29) rfl (.nil _)))) ?_
  refine GQ_then ?_
  refine G_cond rfl (fun c3 => ?_) (fun c3 => ?_)
  ·
   have c3p := kz c3
   refine G_seq ?_
   refine G_region ?_
   refine GL_step rfl (PS_move rfl) ?_
   refine GL_step rfl (PS_move rfl) ?_
   refine GL_pure rfl cf45 (.cons rfl (.cons rfl .nil)) (fun w hS => telnet_say_spec _ _ (by first | assumption | omega) (by first | assumption | omega) w) ?_
   refine GL_step rfl (PS_assign rfl) ?_
   refine GL_nil ?_
   refine GQ_sub (.cons (k := 10) rfl (.nil _)) ?_
   refine GQ_then ?_
   refine G_ret ?_
   refine GQ_block_ret ?_
   refine GQ_then_ret ?_
   refine GQ_ret rfl (.tmp rfl .nil) ?_
   intro w1 hS
   have hS := (hS.perm (Pulls.perm (.cons .head .nil))).headL
   exact ⟨_, ⟨by clear hS; simp_all [Telnet.turnS, tup], by simp only [Telnet.onI, ln.put_put, c1, c2, c3, ↓reduceIte, Bool.false_eq_true]⟩, hS⟩
  have c3p := kz c3
  refine G_skip ?_
  refine GQ_sub (.nil _) ?_
  refine GQ_block ?_
  refine GQ_then ?_
  refine G_seq ?_
  refine G_region ?_
  refine GL_step rfl (PS_assign rfl) ?_
  refine GL_nil ?_
  refine GQ_then ?_
  refine G_ret ?_
  refine GQ_ret rfl (.tmp rfl .nil) ?_
  intro w1 hS
  have hS := (hS.perm (Pulls.perm (.cons .head .nil))).headL
  exact ⟨_, ⟨by clear hS; simp_all [Telnet.turnS, tup], by simp only [Telnet.onI, ln.put_put, c1, c2, c3, ↓reduceIte, Bool.false_eq_true]⟩, hS⟩
 have c1p := kz c1
 refine G_skip ?_
 refine GQ_sub (.cons (k := 1) rfl (.cons (k := 2) rfl (.cons (k := 3) rfl (.cons (k := 4) rfl (.cons (k := 11) rfl (.nil _)))))) ?_
 refine GQ_then ?_
 refine G_seq ?_
 refine G_block ?_
 refine G_seq ?_
 refine G_region ?_
 refine GL_step rfl (PS_move rfl) ?_
 refine GL_step rfl (PS_move rfl) ?_
 refine GL_gt (t := 22) rfl rfl rfl (fun q => PS_move rfl) ?_
 refine GL_gt (t := 22) rfl rfl rfl (fun q => PS_eql (cvE rfl q) rfl) ?_
 refine GL_step rfl (PS_and rfl rfl (fun h => h)) ?_
 refine GL_step rfl (PS_assign rfl) ?_
 refine GL_nil ?_
 refine GQ_sub (.cons (k := 1) rfl (.cons (k := 2) rfl (.cons (k := 3) rfl (.cons (k := 4) rfl (.cons (k := 11) rfl (.cons (k := 20) rfl (.nil _))))))) ?_
 refine GQ_then ?_
 refine G_cond rfl (fun c4 => ?_) (fun c4 => ?_)
 ·
  have c4p := kz c4
  refine G_seq ?_
  refine G_region ?_
  refine GL_step rfl (PS_move rfl) ?_
  refine GL_step rfl (PS_move rfl) ?_
  refine GL_pure rfl cf45 (.cons rfl (.cons rfl .nil)) (fun w hS => telnet_say_spec _ _ (by first | assumption | omega) (by first | assumption | omega) w) ?_
  refine GL_step rfl (PS_assign rfl) ?_
  refine GL_nil ?_
  refine GQ_sub (.cons (k := 10) rfl (.nil _)) ?_
  refine GQ_then ?_
  refine G_ret ?_
  refine GQ_block_ret ?_
  refine GQ_then_ret ?_
  refine GQ_ret rfl (.tmp rfl .nil) ?_
  intro w1 hS
  have hS := (hS.perm (Pulls.perm (.cons .head .nil))).headL
  exact ⟨_, ⟨by clear hS; simp_all [Telnet.turnS, tup], by simp only [Telnet.onI, ln.put_put, c1, c4, ↓reduceIte, Bool.false_eq_true]⟩, hS⟩
 have c4p := kz c4
 refine G_seq ?_
 refine G_region ?_
 refine GL_step rfl (PS_move rfl) ?_
 refine GL_step rfl (PS_not rfl) ?_
 refine GL_step rfl (PS_move rfl) ?_
 refine GL_gt (t := 32) rfl rfl rfl (fun q => PS_move rfl) ?_
 refine GL_gt (t := 32) rfl rfl rfl (fun q => PS_eql (cvE rfl q) rfl) ?_
 refine GL_step rfl (PS_and rfl rfl (fun h => h)) ?_
 refine GL_step rfl (PS_assign rfl) ?_
 refine GL_nil ?_
 refine GQ_sub (.cons (k := 2) rfl (.cons (k := 4) rfl (.cons (k := 29) rfl (.nil _)))) ?_
 refine GQ_then ?_
 refine G_cond rfl (fun c5 => ?_) (fun c5 => ?_)
 ·
  have c5p := kz c5
  refine G_seq ?_
  refine G_region ?_
  refine GL_step rfl (PS_move rfl) ?_
  refine GL_step rfl (PS_move rfl) ?_
  refine GL_pure rfl cf45 (.cons rfl (.cons rfl .nil)) (fun w hS => telnet_say_spec _ _ (by first | assumption | omega) (by first | assumption | omega) w) ?_
  refine GL_step rfl (PS_assign rfl) ?_
  refine GL_nil ?_
  refine GQ_sub (.cons (k := 10) rfl (.nil _)) ?_
  refine GQ_then ?_
  refine G_ret ?_
  refine GQ_block_ret ?_
  refine GQ_then_ret ?_
  refine GQ_ret rfl (.tmp rfl .nil) ?_
  intro w1 hS
  have hS := (hS.perm (Pulls.perm (.cons .head .nil))).headL
  exact ⟨_, ⟨by clear hS; simp_all [Telnet.turnS, tup], by simp only [Telnet.onI, ln.put_put, c1, c4, c5, ↓reduceIte, Bool.false_eq_true]⟩, hS⟩
 have c5p := kz c5
 refine G_skip ?_
 refine GQ_sub (.nil _) ?_
 refine GQ_block ?_
 refine GQ_then ?_
 refine G_seq ?_
 refine G_region ?_
 refine GL_step rfl (PS_assign rfl) ?_
 refine GL_nil ?_
 refine GQ_then ?_
 refine G_ret ?_
 refine GQ_ret rfl (.tmp rfl .nil) ?_
 intro w1 hS
 have hS := (hS.perm (Pulls.perm (.cons .head .nil))).headL
 exact ⟨_, ⟨by clear hS; simp_all [Telnet.turnS, tup], by simp only [Telnet.onI, ln.put_put, c1, c4, c5, ↓reduceIte, Bool.false_eq_true]⟩, hS⟩
theorem telnet_negotiate_spec (b : Nat) (X : Telnet) (verb opt : Int) (h0 : 0 ≤ opt ∧ opt ≤ 255) : Ctr Tryd.prog 35 #[.pointer (some ⟨b, 0, none⟩), .int .i64 verb, .int .i64 opt] [Res.box b 41 X.enc] (fun v B => v = vstr (X.negotiate verb opt).2 ∧ B = [Res.box b 41 (X.negotiate verb opt).1.enc]) := by
 intro w hS0
 refine Ret_body _ _ Tryd.func35 rfl rfl rfl (hS0) ?_
 refine G_seq ?_
 refine G_region ?_
 refine GL_step rfl (PS_assign rfl) ?_
 refine GL_nil ?_
 refine GQ_sub (.cons (k := 0) rfl (.cons (k := 1) rfl (.cons (k := 2) rfl (.nil _)))) ?_
 refine GQ_then ?_
 refine G_seq ?_
 refine G_region ?_
 refine GL_step rfl (PS_move rfl) ?_
 refine GL_pure rfl cf44 (.cons rfl .nil) (fun w hS => telnet_place_spec _ w) ?_
 refine GL_step rfl (PS_move rfl) ?_
 refine GL_step rfl (PS_extract rfl rfl) ?_
 refine GL_step rfl (PS_extract rfl rfl) ?_
 refine GL_step rfl (PS_extract rfl rfl) ?_
 refine GL_step rfl (PS_assign rfl) ?_
 refine GL_step rfl (PS_assign rfl) ?_
 refine GL_step rfl (PS_assign rfl) ?_
 refine GL_nil ?_
 refine GQ_sub (.cons (k := 0) rfl (.cons (k := 1) rfl (.cons (k := 2) rfl (.cons (k := 7) rfl (.cons (k := 8) rfl (.cons (k := 9) rfl (.nil _))))))) ?_
 refine GQ_then ?_
 refine G_seq ?_
 refine G_seq ?_
 refine G_region ?_
 refine GL_step rfl (PS_move rfl) ?_
 refine GL_nil ?_
 refine GQ_sub (.cons (k := 0) rfl (.cons (k := 2) rfl (.cons (k := 7) rfl (.cons (k := 8) rfl (.cons (k := 9) rfl (.cons (k := 16) rfl (.nil _))))))) ?_
 refine GQ_then ?_
 refine G_block ?_
 refine G_seq ?_
 refine G_region ?_
 refine GL_step rfl (PS_eql rfl rfl) ?_
 refine GL_step rfl (PS_assign rfl) ?_
 refine GL_nil ?_
 refine GQ_sub (.cons (k := 0) rfl (.cons (k := 2) rfl (.cons (k := 7) rfl (.cons (k := 8) rfl (.cons (k := 9) rfl (.cons (k := 16) rfl (.cons (k := 17) rfl (.nil _)))))))) ?_
 refine GQ_then ?_
 refine G_cond rfl (fun c1 => ?_) (fun c1 => ?_)
 ·
  have c1p := kz c1
  refine G_seq ?_
  refine G_seq ?_
  refine G_region ?_
  refine GL_step rfl (PS_move rfl) ?_
  refine GL_step rfl (PS_not rfl) ?_
  refine GL_nil ?_
  refine GQ_sub (.cons (k := 0) rfl (.cons (k := 2) rfl (.cons (k := 7) rfl (.cons (k := 20) rfl (.nil _))))) ?_
  refine GQ_then ?_
  refine G_cond rfl (fun c2 => ?_) (fun c2 => ?_)
  ·
   have c2p := kz c2
   refine G_seq ?_
   refine G_region ?_
   refine GL_step rfl (PS_move rfl) ?_
   refine GL_pure rfl cf45 (.cons rfl (.cons rfl .nil)) (fun w hS => telnet_say_spec _ _ (by first | assumption | omega) (by first | assumption | omega) w) ?_
   refine GL_step rfl (PS_assign rfl) ?_
   refine GL_nil ?_
   refine GQ_sub (.cons (k := 6) rfl (.nil _)) ?_
   refine GQ_then ?_
   refine G_ret ?_
   refine GQ_then_ret ?_
   refine GQ_block_ret ?_
   refine GQ_then_ret ?_
   refine GQ_ret rfl (.tmp rfl .nil) ?_
   intro w1 hS
   have hS := (hS.perm (Pulls.perm (.cons .head .nil))).headL
   exact ⟨_, ⟨by simp only [Telnet.negotiate, c1, c2, ↓reduceIte, Bool.false_eq_true] <;> rfl, by simp only [Telnet.negotiate, c1, c2, ↓reduceIte, Bool.false_eq_true] <;> rfl⟩, hS⟩
  have c2p := kz c2
  have hk := Telnet.place_us (opt := opt) (by simpa using c2)
  have hk1 : 0 ≤ (Telnet.place opt).1 ∧ (Telnet.place opt).1 < 3 := by rcases hk with ⟨_, e⟩ | ⟨_, e⟩ <;> rw [e] <;> decide
  refine G_skip ?_
  refine GQ_sub (.cons (k := 0) rfl (.cons (k := 2) rfl (.cons (k := 7) rfl (.nil _)))) ?_
  refine GQ_then ?_
  refine G_seq ?_
  refine G_region ?_
  refine GL_step rfl (PS_move rfl) ?_
  refine GL_step rfl (PS_move rfl) ?_
  refine GL_step rfl (PS_nilCheck rfl) ?_
  refine GL_step rfl (PS_fieldAddr fa41_3 rfl) ?_
  refine GL_step rfl (PS_indexAddr ia39 rfl rfl (by omega) (by omega)) ?_
  refine GL_step rfl (PS_move rfl) ?_
  refine GL_callL rfl cf46 (.cons rfl (.cons rfl (.cons rfl (.cons rfl (.cons rfl .nil))))) (.cons .head .nil) (telnet_turn_spec _ _ _ _ _ _ _ (by first | assumption | omega) (by first | assumption | omega) (by first | assumption | omega) (Telnet.l3.comp (Lens.arr (n := 3) flI (by omega) (by omega)))) (fun v1 B hv => ?_)
  obtain ⟨rfl, rfl⟩ := hv
  refine GL_step rfl (PS_assign rfl) ?_
  refine GL_nil ?_
  refine GQ_sub (.cons (k := 6) rfl (.nil _)) ?_
  refine GQ_then ?_
  refine G_ret ?_
  refine GQ_block_ret ?_
  refine GQ_then_ret ?_
  refine GQ_ret rfl (.tmp rfl .nil) ?_
  intro w1 hS
  have hS := (hS.perm (Pulls.perm (.cons .head .nil))).headL
  exact ⟨_, ⟨by simp only [Telnet.negotiate, c1, c2, ↓reduceIte, Bool.false_eq_true] <;> rfl, by simp only [Telnet.negotiate, c1, c2, ↓reduceIte, Bool.false_eq_true] <;> rfl⟩, hS⟩
 have c1p := kz c1
 refine G_seq ?_
 refine G_region ?_
 refine GL_step rfl (PS_eql rfl rfl) ?_
 refine GL_step rfl (PS_assign rfl) ?_
 refine GL_nil ?_
 refine GQ_sub (.cons (k := 0) rfl (.cons (k := 2) rfl (.cons (k := 7) rfl (.cons (k := 8) rfl (.cons (k := 9) rfl (.cons (k := 16) rfl (.cons (k := 30) rfl (.nil _)))))))) ?_
 refine GQ_then ?_
 refine G_cond rfl (fun c3 => ?_) (fun c3 => ?_)
 ·
  have c3p := kz c3
  refine G_seq ?_
  refine G_region ?_
  refine GL_step rfl (PS_move rfl) ?_
  refine GL_nil ?_
  refine GQ_sub (.cons (k := 0) rfl (.cons (k := 2) rfl (.cons (k := 7) rfl (.cons (k := 32) rfl (.nil _))))) ?_
  refine GQ_then ?_
  refine G_cond rfl (fun c4 => ?_) (fun c4 => ?_)
  ·
   have c4p := kz c4
   have hk := Telnet.place_us (opt := opt) (by simpa using c4)
   have hk1 : 0 ≤ (Telnet.place opt).1 ∧ (Telnet.place opt).1 < 3 := by rcases hk with ⟨_, e⟩ | ⟨_, e⟩ <;> rw [e] <;> decide
   refine G_seq ?_
   refine G_region ?_
   refine GL_step rfl (PS_move rfl) ?_
   refine GL_step rfl (PS_move rfl) ?_
   refine GL_step rfl (PS_nilCheck rfl) ?_
   refine GL_step rfl (PS_fieldAddr fa41_3 rfl) ?_
   refine GL_step rfl (PS_indexAddr ia39 rfl rfl (by omega) (by omega)) ?_
   refine GL_step rfl (PS_move rfl) ?_
   refine GL_callL rfl cf46 (.cons rfl (.cons rfl (.cons rfl (.cons rfl (.cons rfl .nil))))) (.cons .head .nil) (telnet_turn_spec _ _ _ _ _ _ _ (by first | assumption | omega) (by first | assumption | omega) (by first | assumption | omega) (Telnet.l3.comp (Lens.arr (n := 3) flI (by omega) (by omega)))) (fun v2 B hv => ?_)
   obtain ⟨rfl, rfl⟩ := hv
   refine GL_step rfl (PS_assign rfl) ?_
   refine GL_nil ?_
   refine GQ_sub (.cons (k := 6) rfl (.nil _)) ?_
   refine GQ_then ?_
   refine G_ret ?_
   refine GQ_block_ret ?_
   refine GQ_then_ret ?_
   refine GQ_ret rfl (.tmp rfl .nil) ?_
   intro w1 hS
   have hS := (hS.perm (Pulls.perm (.cons .head .nil))).headL
   exact ⟨_, ⟨by simp only [Telnet.negotiate, c1, c3, c4, ↓reduceIte, Bool.false_eq_true] <;> rfl, by simp only [Telnet.negotiate, c1, c3, c4, ↓reduceIte, Bool.false_eq_true] <;> rfl⟩, hS⟩
  have c4p := kz c4
  refine G_skip ?_
  refine GQ_sub (.nil _) ?_
  refine GQ_block ?_
  refine GQ_then ?_
  refine G_seq ?_
  refine G_region ?_
  refine GL_step rfl (PS_assign rfl) ?_
  refine GL_nil ?_
  refine GQ_then ?_
  refine G_ret ?_
  refine GQ_ret rfl (.tmp rfl .nil) ?_
  intro w1 hS
  have hS := (hS.perm (Pulls.perm (.cons .head .nil))).headL
  exact ⟨_, ⟨by simp only [Telnet.negotiate, c1, c3, c4, ↓reduceIte, Bool.false_eq_true] <;> rfl, by simp only [Telnet.negotiate, c1, c3, c4, ↓reduceIte, Bool.false_eq_true] <;> rfl⟩, hS⟩
 have c3p := kz c3
 refine G_seq ?_
 refine G_region ?_
 refine GL_step rfl (PS_eql rfl rfl) ?_
 refine GL_step rfl (PS_assign rfl) ?_
 refine GL_nil ?_
 refine GQ_sub (.cons (k := 0) rfl (.cons (k := 2) rfl (.cons (k := 7) rfl (.cons (k := 9) rfl (.cons (k := 16) rfl (.cons (k := 40) rfl (.nil _))))))) ?_
 refine GQ_then ?_
 refine G_cond rfl (fun c5 => ?_) (fun c5 => ?_)
 ·
  have c5p := kz c5
  refine G_seq ?_
  refine G_seq ?_
  refine G_region ?_
  refine GL_step rfl (PS_move rfl) ?_
  refine GL_step rfl (PS_not rfl) ?_
  refine GL_nil ?_
  refine GQ_sub (.cons (k := 0) rfl (.cons (k := 2) rfl (.cons (k := 7) rfl (.cons (k := 43) rfl (.nil _))))) ?_
  refine GQ_then ?_
  refine G_cond rfl (fun c6 => ?_) (fun c6 => ?_)
  ·
   have c6p := kz c6
   refine G_seq ?_
   refine G_region ?_
   refine GL_step rfl (PS_move rfl) ?_
   refine GL_pure rfl cf45 (.cons rfl (.cons rfl .nil)) (fun w hS => telnet_say_spec _ _ (by first | assumption | omega) (by first | assumption | omega) w) ?_
   refine GL_step rfl (PS_assign rfl) ?_
   refine GL_nil ?_
   refine GQ_sub (.cons (k := 6) rfl (.nil _)) ?_
   refine GQ_then ?_
   refine G_ret ?_
   refine GQ_then_ret ?_
   refine GQ_block_ret ?_
   refine GQ_then_ret ?_
   refine GQ_ret rfl (.tmp rfl .nil) ?_
   intro w1 hS
   have hS := (hS.perm (Pulls.perm (.cons .head .nil))).headL
   exact ⟨_, ⟨by simp only [Telnet.negotiate, c1, c3, c5, c6, ↓reduceIte, Bool.false_eq_true] <;> rfl, by simp only [Telnet.negotiate, c1, c3, c5, c6, ↓reduceIte, Bool.false_eq_true] <;> rfl⟩, hS⟩
  have c6p := kz c6
  have hk := Telnet.place_them (opt := opt) (by simpa using c6)
  have hk1 : 0 ≤ (Telnet.place opt).1 ∧ (Telnet.place opt).1 < 3 := by rcases hk with ⟨_, e⟩ | ⟨_, e⟩ <;> rw [e] <;> decide
  refine G_skip ?_
  refine GQ_sub (.cons (k := 0) rfl (.cons (k := 2) rfl (.cons (k := 7) rfl (.nil _)))) ?_
  refine GQ_then ?_
  refine G_seq ?_
  refine G_region ?_
  refine GL_step rfl (PS_move rfl) ?_
  refine GL_step rfl (PS_move rfl) ?_
  refine GL_step rfl (PS_nilCheck rfl) ?_
  refine GL_step rfl (PS_fieldAddr fa41_4 rfl) ?_
  refine GL_step rfl (PS_indexAddr ia39 rfl rfl (by omega) (by omega)) ?_
  refine GL_step rfl (PS_move rfl) ?_
  refine GL_callL rfl cf46 (.cons rfl (.cons rfl (.cons rfl (.cons rfl (.cons rfl .nil))))) (.cons .head .nil) (telnet_turn_spec _ _ _ _ _ _ _ (by first | assumption | omega) (by first | assumption | omega) (by first | assumption | omega) (Telnet.l4.comp (Lens.arr (n := 3) flI (by omega) (by omega)))) (fun v3 B hv => ?_)
  obtain ⟨rfl, rfl⟩ := hv
  refine GL_step rfl (PS_assign rfl) ?_
  refine GL_nil ?_
  refine GQ_sub (.cons (k := 6) rfl (.nil _)) ?_
  refine GQ_then ?_
  refine G_ret ?_
  refine GQ_block_ret ?_
  refine GQ_then_ret ?_
  refine GQ_ret rfl (.tmp rfl .nil) ?_
  intro w1 hS
  have hS := (hS.perm (Pulls.perm (.cons .head .nil))).headL
  exact ⟨_, ⟨by simp only [Telnet.negotiate, c1, c3, c5, c6, ↓reduceIte, Bool.false_eq_true] <;> rfl, by simp only [Telnet.negotiate, c1, c3, c5, c6, ↓reduceIte, Bool.false_eq_true] <;> rfl⟩, hS⟩
 have c5p := kz c5
 refine G_seq ?_
 refine G_region ?_
 refine GL_step rfl (PS_eql rfl rfl) ?_
 refine GL_step rfl (PS_assign rfl) ?_
 refine GL_nil ?_
 refine GQ_sub (.cons (k := 0) rfl (.cons (k := 2) rfl (.cons (k := 7) rfl (.cons (k := 9) rfl (.cons (k := 53) rfl (.nil _)))))) ?_
 refine GQ_then ?_
 refine G_cond rfl (fun c7 => ?_) (fun c7 => ?_)
 ·
  have c7p := kz c7
  refine G_seq ?_
  refine G_region ?_
  refine GL_step rfl (PS_move rfl) ?_
  refine GL_nil ?_
  refine GQ_sub (.cons (k := 0) rfl (.cons (k := 2) rfl (.cons (k := 7) rfl (.cons (k := 55) rfl (.nil _))))) ?_
  refine GQ_then ?_
  refine G_cond rfl (fun c8 => ?_) (fun c8 => ?_)
  ·
   have c8p := kz c8
   have hk := Telnet.place_them (opt := opt) (by simpa using c8)
   have hk1 : 0 ≤ (Telnet.place opt).1 ∧ (Telnet.place opt).1 < 3 := by rcases hk with ⟨_, e⟩ | ⟨_, e⟩ <;> rw [e] <;> decide
   refine G_seq ?_
   refine G_region ?_
   refine GL_step rfl (PS_move rfl) ?_
   refine GL_step rfl (PS_move rfl) ?_
   refine GL_step rfl (PS_nilCheck rfl) ?_
   refine GL_step rfl (PS_fieldAddr fa41_4 rfl) ?_
   refine GL_step rfl (PS_indexAddr ia39 rfl rfl (by omega) (by omega)) ?_
   refine GL_step rfl (PS_move rfl) ?_
   refine GL_callL rfl cf46 (.cons rfl (.cons rfl (.cons rfl (.cons rfl (.cons rfl .nil))))) (.cons .head .nil) (telnet_turn_spec _ _ _ _ _ _ _ (by first | assumption | omega) (by first | assumption | omega) (by first | assumption | omega) (Telnet.l4.comp (Lens.arr (n := 3) flI (by omega) (by omega)))) (fun v4 B hv => ?_)
   obtain ⟨rfl, rfl⟩ := hv
   refine GL_step rfl (PS_assign rfl) ?_
   refine GL_nil ?_
   refine GQ_sub (.cons (k := 6) rfl (.nil _)) ?_
   refine GQ_then ?_
   refine G_ret ?_
   refine GQ_block_ret ?_
   refine GQ_then_ret ?_
   refine GQ_ret rfl (.tmp rfl .nil) ?_
   intro w1 hS
   have hS := (hS.perm (Pulls.perm (.cons .head .nil))).headL
   exact ⟨_, ⟨by simp only [Telnet.negotiate, c1, c3, c5, c7, c8, ↓reduceIte, Bool.false_eq_true] <;> rfl, by simp only [Telnet.negotiate, c1, c3, c5, c7, c8, ↓reduceIte, Bool.false_eq_true] <;> rfl⟩, hS⟩
  have c8p := kz c8
  refine G_skip ?_
  refine GQ_sub (.nil _) ?_
  refine GQ_block ?_
  refine GQ_then ?_
  refine G_seq ?_
  refine G_region ?_
  refine GL_step rfl (PS_assign rfl) ?_
  refine GL_nil ?_
  refine GQ_then ?_
  refine G_ret ?_
  refine GQ_ret rfl (.tmp rfl .nil) ?_
  intro w1 hS
  have hS := (hS.perm (Pulls.perm (.cons .head .nil))).headL
  exact ⟨_, ⟨by simp only [Telnet.negotiate, c1, c3, c5, c7, c8, ↓reduceIte, Bool.false_eq_true] <;> rfl, by simp only [Telnet.negotiate, c1, c3, c5, c7, c8, ↓reduceIte, Bool.false_eq_true] <;> rfl⟩, hS⟩
 have c7p := kz c7
 refine G_skip ?_
 refine GQ_sub (.nil _) ?_
 refine GQ_block ?_
 refine GQ_then ?_
 refine G_seq ?_
 refine G_region ?_
 refine GL_step rfl (PS_assign rfl) ?_
 refine GL_nil ?_
 refine GQ_then ?_
 refine G_ret ?_
 refine GQ_ret rfl (.tmp rfl .nil) ?_
 intro w1 hS
 have hS := (hS.perm (Pulls.perm (.cons .head .nil))).headL
 exact ⟨_, ⟨by simp only [Telnet.negotiate, c1, c3, c5, c7, ↓reduceIte, Bool.false_eq_true] <;> rfl, by simp only [Telnet.negotiate, c1, c3, c5, c7, ↓reduceIte, Bool.false_eq_true] <;> rfl⟩, hS⟩
theorem strings_Builder_WriteString_spec (b : Nat) (p : Option Addr) (h : Hd) (s : Str) (hp : p = none ∨ p = some ⟨b, 0, none⟩) (hz : h.Z) (hl : h.len = s.length) (t : Str) (hb : s.length + t.length < 140737488355000 ∨ s.length + t.length ≤ h.cap) : Ctr Tryd.prog 34 #[.pointer (some ⟨b, 0, none⟩), vstr t] [Res.box b 52 (BldV.enc ⟨p, h⟩), Res.own h 5 1 (s.flatMap encY)] (fun v B => ∃ p' h', v = .tuple #[.int .i64 t.length, .nilIface] ∧ (p' = none ∨ p' = some ⟨b, 0, none⟩) ∧ h'.Z ∧ h'.len = (s ++ t).length ∧ (s.length + t.length ≤ h.cap → h'.cap = h.cap) ∧ B = [Res.box b 52 (BldV.enc ⟨p', h'⟩), Res.own h' 5 1 ((s ++ t).flatMap encY)]) := by
 intro w hS0
 refine Ret_body _ _ Tryd.func34 rfl rfl rfl (hS0) ?_
 refine G_seq ?_
 refine G_region ?_
 refine GL_step rfl (PS_assign rfl) ?_
 refine GL_step rfl (PS_assign rfl) ?_
 refine GL_nil ?_
 refine GQ_sub (.cons (k := 0) rfl (.cons (k := 1) rfl (.nil _))) ?_
 refine GQ_then ?_
 refine G_seq ?_
 refine G_region ?_
 refine GL_step rfl (PS_move rfl) ?_
 refine GL_callL rfl cf43 (.cons rfl .nil) (.cons .head .nil) (strings_Builder_copyCheck_spec _ _ _ (by first | assumption | omega)) (fun v1 B hv => ?_)
 obtain ⟨rfl, rfl⟩ := hv
 refine GL_nil ?_
 refine GQ_sub (.cons (k := 0) rfl (.cons (k := 1) rfl (.nil _))) ?_
 refine GQ_then ?_
 refine G_seq ?_
 refine G_region ?_
 refine GL_step rfl (PS_move rfl) ?_
 refine GL_step rfl (PS_move rfl) ?_
 refine GL_step rfl (PS_nilCheck rfl) ?_
 refine GL_step rfl (PS_fieldAddr fa52_1 rfl) ?_
 refine GL_step rfl (PS_load rfl tys50 (.head _) BldV.l1 rfl rfl) ?_
 refine GL_step rfl (PS_move rfl) ?_
 refine GL_appendR rfl Tryd.underlying50 sz5 zv5 rfl by5 (by decide) (by decide) rfl rfl (fun _ _ => Src.str Tryd.underlying9) flY.allOne (by dsimp only; omega) (fun _ => (.tail .head)) (fun h2 h2l h2z => ?_)
 obtain ⟨h2z, h2c⟩ := h2z; have h2z := h2z hz; dsimp only at h2l h2c; have hcz : s.length + t.length ≤ h.cap → h2.cap = h.cap := by rw [← hl]; exact h2c
 refine GL_step rfl (PS_nilCheck rfl) ?_
 refine GL_step rfl (PS_fieldAddr fa52_1 rfl) ?_
 refine GL_unit (PU_store BldV.l1 rfl rfl rfl sz50 rfl .head) ?_
 refine GL_nil ?_
 refine GQ_sub (.cons (k := 1) rfl (.nil _)) ?_
 refine GQ_then ?_
 refine G_seq ?_
 refine G_region ?_
 refine GL_step rfl (PS_move rfl) ?_
 refine GL_step rfl (PS_len_str rfl Tryd.underlying9 rfl) ?_
 refine GL_step rfl (PS_assign rfl) ?_
 refine GL_step rfl (PS_assign rfl) ?_
 refine GL_nil ?_
 refine GQ_sub (.cons (k := 4) rfl (.cons (k := 5) rfl (.nil _))) ?_
 refine GQ_then ?_
 refine G_ret ?_
 refine GQ_ret rfl (.tmp rfl (.tmp rfl .nil)) ?_
 intro w1 hS
 have hS := (hS.perm (Pulls.perm (.cons .head (.cons .head .nil)))).headL
 exact ⟨_, ⟨_, _, rfl, .inr rfl, by assumption, by simp; omega, hcz, by rw [List.flatMap_append]⟩, hS⟩
theorem telnet_collect_spec (b : Nat) (X : Telnet) (c : UInt8) (h0 : X.sub.length ≤ 16) : Ctr Tryd.prog 36 #[.pointer (some ⟨b, 0, none⟩), .int .u8 (c.toNat : Int)] [Res.box b 41 X.enc] (fun v B => v = .tuple #[] ∧ B = [Res.box b 41 (X.collect c).enc]) := by
 intro w hS0
 refine Ret_body _ _ Tryd.func36 rfl rfl rfl (hS0) ?_
 refine G_seq ?_
 refine G_region ?_
 refine GL_step rfl (PS_move rfl) ?_
 refine GL_step rfl (PS_nilCheck rfl) ?_
 refine GL_step rfl (PS_fieldAddr fa41_2 rfl) ?_
 refine GL_step rfl (PS_load rfl tys9 (.head _) Telnet.l2 rfl rfl) ?_
 refine GL_step rfl (PS_len_str rfl Tryd.underlying9 rfl) ?_
 refine GL_step rfl (PS_lss rfl rfl) ?_
 refine GL_nil ?_
 refine GQ_sub (.cons (k := 0) rfl (.cons (k := 1) rfl (.cons (k := 9) rfl (.nil _)))) ?_
 refine GQ_then ?_
 refine G_cond rfl (fun c1 => ?_) (fun c1 => ?_)
 ·
  have c1p := kz c1
  refine G_planN (N := 11) [0, 1, 3, 7, 0, 16, 48, 127, 255, 511, 1023] mix (by kernel_rfl) rfl ?_
  refine Plan_float 0 rfl rfl (by kernel_rfl) (OK_s (EX_s (PS_move rfl))) ?_
  refine Plan_float 1 rfl rfl (by kernel_rfl) (OK_s (EX_s (PS_nilCheck rfl))) ?_
  refine Plan_float 2 rfl rfl (by kernel_rfl) (OK_s (EX_s (PS_fieldAddr fa41_2 rfl))) ?_
  refine Plan_float 3 rfl rfl (by kernel_rfl) (OK_s (EX_s (PS_load rfl tys9 (.head _) Telnet.l2 rfl rfl))) ?_
  refine Plan_float 4 rfl rfl (by kernel_rfl) (OK_s (EX_s (PS_move rfl))) ?_
  refine Plan_chain 5 rfl (by kernel_rfl) ?_
  refine GL_bs1 rfl Tryd.underlying50 sz5 zv5 rfl (by decide) (by decide) rfl rfl rfl (fun b1 => ?_)
  refine GL_hand rfl ⟨?_, ?_⟩
  · exact (Pend_skip (by kernel_rfl) (Pend_okv rfl (OK_s (EX_s (PS_load rfl tys9 (.tail _ (.head _)) Telnet.l2 rfl rfl))) rfl rfl (Pend_okv rfl (OK_s (EX_s (PS_fieldAddr fa41_2 rfl))) rfl rfl (Pend_okv rfl (OK_s (EX_s (PS_nilCheck rfl))) rfl rfl (Pend_okv rfl (OK_s (EX_s (PS_move rfl))) rfl rfl Pend_nil)))))
  refine Plan_float 6 rfl rfl (by kernel_rfl) (OK_s (EX_s (PS_stringE (s := [c]) rfl Tryd.underlying50 Tryd.underlying9 Tryd.underlying5 rfl (Kn.own (.head _))))) ?_
  refine Plan_float 7 rfl rfl (by kernel_rfl) (OK_s (EX_s (PS_add_str rfl rfl (by simp only [List.length_cons, List.length_nil]; omega)))) ?_
  refine Plan_float 8 rfl rfl (by kernel_rfl) (OK_s (EX_s (PS_nilCheck rfl))) ?_
  refine Plan_float 9 rfl rfl (by kernel_rfl) (OK_s (EX_s (PS_fieldAddr fa41_2 rfl))) ?_
  refine Plan_chain 10 rfl (by kernel_rfl) ?_
  refine GL_unit (PU_store Telnet.l2 rfl rfl rfl sz9 rfl (.tail .head)) ?_
  refine GL_hand0 rfl ⟨?_, ?_⟩
  · exact (Pend_skip (by kernel_rfl) (Pend_skip (by kernel_rfl) (Pend_skip (by kernel_rfl) (Pend_skip (by kernel_rfl) (Pend_skip (by kernel_rfl) (Pend_skip (by kernel_rfl) (Pend_skip (by kernel_rfl) (Pend_skip (by kernel_rfl) (Pend_skip (by kernel_rfl) Pend_nil)))))))))
  refine Plan_end (by kernel_rfl) ?_
  refine GQ_end rfl .nil ?_
  intro w1 hS
  have hS := (hS.perm (Pulls.perm (.cons (.tail .head) .nil))).headL
  exact ⟨_, ⟨rfl, by simp only [Telnet.collect, c1, ↓reduceIte, Bool.false_eq_true]⟩, hS⟩
 have c1p := kz c1
 refine G_skip ?_
 refine GQ_end rfl .nil ?_
 intro w1 hS
 have hS := (hS.perm (Pulls.perm (.cons .head .nil))).headL
 exact ⟨_, ⟨rfl, by simp only [Telnet.collect, c1, ↓reduceIte, Bool.false_eq_true]⟩, hS⟩
theorem telnet_measure_spec (b : Nat) (X : Telnet) : Ctr Tryd.prog 37 #[.pointer (some ⟨b, 0, none⟩)] [Res.box b 41 X.enc] (fun v B => v = .tuple #[] ∧ B = [Res.box b 41 X.measure.enc]) := by
 intro w hS0
 refine Ret_body _ _ Tryd.func37 rfl rfl rfl (hS0) ?_
 refine G_seq ?_
 refine G_region ?_
 refine GL_step rfl (PS_move rfl) ?_
 refine GL_step rfl (PS_nilCheck rfl) ?_
 refine GL_step rfl (PS_fieldAddr fa41_2 rfl) ?_
 refine GL_step rfl (PS_load rfl tys9 (.head _) Telnet.l2 rfl rfl) ?_
 refine GL_step rfl (PS_len_str rfl Tryd.underlying9 rfl) ?_
 refine GL_step rfl (PS_eql rfl rfl) ?_
 refine GL_step rfl (PS_move rfl) ?_
 refine GL_gt (t := 8) rfl rfl rfl (fun q => PS_move rfl) ?_
 refine GL_gt (t := 8) rfl rfl rfl (fun q => PS_nilCheck (cvE rfl q)) ?_
 refine GL_gt (t := 8) rfl rfl rfl (fun q => PS_fieldAddr fa41_2 (cvE rfl q)) ?_
 refine GL_gt (t := 8) rfl rfl rfl (fun q => PS_load (cvE rfl q) tys9 (.head _) Telnet.l2 rfl rfl) ?_
 refine GL_gt (t := 8) rfl rfl rfl (fun q => by have q1 := q; (try simp at q1); exact PS_index_str Tryd.underlying9 (cvE rfl q) rfl (by decide) (by omega)) ?_
 refine GL_gt (t := 8) rfl rfl rfl (fun q => PS_eql (cvE rfl q) rfl) ?_
 refine GL_step rfl (PS_and rfl rfl (fun h => h)) ?_
 refine GL_step rfl (PS_move rfl) ?_
 refine GL_gt (t := 16) rfl rfl rfl (fun q => PS_move rfl) ?_
 refine GL_gt (t := 16) rfl rfl rfl (fun q => PS_nilCheck (cvE rfl q)) ?_
 refine GL_gt (t := 16) rfl rfl rfl (fun q => PS_fieldAddr fa41_4 (cvE rfl q)) ?_
 refine GL_gt (t := 16) rfl rfl rfl (fun q => PS_indexAddr ia39 (cvE rfl q) rfl (by decide) (by decide)) ?_
 refine GL_gt (t := 16) rfl rfl rfl (fun q => PS_load (cvE rfl q) tys3 (.head _) (Telnet.l4.comp (Lens.arr (n := 3) flI (by decide) (by decide))) rfl rfl) ?_
 refine GL_gt (t := 16) rfl rfl rfl (fun q => PS_eql (cvE rfl q) rfl) ?_
 refine GL_step rfl (PS_and rfl rfl (fun h => h)) ?_
 refine GL_nil ?_
 refine GQ_sub (.cons (k := 0) rfl (.cons (k := 23) rfl (.nil _))) ?_
 refine GQ_then ?_
 refine G_cond rfl (fun c1 => ?_) (fun c1 => ?_)
 ·
  have c1p := kz c1
  refine G_planN (N := 19) [0, 0, 2, 6, 14, 30, 62, 126, 0, 256, 768, 1792, 3840, 7936, 16382, 32766, 65535, 131071, 262143] mix (by kernel_rfl) rfl ?_
  refine Plan_float 0 rfl rfl (by kernel_rfl) (OK_s (EX_s (PS_move rfl))) ?_
  refine Plan_float 1 rfl rfl (by kernel_rfl) (OK_s (EX_s (PS_move rfl))) ?_
  refine Plan_float 2 rfl rfl (by kernel_rfl) (OK_s (EX_s (PS_nilCheck rfl))) ?_
  refine Plan_float 3 rfl rfl (by kernel_rfl) (OK_s (EX_s (PS_fieldAddr fa41_2 rfl))) ?_
  refine Plan_float 4 rfl rfl (by kernel_rfl) (OK_s (EX_s (PS_load rfl tys9 (.head _) Telnet.l2 rfl rfl))) ?_
  refine Plan_float 5 rfl rfl (by kernel_rfl) (OK_s (EX_s (PS_index_str Tryd.underlying9 rfl rfl (by decide) (by omega)))) ?_
  refine Plan_float 6 rfl rfl (by kernel_rfl) (OK_s (EX_s (PS_u8i Tryd.underlying3 Tryd.underlying5 rfl))) ?_
  refine Plan_float 7 rfl rfl (by kernel_rfl) (OK_s (EX_s (PS_shl8 rfl rfl))) ?_
  refine Plan_float 8 rfl rfl (by kernel_rfl) (OK_s (EX_s (PS_move rfl))) ?_
  refine Plan_float 9 rfl rfl (by kernel_rfl) (OK_s (EX_s (PS_nilCheck rfl))) ?_
  refine Plan_float 10 rfl rfl (by kernel_rfl) (OK_s (EX_s (PS_fieldAddr fa41_2 rfl))) ?_
  refine Plan_float 11 rfl rfl (by kernel_rfl) (OK_s (EX_s (PS_load rfl tys9 (.head _) Telnet.l2 rfl rfl))) ?_
  refine Plan_float 12 rfl rfl (by kernel_rfl) (OK_s (EX_s (PS_index_str Tryd.underlying9 rfl rfl (by decide) (by omega)))) ?_
  refine Plan_float 13 rfl rfl (by kernel_rfl) (OK_s (EX_s (PS_u8i Tryd.underlying3 Tryd.underlying5 rfl))) ?_
  refine Plan_float 14 rfl rfl (by kernel_rfl) (OK_s (EX_s (PS_or8 rfl rfl))) ?_
  refine Plan_float 15 rfl rfl (by kernel_rfl) (OK_s (EX_s (PS_min2 rfl rfl))) ?_
  refine Plan_float 16 rfl rfl (by kernel_rfl) (OK_s (EX_s (PS_nilCheck rfl))) ?_
  refine Plan_float 17 rfl rfl (by kernel_rfl) (OK_s (EX_s (PS_fieldAddr fa41_5 rfl))) ?_
  refine Plan_chain 18 rfl (by kernel_rfl) ?_
  refine GL_unit (PU_store Telnet.l5 rfl rfl rfl sz3 rfl .head) ?_
  refine GL_hand0 rfl ⟨?_, ?_⟩
  · exact (Pend_skip (by kernel_rfl) (Pend_skip (by kernel_rfl) (Pend_skip (by kernel_rfl) (Pend_skip (by kernel_rfl) (Pend_skip (by kernel_rfl) (Pend_skip (by kernel_rfl) (Pend_skip (by kernel_rfl) (Pend_skip (by kernel_rfl) (Pend_skip (by kernel_rfl) (Pend_skip (by kernel_rfl) (Pend_skip (by kernel_rfl) (Pend_skip (by kernel_rfl) (Pend_skip (by kernel_rfl) (Pend_skip (by kernel_rfl) (Pend_skip (by kernel_rfl) (Pend_skip (by kernel_rfl) (Pend_skip (by kernel_rfl) (Pend_skip (by kernel_rfl) Pend_nil))))))))))))))))))
  refine Plan_end (by kernel_rfl) ?_
  refine GQ_end rfl .nil ?_
  intro w1 hS
  have hS := (hS.perm (Pulls.perm (.cons .head .nil))).headL
  exact ⟨_, ⟨rfl, by rw [show X.measure = _ from if_t c1]; rfl⟩, hS⟩
 have c1p := kz c1
 refine G_skip ?_
 refine GQ_end rfl .nil ?_
 intro w1 hS
 have hS := (hS.perm (Pulls.perm (.cons .head .nil))).headL
 exact ⟨_, ⟨rfl, by rw [show X.measure = _ from if_f c1]⟩, hS⟩
theorem strings_Builder_String_spec (b : Nat) (p : Option Addr) (h : Hd) (s : Str) (hz : h.Z) (hl : h.len = s.length) (hb : s.length < 9000000000000000000) : Ctr Tryd.prog 38 #[.pointer (some ⟨b, 0, none⟩)] [Res.box b 52 (BldV.enc ⟨p, h⟩), Res.own h 5 1 (s.flatMap encY)] (fun v B => v = vstr s ∧ B = [Res.box b 52 (BldV.enc ⟨p, h⟩)]) := by
 intro w hS0
 refine Ret_body _ _ Tryd.func38 rfl rfl rfl (hS0) ?_
 refine G_seq ?_
 refine G_region ?_
 refine GL_step rfl (PS_assign rfl) ?_
 refine GL_nil ?_
 refine GQ_sub (.cons (k := 0) rfl (.nil _)) ?_
 refine GQ_then ?_
 refine G_seq ?_
 refine G_planN (N := 12) [0, 1, 3, 7, 15, 0, 32, 96, 224, 480, 1023, 2047] mix (by kernel_rfl) rfl ?_
 refine Plan_float 0 rfl rfl (by kernel_rfl) (OK_s (EX_s (PS_move rfl))) ?_
 refine Plan_float 1 rfl rfl (by kernel_rfl) (OK_s (EX_s (PS_nilCheck rfl))) ?_
 refine Plan_float 2 rfl rfl (by kernel_rfl) (OK_s (EX_s (PS_fieldAddr fa52_1 rfl))) ?_
 refine Plan_float 3 rfl rfl (by kernel_rfl) (OK_s (EX_s (PS_load rfl tys50 (.head _) BldV.l1 rfl rfl))) ?_
 refine Plan_float 4 rfl rfl (by kernel_rfl) (OK_s (EX_s (PS_sliceData rfl (by assumption)))) ?_
 refine Plan_float 5 rfl rfl (by kernel_rfl) (OK_s (EX_s (PS_move rfl))) ?_
 refine Plan_float 6 rfl rfl (by kernel_rfl) (OK_s (EX_s (PS_nilCheck rfl))) ?_
 refine Plan_float 7 rfl rfl (by kernel_rfl) (OK_s (EX_s (PS_fieldAddr fa52_1 rfl))) ?_
 refine Plan_float 8 rfl rfl (by kernel_rfl) (OK_s (EX_s (PS_load rfl tys50 (.head _) BldV.l1 rfl rfl))) ?_
 refine Plan_float 9 rfl rfl (by kernel_rfl) (OK_s (EX_s (PS_len_slice rfl Tryd.underlying50 rfl))) ?_
 refine Plan_chain 10 rfl (by kernel_rfl) ?_
 refine GL_unsafeString rfl Tryd.underlying73 ce5 rfl rfl (by assumption) (by omega) (.tail .head) ?_
 refine GL_hand rfl ⟨?_, ?_⟩
 · exact (Pend_skip (by kernel_rfl) (Pend_skip (by kernel_rfl) (Pend_skip (by kernel_rfl) (Pend_skip (by kernel_rfl) (Pend_skip (by kernel_rfl) (Pend_skip (by kernel_rfl) (Pend_skip (by kernel_rfl) (Pend_skip (by kernel_rfl) (Pend_skip (by kernel_rfl) (Pend_skip (by kernel_rfl) Pend_nil))))))))))
 refine Plan_float 11 rfl rfl (by kernel_rfl) (OK_s (EX_s (PS_assign rfl))) ?_
 refine Plan_end (by kernel_rfl) ?_
 refine GQ_sub (.cons (k := 2) rfl (.nil _)) ?_
 refine GQ_then ?_
 refine G_ret ?_
 refine GQ_ret rfl (.tmp rfl .nil) ?_
 intro w1 hS
 have hS := (hS.perm (Pulls.perm (.cons .head .nil))).headL
 exact ⟨_, ⟨rfl, rfl⟩, hS⟩
theorem telnet_Feed_spec (X : Telnet) (u : Str) (hu : u.length ≤ 281474976702464) (hm : (X.feed u).2.1.length ≤ 140737488351232) (hn : (X.feed u).2.2.length ≤ 140737488351232) (w : World) : Ret Tryd.prog 23 #[.agg X.enc.toArray, vstr u] w fun v w' => v = .tuple #[.agg (X.Feed u).1.enc.toArray, vstr (X.Feed u).2.1, vstr (X.Feed u).2.2.1, .int .i64 (X.Feed u).2.2.2] ∧ Keep w w' := by
 refine Ret_body [] [] Tryd.func23 rfl rfl rfl (St.start w []) ?_
 refine G_seq ?_
 refine G_region ?_
 refine GL_box rfl rfl rfl (fun b1 => ?_)
 refine GL_alloc rfl zv41 rfl (fun b2 => ?_)
 refine GL_step rfl (PS_assign rfl) ?_
 refine GL_step rfl (PS_assign rfl) ?_
 refine GL_step rfl (PS_assign rfl) ?_
 refine GL_nil ?_
 refine GQ_sub (.cons (k := 1) rfl (.cons (k := 2) rfl (.cons (k := 4) rfl (.nil _)))) ?_
 refine GQ_then ?_
 refine G_seq ?_
 refine G_seq ?_
 refine G_region ?_
 refine GL_step rfl (PS_loadA rfl tya41 (.tail _ (.head _)) (Lens.id Telnet.fl.len Telnet.fl.one) rfl) ?_
 refine GL_pure rfl cf25 (.cons rfl .nil) (fun w hS => telnet_Good_spec _ w) ?_
 refine GL_step rfl (PS_not rfl) ?_
 refine GL_nil ?_
 refine GQ_sub (.cons (k := 1) rfl (.cons (k := 2) rfl (.cons (k := 4) rfl (.cons (k := 15) rfl (.nil _))))) ?_
 refine GQ_then ?_
 refine G_cond rfl (fun c1 => ?_) (fun c1 => ?_)
 ·
  have c1p := kz c1
  refine G_seq ?_
  refine G_region ?_
  refine GL_step rfl (PS_loadA rfl tya41 (.tail _ (.head _)) (Lens.id Telnet.fl.len Telnet.fl.one) rfl) ?_
  refine GL_unit (PU_store (Lens.id Telnet.fl.len Telnet.fl.one) rfl rfl rfl sz41 rfl .head) ?_
  refine GL_step rfl (PS_assign rfl) ?_
  refine GL_step rfl (PS_assign rfl) ?_
  refine GL_step rfl (PS_assign rfl) ?_
  refine GL_nil ?_
  refine GQ_sub (.cons (k := 4) rfl (.cons (k := 5) rfl (.cons (k := 6) rfl (.cons (k := 7) rfl (.nil _))))) ?_
  refine GQ_then ?_
  refine G_ret ?_
  refine GQ_then_ret ?_
  refine GQ_ret rfl (.cell rfl (.head _) (.inl ⟨(by rw [Telnet.fl.len]; exact tya41), rfl⟩) (.tmp rfl (.tmp rfl (.tmp rfl .nil)))) ?_
  intro w1 hS; refine ⟨?_, hS.toKeep⟩; rw [show X.Feed u = _ from if_t c1]; rfl
 have c1p := kz c1
 have hg : X.good = true := by simpa using c1
 refine G_skip ?_
 refine GQ_sub (.cons (k := 1) rfl (.cons (k := 2) rfl (.cons (k := 4) rfl (.nil _)))) ?_
 refine GQ_then ?_
 refine G_seq ?_
 refine G_region ?_
 refine GL_alloc rfl zv52 rfl (fun b3 => ?_)
 refine GL_nilF encY 5 1 ?_
 refine GL_alloc rfl zv52 rfl (fun b4 => ?_)
 refine GL_nilF encY 5 1 ?_
 refine GL_nil ?_
 refine GQ_then ?_
 refine G_seq ?_
 refine G_seq ?_
 refine G_region ?_
 refine GL_step rfl (PS_move rfl) ?_
 refine GL_bytes rfl Tryd.underlying9 Tryd.underlying50 Tryd.underlying5 rfl (fun h1 h1l => ?_)
 refine GL_step rfl (PS_len_slice rfl Tryd.underlying50 rfl) ?_
 refine GL_step rfl (PS_move rfl) ?_
 refine GL_nil ?_
 refine GQ_sub (.cons (k := 2) rfl (.cons (k := 4) rfl (.cons (k := 8) rfl (.cons (k := 9) rfl (.cons (k := 18) rfl (.cons (k := 19) rfl (.cons (k := 20) rfl (.nil _)))))))) ?_
 refine GQ_then ?_
 refine G_block ?_
 refine G_subF (.cons (k := 20) rfl (.cons (k := 2) rfl (.cons (k := 4) rfl (.cons (k := 8) rfl (.cons (k := 9) rfl (.cons (k := 18) rfl (.cons (k := 19) rfl (.nil _)))))))) ?_
 refine G_pull (.tail (.tail (.tail (.tail (.tail (.tail .head)))))) ?_
 refine G_pull (.tail (.tail (.tail (.tail (.tail .head))))) ?_
 refine G_pull (.tail (.tail (.tail (.tail (.tail .head))))) ?_
 refine G_pull (.tail (.tail (.tail (.tail (.tail .head))))) ?_
 refine G_pull (.tail (.tail (.tail (.tail (.tail .head))))) ?_
 refine G_loop8_ (fun (k : Int) (t : Telnet) (x : Str) (y : Str) (p : Option Addr) (h : Hd) (q : Option Addr) (g : Hd) => Telnet.FeedI X u k t x y ∧ (p = none ∨ p = some ⟨b3, 0, none⟩) ∧ h.Z ∧ h.len = x.length ∧ (q = none ∨ q = some ⟨b4, 0, none⟩) ∧ g.Z ∧ g.len = y.length) (fun (k : Int) (t : Telnet) (x : Str) (y : Str) (p : Option Addr) (h : Hd) (q : Option Addr) (g : Hd) => ((u.length : Int) - k).toNat) (fun (k : Int) (t : Telnet) (x : Str) (y : Str) (p : Option Addr) (h : Hd) (q : Option Addr) (g : Hd) => [(20, .int .i64 k)]) (fun (k : Int) (t : Telnet) (x : Str) (y : Str) (p : Option Addr) (h : Hd) (q : Option Addr) (g : Hd) => [Res.own g 5 1 (y.flatMap encY), Res.box b4 52 (BldV.enc ⟨q, g⟩), Res.own h 5 1 (x.flatMap encY), Res.box b3 52 (BldV.enc ⟨p, h⟩), Res.box b1 41 (Telnet.enc t)]) (0) (X) ([]) ([]) (none) (⟨none, 0, 0⟩) (none) (⟨none, 0, 0⟩) ?_ rfl rfl (fun k t x y p h q g hI1 => ?_)
 · exact ⟨Telnet.FeedI.start (Telnet.good_sub hg), .inl rfl, Hd.Z_nil, rfl, .inl rfl, Hd.Z_nil, rfl⟩
 obtain ⟨hI11, hp, hz, hl, hq, hzg, hlg⟩ := hI1; have hk0 := hI11.k0; have hk1 := hI11.k1; have hsub := hI11.sub; have hxl := hI11.xl; have hyl := hI11.yl; have hc8 := (u.getD k.toNat 0).toNat_lt; have hxb := FeedI.xb hI11
 refine G_seq ?_
 refine G_region ?_
 refine GL_step rfl (PS_lss rfl rfl) ?_
 refine GL_nil ?_
 refine GQ_then ?_
 refine G_seq ?_
 refine G_cond rfl (fun c2 => ?_) (fun c2 => ?_)
 ·
  have c2p := kz c2
  refine G_skip ?_
  refine GQ_sub (.cons (k := 2) rfl (.cons (k := 4) rfl (.cons (k := 8) rfl (.cons (k := 9) rfl (.cons (k := 18) rfl (.cons (k := 19) rfl (.cons (k := 20) rfl (.nil _)))))))) ?_
  refine GQ_then ?_
  refine G_seq ?_
  refine G_block ?_
  refine G_seq ?_
  refine G_region ?_
  refine GL_step rfl (PS_idxS is50 (by decide) (Kn.own (.tail _ (.tail _ (.tail _ (.tail _ (.tail _ (.head _))))))) rfl rfl (by omega) (by omega)) ?_
  refine GL_step rfl (PS_ldY rfl tys5 (Kn.own (.tail _ (.tail _ (.tail _ (.tail _ (.tail _ (.head _))))))) (by omega)) ?_
  refine GL_step rfl (PS_assign rfl) ?_
  refine GL_nil ?_
  refine GQ_sub (.cons (k := 2) rfl (.cons (k := 4) rfl (.cons (k := 8) rfl (.cons (k := 9) rfl (.cons (k := 11) rfl (.cons (k := 18) rfl (.cons (k := 19) rfl (.cons (k := 20) rfl (.nil _))))))))) ?_
  refine GQ_then ?_
  refine G_seq ?_
  refine G_region ?_
  refine GL_step rfl (PS_move rfl) ?_
  refine GL_step rfl (PS_u8i Tryd.underlying3 Tryd.underlying5 rfl) ?_
  refine GL_step rfl (PS_assign rfl) ?_
  refine GL_nil ?_
  refine GQ_sub (.cons (k := 2) rfl (.cons (k := 4) rfl (.cons (k := 8) rfl (.cons (k := 9) rfl (.cons (k := 11) rfl (.cons (k := 12) rfl (.cons (k := 18) rfl (.cons (k := 19) rfl (.cons (k := 20) rfl (.nil _)))))))))) ?_
  refine GQ_then ?_
  refine G_seq ?_
  refine G_region ?_
  refine GL_step rfl (PS_fieldAddr fa41_0 rfl) ?_
  refine GL_step rfl (PS_load rfl tys3 (.tail _ (.tail _ (.tail _ (.tail _ (.head _))))) Telnet.l0 rfl rfl) ?_
  refine GL_nil ?_
  refine GQ_sub (.cons (k := 2) rfl (.cons (k := 4) rfl (.cons (k := 8) rfl (.cons (k := 9) rfl (.cons (k := 11) rfl (.cons (k := 12) rfl (.cons (k := 18) rfl (.cons (k := 19) rfl (.cons (k := 20) rfl (.cons (k := 27) rfl (.nil _))))))))))) ?_
  refine GQ_then ?_
  refine G_block ?_
  refine G_seq ?_
  refine G_region ?_
  refine GL_step rfl (PS_eql rfl rfl) ?_
  refine GL_step rfl (PS_assign rfl) ?_
  refine GL_nil ?_
  refine GQ_sub (.cons (k := 2) rfl (.cons (k := 4) rfl (.cons (k := 8) rfl (.cons (k := 9) rfl (.cons (k := 11) rfl (.cons (k := 12) rfl (.cons (k := 18) rfl (.cons (k := 19) rfl (.cons (k := 20) rfl (.cons (k := 27) rfl (.cons (k := 28) rfl (.nil _)))))))))))) ?_
  refine GQ_then ?_
  refine G_cond rfl (fun c3 => ?_) (fun c3 => ?_)
  ·
   have c3p := kz c3
   refine G_seq ?_
   refine G_region ?_
   refine GL_step rfl (PS_move rfl) ?_
   refine GL_step rfl (PS_eql rfl rfl) ?_
   refine GL_nil ?_
   refine GQ_sub (.cons (k := 2) rfl (.cons (k := 4) rfl (.cons (k := 8) rfl (.cons (k := 9) rfl (.cons (k := 11) rfl (.cons (k := 18) rfl (.cons (k := 19) rfl (.cons (k := 20) rfl (.cons (k := 31) rfl (.nil _)))))))))) ?_
   refine GQ_then ?_
   refine G_cond rfl (fun c4 => ?_) (fun c4 => ?_)
   ·
    have c4p := kz c4
    refine G_region ?_
    refine GL_step rfl (PS_fieldAddr fa41_0 rfl) ?_
    refine GL_unit (PU_store Telnet.l0 rfl rfl rfl sz3 rfl (.tail (.tail (.tail (.tail .head))))) ?_
    refine GL_nil ?_
    refine GQ_sub (.cons (k := 2) rfl (.cons (k := 4) rfl (.cons (k := 8) rfl (.cons (k := 9) rfl (.cons (k := 18) rfl (.cons (k := 19) rfl (.cons (k := 20) rfl (.nil _)))))))) ?_
    refine GQ_block ?_
    refine GQ_block ?_
    refine GQ_then ?_
    refine G_region ?_
    refine GL_step rfl (PS_add rfl rfl (IntWalk.i64_in _ (by omega))) ?_
    refine GL_step rfl (PS_move rfl) ?_
    refine GL_nil ?_
    refine GQ_sub (.cons (k := 2) rfl (.cons (k := 4) rfl (.cons (k := 8) rfl (.cons (k := 9) rfl (.cons (k := 18) rfl (.cons (k := 19) rfl (.cons (k := 20) rfl (.nil _)))))))) ?_
    refine GQ_next8_ _ _ _ _ _ _ _ _ ?_ ?_ (.cons (k := 20) rfl (.cons (k := 2) rfl (.cons (k := 4) rfl (.cons (k := 8) rfl (.cons (k := 9) rfl (.cons (k := 18) rfl (.cons (k := 19) rfl (.nil _)))))))) (.refl _)
    · exact ⟨hI11.next (by omega) (by simp only [Telnet.step, c1, c2, c3, c4, ↓reduceIte, Bool.false_eq_true]) (by simp only [Telnet.step, c1, c2, c3, c4, List.append_nil, ↓reduceIte, Bool.false_eq_true]) (by simp only [Telnet.step, c1, c2, c3, c4, List.append_nil, ↓reduceIte, Bool.false_eq_true]), by assumption, by assumption, by assumption, by assumption, by assumption, by assumption⟩
    · omega
   have c4p := kz c4
   refine G_region ?_
   refine GL_step rfl (PS_move rfl) ?_
   refine GL_callL rfl cf33 (.cons rfl (.cons rfl .nil)) (.cons (.tail (.tail (.tail .head))) (.cons (.tail (.tail .head)) .nil)) (strings_Builder_WriteByte_spec _ _ _ _ (by assumption) (by assumption) (by assumption) _ (by omega)) (fun v2 B hv => ?_)
   obtain ⟨y3, y4, rfl, y5, y6, y7, rfl⟩ := hv
   refine GL_nil ?_
   refine GQ_sub (.cons (k := 2) rfl (.cons (k := 4) rfl (.cons (k := 8) rfl (.cons (k := 9) rfl (.cons (k := 18) rfl (.cons (k := 19) rfl (.cons (k := 20) rfl (.nil _)))))))) ?_
   refine GQ_block ?_
   refine GQ_block ?_
   refine GQ_then ?_
   refine G_region ?_
   refine GL_step rfl (PS_add rfl rfl (IntWalk.i64_in _ (by omega))) ?_
   refine GL_step rfl (PS_move rfl) ?_
   refine GL_nil ?_
   refine GQ_sub (.cons (k := 2) rfl (.cons (k := 4) rfl (.cons (k := 8) rfl (.cons (k := 9) rfl (.cons (k := 18) rfl (.cons (k := 19) rfl (.cons (k := 20) rfl (.nil _)))))))) ?_
   refine GQ_pulls (.cons (.tail (.tail .head)) (.cons (.tail (.tail .head)) (.cons (.tail .head) (.cons .head (.cons .head (.cons .head (.cons .head .nil))))))) ?_
   refine GQ_dropr ?_
   refine GQ_next8_ _ _ _ _ _ _ _ _ ?_ ?_ (.cons (k := 20) rfl (.cons (k := 2) rfl (.cons (k := 4) rfl (.cons (k := 8) rfl (.cons (k := 9) rfl (.cons (k := 18) rfl (.cons (k := 19) rfl (.nil _)))))))) (.refl _)
   · exact ⟨hI11.next (by omega) (by simp only [Telnet.step, c1, c2, c3, c4, ↓reduceIte, Bool.false_eq_true]) (by simp only [Telnet.step, c1, c2, c3, c4, List.append_nil, ↓reduceIte, Bool.false_eq_true]) (by simp only [Telnet.step, c1, c2, c3, c4, List.append_nil, ↓reduceIte, Bool.false_eq_true]), by assumption, by assumption, by assumption, by assumption, by assumption, by assumption⟩
   · omega
  have c3p := kz c3
  refine G_seq ?_
  refine G_region ?_
  refine GL_step rfl (PS_eql rfl rfl) ?_
  refine GL_step rfl (PS_assign rfl) ?_
  refine GL_nil ?_
  refine GQ_sub (.cons (k := 2) rfl (.cons (k := 4) rfl (.cons (k := 8) rfl (.cons (k := 9) rfl (.cons (k := 11) rfl (.cons (k := 12) rfl (.cons (k := 18) rfl (.cons (k := 19) rfl (.cons (k := 20) rfl (.cons (k := 27) rfl (.cons (k := 35) rfl (.nil _)))))))))))) ?_
  refine GQ_then ?_
  refine G_cond rfl (fun c5 => ?_) (fun c5 => ?_)
  ·
   have c5p := kz c5
   refine G_seq ?_
   refine G_region ?_
   refine GL_step rfl (PS_fieldAddr fa41_0 rfl) ?_
   refine GL_unit (PU_store Telnet.l0 rfl rfl rfl sz3 rfl (.tail (.tail (.tail (.tail .head))))) ?_
   refine GL_nil ?_
   refine GQ_sub (.cons (k := 2) rfl (.cons (k := 4) rfl (.cons (k := 8) rfl (.cons (k := 9) rfl (.cons (k := 11) rfl (.cons (k := 12) rfl (.cons (k := 18) rfl (.cons (k := 19) rfl (.cons (k := 20) rfl (.nil _)))))))))) ?_
   refine GQ_then ?_
   refine G_block ?_
   refine G_seq ?_
   refine G_region ?_
   refine GL_step rfl (PS_move rfl) ?_
   refine GL_step rfl (PS_eql rfl rfl) ?_
   refine GL_step rfl (PS_assign rfl) ?_
   refine GL_nil ?_
   refine GQ_sub (.cons (k := 2) rfl (.cons (k := 4) rfl (.cons (k := 8) rfl (.cons (k := 9) rfl (.cons (k := 11) rfl (.cons (k := 12) rfl (.cons (k := 18) rfl (.cons (k := 19) rfl (.cons (k := 20) rfl (.cons (k := 38) rfl (.nil _))))))))))) ?_
   refine GQ_then ?_
   refine G_cond rfl (fun c6 => ?_) (fun c6 => ?_)
   ·
    have c6p := kz c6
    refine G_region ?_
    refine GL_step rfl (PS_move rfl) ?_
    refine GL_callL rfl cf33 (.cons rfl (.cons rfl .nil)) (.cons (.tail (.tail (.tail .head))) (.cons (.tail (.tail .head)) .nil)) (strings_Builder_WriteByte_spec _ _ _ _ (by assumption) (by assumption) (by assumption) _ (by omega)) (fun v8 B hv => ?_)
    obtain ⟨y9, y10, rfl, y11, y12, y13, rfl⟩ := hv
    refine GL_nil ?_
    refine GQ_sub (.cons (k := 2) rfl (.cons (k := 4) rfl (.cons (k := 8) rfl (.cons (k := 9) rfl (.cons (k := 18) rfl (.cons (k := 19) rfl (.cons (k := 20) rfl (.nil _)))))))) ?_
    refine GQ_block ?_
    refine GQ_block ?_
    refine GQ_block ?_
    refine GQ_then ?_
    refine G_region ?_
    refine GL_step rfl (PS_add rfl rfl (IntWalk.i64_in _ (by omega))) ?_
    refine GL_step rfl (PS_move rfl) ?_
    refine GL_nil ?_
    refine GQ_sub (.cons (k := 2) rfl (.cons (k := 4) rfl (.cons (k := 8) rfl (.cons (k := 9) rfl (.cons (k := 18) rfl (.cons (k := 19) rfl (.cons (k := 20) rfl (.nil _)))))))) ?_
    refine GQ_pulls (.cons (.tail (.tail .head)) (.cons (.tail (.tail .head)) (.cons (.tail .head) (.cons .head (.cons .head (.cons .head (.cons .head .nil))))))) ?_
    refine GQ_dropr ?_
    refine GQ_next8_ _ _ _ _ _ _ _ _ ?_ ?_ (.cons (k := 20) rfl (.cons (k := 2) rfl (.cons (k := 4) rfl (.cons (k := 8) rfl (.cons (k := 9) rfl (.cons (k := 18) rfl (.cons (k := 19) rfl (.nil _)))))))) (.refl _)
    · exact ⟨hI11.next (by omega) (by simp only [Telnet.step, c1, c2, c3, c5, c6, ↓reduceIte, Bool.false_eq_true]) (by simp only [Telnet.step, c1, c2, c3, c5, c6, List.append_nil, ↓reduceIte, Bool.false_eq_true]) (by simp only [Telnet.step, c1, c2, c3, c5, c6, List.append_nil, ↓reduceIte, Bool.false_eq_true]), by assumption, by assumption, by assumption, by assumption, by assumption, by assumption⟩
    · omega
   have c6p := kz c6
   refine G_seq ?_
   refine G_region ?_
   refine GL_step rfl (PS_move rfl) ?_
   refine GL_step rfl (PS_eql rfl rfl) ?_
   refine GL_step rfl (PS_assign rfl) ?_
   refine GL_nil ?_
   refine GQ_sub (.cons (k := 2) rfl (.cons (k := 4) rfl (.cons (k := 8) rfl (.cons (k := 9) rfl (.cons (k := 12) rfl (.cons (k := 18) rfl (.cons (k := 19) rfl (.cons (k := 20) rfl (.cons (k := 43) rfl (.nil _)))))))))) ?_
   refine GQ_then ?_
   refine G_cond rfl (fun c7 => ?_) (fun c7 => ?_)
   ·
    have c7p := kz c7
    refine G_region ?_
    refine GL_step rfl (PS_fieldAddr fa41_0 rfl) ?_
    refine GL_unit (PU_store Telnet.l0 rfl rfl rfl sz3 rfl (.tail (.tail (.tail (.tail .head))))) ?_
    refine GL_nil ?_
    refine GQ_sub (.cons (k := 2) rfl (.cons (k := 4) rfl (.cons (k := 8) rfl (.cons (k := 9) rfl (.cons (k := 18) rfl (.cons (k := 19) rfl (.cons (k := 20) rfl (.nil _)))))))) ?_
    refine GQ_block ?_
    refine GQ_block ?_
    refine GQ_block ?_
    refine GQ_then ?_
    refine G_region ?_
    refine GL_step rfl (PS_add rfl rfl (IntWalk.i64_in _ (by omega))) ?_
    refine GL_step rfl (PS_move rfl) ?_
    refine GL_nil ?_
    refine GQ_sub (.cons (k := 2) rfl (.cons (k := 4) rfl (.cons (k := 8) rfl (.cons (k := 9) rfl (.cons (k := 18) rfl (.cons (k := 19) rfl (.cons (k := 20) rfl (.nil _)))))))) ?_
    refine GQ_next8_ _ _ _ _ _ _ _ _ ?_ ?_ (.cons (k := 20) rfl (.cons (k := 2) rfl (.cons (k := 4) rfl (.cons (k := 8) rfl (.cons (k := 9) rfl (.cons (k := 18) rfl (.cons (k := 19) rfl (.nil _)))))))) (.refl _)
    · exact ⟨hI11.next (by omega) (by simp only [Telnet.step, c1, c2, c3, c5, c6, c7, ↓reduceIte, Bool.false_eq_true]) (by simp only [Telnet.step, c1, c2, c3, c5, c6, c7, List.append_nil, ↓reduceIte, Bool.false_eq_true]) (by simp only [Telnet.step, c1, c2, c3, c5, c6, c7, List.append_nil, ↓reduceIte, Bool.false_eq_true]), by assumption, by assumption, by assumption, by assumption, by assumption, by assumption⟩
    · omega
   have c7p := kz c7
   refine G_seq ?_
   refine G_region ?_
   refine GL_step rfl (PS_move rfl) ?_
   refine GL_step rfl (PS_geq rfl rfl) ?_
   refine GL_step rfl (PS_assign rfl) ?_
   refine GL_nil ?_
   refine GQ_sub (.cons (k := 2) rfl (.cons (k := 4) rfl (.cons (k := 8) rfl (.cons (k := 9) rfl (.cons (k := 12) rfl (.cons (k := 18) rfl (.cons (k := 19) rfl (.cons (k := 20) rfl (.cons (k := 47) rfl (.nil _)))))))))) ?_
   refine GQ_then ?_
   refine G_cond rfl (fun c8 => ?_) (fun c8 => ?_)
   ·
    have c8p := kz c8
    refine G_region ?_
    refine GL_step rfl (PS_move rfl) ?_
    refine GL_step rfl (PS_fieldAddr fa41_0 rfl) ?_
    refine GL_unit (PU_store Telnet.l0 rfl rfl rfl sz3 rfl (.tail (.tail (.tail (.tail .head))))) ?_
    refine GL_step rfl (PS_fieldAddr fa41_1 rfl) ?_
    refine GL_unit (PU_store Telnet.l1 rfl rfl rfl sz3 rfl (.tail (.tail (.tail (.tail .head))))) ?_
    refine GL_nil ?_
    refine GQ_sub (.cons (k := 2) rfl (.cons (k := 4) rfl (.cons (k := 8) rfl (.cons (k := 9) rfl (.cons (k := 18) rfl (.cons (k := 19) rfl (.cons (k := 20) rfl (.nil _)))))))) ?_
    refine GQ_block ?_
    refine GQ_block ?_
    refine GQ_block ?_
    refine GQ_then ?_
    refine G_region ?_
    refine GL_step rfl (PS_add rfl rfl (IntWalk.i64_in _ (by omega))) ?_
    refine GL_step rfl (PS_move rfl) ?_
    refine GL_nil ?_
    refine GQ_sub (.cons (k := 2) rfl (.cons (k := 4) rfl (.cons (k := 8) rfl (.cons (k := 9) rfl (.cons (k := 18) rfl (.cons (k := 19) rfl (.cons (k := 20) rfl (.nil _)))))))) ?_
    refine GQ_next8_ _ _ _ _ _ _ _ _ ?_ ?_ (.cons (k := 20) rfl (.cons (k := 2) rfl (.cons (k := 4) rfl (.cons (k := 8) rfl (.cons (k := 9) rfl (.cons (k := 18) rfl (.cons (k := 19) rfl (.nil _)))))))) (.refl _)
    · exact ⟨hI11.next (by omega) (by simp only [Telnet.step, c1, c2, c3, c5, c6, c7, c8, ↓reduceIte, Bool.false_eq_true]) (by simp only [Telnet.step, c1, c2, c3, c5, c6, c7, c8, List.append_nil, ↓reduceIte, Bool.false_eq_true]) (by simp only [Telnet.step, c1, c2, c3, c5, c6, c7, c8, List.append_nil, ↓reduceIte, Bool.false_eq_true]), by assumption, by assumption, by assumption, by assumption, by assumption, by assumption⟩
    · omega
   have c8p := kz c8
   refine G_skip ?_
   refine GQ_sub (.cons (k := 2) rfl (.cons (k := 4) rfl (.cons (k := 8) rfl (.cons (k := 9) rfl (.cons (k := 18) rfl (.cons (k := 19) rfl (.cons (k := 20) rfl (.nil _)))))))) ?_
   refine GQ_block ?_
   refine GQ_block ?_
   refine GQ_block ?_
   refine GQ_then ?_
   refine G_region ?_
   refine GL_step rfl (PS_add rfl rfl (IntWalk.i64_in _ (by omega))) ?_
   refine GL_step rfl (PS_move rfl) ?_
   refine GL_nil ?_
   refine GQ_sub (.cons (k := 2) rfl (.cons (k := 4) rfl (.cons (k := 8) rfl (.cons (k := 9) rfl (.cons (k := 18) rfl (.cons (k := 19) rfl (.cons (k := 20) rfl (.nil _)))))))) ?_
   refine GQ_next8_ _ _ _ _ _ _ _ _ ?_ ?_ (.cons (k := 20) rfl (.cons (k := 2) rfl (.cons (k := 4) rfl (.cons (k := 8) rfl (.cons (k := 9) rfl (.cons (k := 18) rfl (.cons (k := 19) rfl (.nil _)))))))) (.refl _)
   · exact ⟨hI11.next (by omega) (by simp only [Telnet.step, c1, c2, c3, c5, c6, c7, c8, ↓reduceIte, Bool.false_eq_true]) (by simp only [Telnet.step, c1, c2, c3, c5, c6, c7, c8, List.append_nil, ↓reduceIte, Bool.false_eq_true]) (by simp only [Telnet.step, c1, c2, c3, c5, c6, c7, c8, List.append_nil, ↓reduceIte, Bool.false_eq_true]), by assumption, by assumption, by assumption, by assumption, by assumption, by assumption⟩
   · omega
  have c5p := kz c5
  refine G_seq ?_
  refine G_region ?_
  refine GL_step rfl (PS_eql rfl rfl) ?_
  refine GL_step rfl (PS_assign rfl) ?_
  refine GL_nil ?_
  refine GQ_sub (.cons (k := 2) rfl (.cons (k := 4) rfl (.cons (k := 8) rfl (.cons (k := 9) rfl (.cons (k := 11) rfl (.cons (k := 12) rfl (.cons (k := 18) rfl (.cons (k := 19) rfl (.cons (k := 20) rfl (.cons (k := 27) rfl (.cons (k := 53) rfl (.nil _)))))))))))) ?_
  refine GQ_then ?_
  refine G_cond rfl (fun c9 => ?_) (fun c9 => ?_)
  ·
   have c9p := kz c9
   refine G_seq ?_
   refine G_region ?_
   refine GL_step rfl (PS_fieldAddr fa41_1 rfl) ?_
   refine GL_step rfl (PS_load rfl tys3 (.tail _ (.tail _ (.tail _ (.tail _ (.head _))))) Telnet.l1 rfl rfl) ?_
   refine GL_step rfl (PS_move rfl) ?_
   refine GL_callL rfl cf35 (.cons rfl (.cons rfl (.cons rfl .nil))) (.cons (.tail (.tail (.tail (.tail .head)))) .nil) (telnet_negotiate_spec _ _ _ _ (by first | assumption | omega)) (fun v14 B hv => ?_)
   obtain ⟨rfl, rfl⟩ := hv
   refine GL_callL rfl cf34 (.cons rfl (.cons rfl .nil)) (.cons (.tail (.tail .head)) (.cons (.tail .head) .nil)) (strings_Builder_WriteString_spec _ _ _ _ (by assumption) (by assumption) (by assumption) _ (by left; have := Telnet.negotiate_len t t.verb ((u.getD k.toNat 0).toNat : Int); omega)) (fun v15 B hv => ?_)
   obtain ⟨y16, y17, rfl, y18, y19, y20, y21, rfl⟩ := hv
   refine GL_nil ?_
   refine GQ_sub (.cons (k := 2) rfl (.cons (k := 4) rfl (.cons (k := 8) rfl (.cons (k := 9) rfl (.cons (k := 18) rfl (.cons (k := 19) rfl (.cons (k := 20) rfl (.nil _)))))))) ?_
   refine GQ_then ?_
   refine G_region ?_
   refine GL_step rfl (PS_fieldAddr fa41_0 rfl) ?_
   refine GL_unit (PU_store Telnet.l0 rfl rfl rfl sz3 rfl (.tail (.tail .head))) ?_
   refine GL_step rfl (PS_fieldAddr fa41_1 rfl) ?_
   refine GL_unit (PU_store Telnet.l1 rfl rfl rfl sz3 rfl (.tail (.tail .head))) ?_
   refine GL_nil ?_
   refine GQ_sub (.cons (k := 2) rfl (.cons (k := 4) rfl (.cons (k := 8) rfl (.cons (k := 9) rfl (.cons (k := 18) rfl (.cons (k := 19) rfl (.cons (k := 20) rfl (.nil _)))))))) ?_
   refine GQ_block ?_
   refine GQ_block ?_
   refine GQ_then ?_
   refine G_region ?_
   refine GL_step rfl (PS_add rfl rfl (IntWalk.i64_in _ (by omega))) ?_
   refine GL_step rfl (PS_move rfl) ?_
   refine GL_nil ?_
   refine GQ_sub (.cons (k := 2) rfl (.cons (k := 4) rfl (.cons (k := 8) rfl (.cons (k := 9) rfl (.cons (k := 18) rfl (.cons (k := 19) rfl (.cons (k := 20) rfl (.nil _)))))))) ?_
   refine GQ_pulls (.cons (.tail .head) (.cons .head (.cons (.tail .head) (.cons (.tail .head) (.cons .head (.cons .head (.cons .head .nil))))))) ?_
   refine GQ_dropr ?_
   refine GQ_next8_ _ _ _ _ _ _ _ _ ?_ ?_ (.cons (k := 20) rfl (.cons (k := 2) rfl (.cons (k := 4) rfl (.cons (k := 8) rfl (.cons (k := 9) rfl (.cons (k := 18) rfl (.cons (k := 19) rfl (.nil _)))))))) (.refl _)
   · exact ⟨hI11.next (by omega) (by simp only [Telnet.step, c1, c2, c3, c5, c9, ↓reduceIte, Bool.false_eq_true]) (by simp only [Telnet.step, c1, c2, c3, c5, c9, List.append_nil, ↓reduceIte, Bool.false_eq_true]) (by simp only [Telnet.step, c1, c2, c3, c5, c9, List.append_nil, ↓reduceIte, Bool.false_eq_true]), by assumption, by assumption, by assumption, by assumption, by assumption, by assumption⟩
   · omega
  have c9p := kz c9
  refine G_seq ?_
  refine G_region ?_
  refine GL_step rfl (PS_eql rfl rfl) ?_
  refine GL_step rfl (PS_assign rfl) ?_
  refine GL_nil ?_
  refine GQ_sub (.cons (k := 2) rfl (.cons (k := 4) rfl (.cons (k := 8) rfl (.cons (k := 9) rfl (.cons (k := 11) rfl (.cons (k := 12) rfl (.cons (k := 18) rfl (.cons (k := 19) rfl (.cons (k := 20) rfl (.cons (k := 27) rfl (.cons (k := 62) rfl (.nil _)))))))))))) ?_
  refine GQ_then ?_
  refine G_cond rfl (fun c10 => ?_) (fun c10 => ?_)
  ·
   have c10p := kz c10
   refine G_seq ?_
   refine G_region ?_
   refine GL_step rfl (PS_move rfl) ?_
   refine GL_step rfl (PS_eql rfl rfl) ?_
   refine GL_nil ?_
   refine GQ_sub (.cons (k := 2) rfl (.cons (k := 4) rfl (.cons (k := 8) rfl (.cons (k := 9) rfl (.cons (k := 11) rfl (.cons (k := 18) rfl (.cons (k := 19) rfl (.cons (k := 20) rfl (.cons (k := 65) rfl (.nil _)))))))))) ?_
   refine GQ_then ?_
   refine G_cond rfl (fun c11 => ?_) (fun c11 => ?_)
   ·
    have c11p := kz c11
    refine G_region ?_
    refine GL_step rfl (PS_fieldAddr fa41_0 rfl) ?_
    refine GL_unit (PU_store Telnet.l0 rfl rfl rfl sz3 rfl (.tail (.tail (.tail (.tail .head))))) ?_
    refine GL_nil ?_
    refine GQ_sub (.cons (k := 2) rfl (.cons (k := 4) rfl (.cons (k := 8) rfl (.cons (k := 9) rfl (.cons (k := 18) rfl (.cons (k := 19) rfl (.cons (k := 20) rfl (.nil _)))))))) ?_
    refine GQ_block ?_
    refine GQ_block ?_
    refine GQ_then ?_
    refine G_region ?_
    refine GL_step rfl (PS_add rfl rfl (IntWalk.i64_in _ (by omega))) ?_
    refine GL_step rfl (PS_move rfl) ?_
    refine GL_nil ?_
    refine GQ_sub (.cons (k := 2) rfl (.cons (k := 4) rfl (.cons (k := 8) rfl (.cons (k := 9) rfl (.cons (k := 18) rfl (.cons (k := 19) rfl (.cons (k := 20) rfl (.nil _)))))))) ?_
    refine GQ_next8_ _ _ _ _ _ _ _ _ ?_ ?_ (.cons (k := 20) rfl (.cons (k := 2) rfl (.cons (k := 4) rfl (.cons (k := 8) rfl (.cons (k := 9) rfl (.cons (k := 18) rfl (.cons (k := 19) rfl (.nil _)))))))) (.refl _)
    · exact ⟨hI11.next (by omega) (by simp only [Telnet.step, c1, c2, c3, c5, c9, c10, c11, ↓reduceIte, Bool.false_eq_true]) (by simp only [Telnet.step, c1, c2, c3, c5, c9, c10, c11, List.append_nil, ↓reduceIte, Bool.false_eq_true]) (by simp only [Telnet.step, c1, c2, c3, c5, c9, c10, c11, List.append_nil, ↓reduceIte, Bool.false_eq_true]), by assumption, by assumption, by assumption, by assumption, by assumption, by assumption⟩
    · omega
   have c11p := kz c11
   refine G_region ?_
   refine GL_step rfl (PS_move rfl) ?_
   refine GL_callL rfl cf36 (.cons rfl (.cons rfl .nil)) (.cons (.tail (.tail (.tail (.tail .head)))) .nil) (telnet_collect_spec _ _ _ (by first | assumption | omega)) (fun v22 B hv => ?_)
   obtain ⟨rfl, rfl⟩ := hv
   refine GL_nil ?_
   refine GQ_sub (.cons (k := 2) rfl (.cons (k := 4) rfl (.cons (k := 8) rfl (.cons (k := 9) rfl (.cons (k := 18) rfl (.cons (k := 19) rfl (.cons (k := 20) rfl (.nil _)))))))) ?_
   refine GQ_block ?_
   refine GQ_block ?_
   refine GQ_then ?_
   refine G_region ?_
   refine GL_step rfl (PS_add rfl rfl (IntWalk.i64_in _ (by omega))) ?_
   refine GL_step rfl (PS_move rfl) ?_
   refine GL_nil ?_
   refine GQ_sub (.cons (k := 2) rfl (.cons (k := 4) rfl (.cons (k := 8) rfl (.cons (k := 9) rfl (.cons (k := 18) rfl (.cons (k := 19) rfl (.cons (k := 20) rfl (.nil _)))))))) ?_
   refine GQ_pulls (.cons (.tail .head) (.cons (.tail .head) (.cons (.tail .head) (.cons (.tail .head) (.cons .head (.cons .head (.cons .head .nil))))))) ?_
   refine GQ_dropr ?_
   refine GQ_next8_ _ _ _ _ _ _ _ _ ?_ ?_ (.cons (k := 20) rfl (.cons (k := 2) rfl (.cons (k := 4) rfl (.cons (k := 8) rfl (.cons (k := 9) rfl (.cons (k := 18) rfl (.cons (k := 19) rfl (.nil _)))))))) (.refl _)
   · exact ⟨hI11.next (by omega) (by simp only [Telnet.step, c1, c2, c3, c5, c9, c10, c11, ↓reduceIte, Bool.false_eq_true]) (by simp only [Telnet.step, c1, c2, c3, c5, c9, c10, c11, List.append_nil, ↓reduceIte, Bool.false_eq_true]) (by simp only [Telnet.step, c1, c2, c3, c5, c9, c10, c11, List.append_nil, ↓reduceIte, Bool.false_eq_true]), by assumption, by assumption, by assumption, by assumption, by assumption, by assumption⟩
   · omega
  have c10p := kz c10
  refine G_seq ?_
  refine G_region ?_
  refine GL_step rfl (PS_eql rfl rfl) ?_
  refine GL_step rfl (PS_assign rfl) ?_
  refine GL_nil ?_
  refine GQ_sub (.cons (k := 2) rfl (.cons (k := 4) rfl (.cons (k := 8) rfl (.cons (k := 9) rfl (.cons (k := 11) rfl (.cons (k := 12) rfl (.cons (k := 18) rfl (.cons (k := 19) rfl (.cons (k := 20) rfl (.cons (k := 69) rfl (.nil _))))))))))) ?_
  refine GQ_then ?_
  refine G_cond rfl (fun c12 => ?_) (fun c12 => ?_)
  ·
   have c12p := kz c12
   refine G_seq ?_
   refine G_region ?_
   refine GL_step rfl (PS_move rfl) ?_
   refine GL_nil ?_
   refine GQ_sub (.cons (k := 2) rfl (.cons (k := 4) rfl (.cons (k := 8) rfl (.cons (k := 9) rfl (.cons (k := 11) rfl (.cons (k := 12) rfl (.cons (k := 18) rfl (.cons (k := 19) rfl (.cons (k := 20) rfl (.cons (k := 71) rfl (.nil _))))))))))) ?_
   refine GQ_then ?_
   refine G_block ?_
   refine G_seq ?_
   refine G_region ?_
   refine GL_step rfl (PS_eql rfl rfl) ?_
   refine GL_step rfl (PS_assign rfl) ?_
   refine GL_nil ?_
   refine GQ_sub (.cons (k := 2) rfl (.cons (k := 4) rfl (.cons (k := 8) rfl (.cons (k := 9) rfl (.cons (k := 11) rfl (.cons (k := 12) rfl (.cons (k := 18) rfl (.cons (k := 19) rfl (.cons (k := 20) rfl (.cons (k := 77) rfl (.nil _))))))))))) ?_
   refine GQ_then ?_
   refine G_cond rfl (fun c13 => ?_) (fun c13 => ?_)
   ·
    have c13p := kz c13
    refine G_seq ?_
    refine G_region ?_
    refine GL_step rfl (PS_fieldAddr fa41_0 rfl) ?_
    refine GL_unit (PU_store Telnet.l0 rfl rfl rfl sz3 rfl (.tail (.tail (.tail (.tail .head))))) ?_
    refine GL_nil ?_
    refine GQ_sub (.cons (k := 2) rfl (.cons (k := 4) rfl (.cons (k := 8) rfl (.cons (k := 9) rfl (.cons (k := 11) rfl (.cons (k := 18) rfl (.cons (k := 19) rfl (.cons (k := 20) rfl (.nil _))))))))) ?_
    refine GQ_then ?_
    refine G_region ?_
    refine GL_step rfl (PS_move rfl) ?_
    refine GL_callL rfl cf36 (.cons rfl (.cons rfl .nil)) (.cons (.tail (.tail (.tail (.tail .head)))) .nil) (telnet_collect_spec _ _ _ (by first | assumption | omega)) (fun v23 B hv => ?_)
    obtain ⟨rfl, rfl⟩ := hv
    refine GL_nil ?_
    refine GQ_sub (.cons (k := 2) rfl (.cons (k := 4) rfl (.cons (k := 8) rfl (.cons (k := 9) rfl (.cons (k := 18) rfl (.cons (k := 19) rfl (.cons (k := 20) rfl (.nil _)))))))) ?_
    refine GQ_block ?_
    refine GQ_block ?_
    refine GQ_block ?_
    refine GQ_then ?_
    refine G_region ?_
    refine GL_step rfl (PS_add rfl rfl (IntWalk.i64_in _ (by omega))) ?_
    refine GL_step rfl (PS_move rfl) ?_
    refine GL_nil ?_
    refine GQ_sub (.cons (k := 2) rfl (.cons (k := 4) rfl (.cons (k := 8) rfl (.cons (k := 9) rfl (.cons (k := 18) rfl (.cons (k := 19) rfl (.cons (k := 20) rfl (.nil _)))))))) ?_
    refine GQ_pulls (.cons (.tail .head) (.cons (.tail .head) (.cons (.tail .head) (.cons (.tail .head) (.cons .head (.cons .head (.cons .head .nil))))))) ?_
    refine GQ_dropr ?_
    refine GQ_next8_ _ _ _ _ _ _ _ _ ?_ ?_ (.cons (k := 20) rfl (.cons (k := 2) rfl (.cons (k := 4) rfl (.cons (k := 8) rfl (.cons (k := 9) rfl (.cons (k := 18) rfl (.cons (k := 19) rfl (.nil _)))))))) (.refl _)
    · exact ⟨hI11.next (by omega) (by simp only [Telnet.step, c1, c2, c3, c5, c9, c10, c12, c13, ↓reduceIte, Bool.false_eq_true]) (by simp only [Telnet.step, c1, c2, c3, c5, c9, c10, c12, c13, List.append_nil, ↓reduceIte, Bool.false_eq_true]) (by simp only [Telnet.step, c1, c2, c3, c5, c9, c10, c12, c13, List.append_nil, ↓reduceIte, Bool.false_eq_true]), by assumption, by assumption, by assumption, by assumption, by assumption, by assumption⟩
    · omega
   have c13p := kz c13
   refine G_seq ?_
   refine G_seq ?_
   refine G_region ?_
   refine GL_step rfl (PS_move rfl) ?_
   refine GL_step rfl (PS_eql rfl rfl) ?_
   refine GL_nil ?_
   refine GQ_sub (.cons (k := 2) rfl (.cons (k := 4) rfl (.cons (k := 8) rfl (.cons (k := 9) rfl (.cons (k := 18) rfl (.cons (k := 19) rfl (.cons (k := 20) rfl (.cons (k := 73) rfl (.nil _))))))))) ?_
   refine GQ_then ?_
   refine G_cond rfl (fun c14 => ?_) (fun c14 => ?_)
   ·
    have c14p := kz c14
    refine G_region ?_
    refine GL_callL rfl cf37 (.cons rfl .nil) (.cons (.tail (.tail (.tail (.tail .head)))) .nil) (telnet_measure_spec _ _) (fun v24 B hv => ?_)
    obtain ⟨rfl, rfl⟩ := hv
    refine GL_nil ?_
    refine GQ_sub (.cons (k := 2) rfl (.cons (k := 4) rfl (.cons (k := 8) rfl (.cons (k := 9) rfl (.cons (k := 18) rfl (.cons (k := 19) rfl (.cons (k := 20) rfl (.nil _)))))))) ?_
    refine GQ_then ?_
    refine G_region ?_
    refine GL_step rfl (PS_fieldAddr fa41_0 rfl) ?_
    refine GL_unit (PU_store Telnet.l0 rfl rfl rfl sz3 rfl .head) ?_
    refine GL_step rfl (PS_fieldAddr fa41_2 rfl) ?_
    refine GL_unit (PU_store Telnet.l2 rfl rfl rfl sz9 rfl .head) ?_
    refine GL_nil ?_
    refine GQ_sub (.cons (k := 2) rfl (.cons (k := 4) rfl (.cons (k := 8) rfl (.cons (k := 9) rfl (.cons (k := 18) rfl (.cons (k := 19) rfl (.cons (k := 20) rfl (.nil _)))))))) ?_
    refine GQ_block ?_
    refine GQ_block ?_
    refine GQ_block ?_
    refine GQ_then ?_
    refine G_region ?_
    refine GL_step rfl (PS_add rfl rfl (IntWalk.i64_in _ (by omega))) ?_
    refine GL_step rfl (PS_move rfl) ?_
    refine GL_nil ?_
    refine GQ_sub (.cons (k := 2) rfl (.cons (k := 4) rfl (.cons (k := 8) rfl (.cons (k := 9) rfl (.cons (k := 18) rfl (.cons (k := 19) rfl (.cons (k := 20) rfl (.nil _)))))))) ?_
    refine GQ_pulls (.cons (.tail .head) (.cons (.tail .head) (.cons (.tail .head) (.cons (.tail .head) (.cons .head (.cons .head (.cons .head .nil))))))) ?_
    refine GQ_dropr ?_
    refine GQ_next8_ _ _ _ _ _ _ _ _ ?_ ?_ (.cons (k := 20) rfl (.cons (k := 2) rfl (.cons (k := 4) rfl (.cons (k := 8) rfl (.cons (k := 9) rfl (.cons (k := 18) rfl (.cons (k := 19) rfl (.nil _)))))))) (.refl _)
    · exact ⟨hI11.next (by omega) (by simp only [Telnet.step, c1, c2, c3, c5, c9, c10, c12, c13, c14, ↓reduceIte, Bool.false_eq_true]) (by simp only [Telnet.step, c1, c2, c3, c5, c9, c10, c12, c13, c14, List.append_nil, ↓reduceIte, Bool.false_eq_true]) (by simp only [Telnet.step, c1, c2, c3, c5, c9, c10, c12, c13, c14, List.append_nil, ↓reduceIte, Bool.false_eq_true]), by assumption, by assumption, by assumption, by assumption, by assumption, by assumption⟩
    · omega
   have c14p := kz c14
   refine G_skip ?_
   refine GQ_sub (.cons (k := 2) rfl (.cons (k := 4) rfl (.cons (k := 8) rfl (.cons (k := 9) rfl (.cons (k := 18) rfl (.cons (k := 19) rfl (.cons (k := 20) rfl (.nil _)))))))) ?_
   refine GQ_then ?_
   refine G_region ?_
   refine GL_step rfl (PS_fieldAddr fa41_0 rfl) ?_
   refine GL_unit (PU_store Telnet.l0 rfl rfl rfl sz3 rfl (.tail (.tail (.tail (.tail .head))))) ?_
   refine GL_step rfl (PS_fieldAddr fa41_2 rfl) ?_
   refine GL_unit (PU_store Telnet.l2 rfl rfl rfl sz9 rfl (.tail (.tail (.tail (.tail .head))))) ?_
   refine GL_nil ?_
   refine GQ_sub (.cons (k := 2) rfl (.cons (k := 4) rfl (.cons (k := 8) rfl (.cons (k := 9) rfl (.cons (k := 18) rfl (.cons (k := 19) rfl (.cons (k := 20) rfl (.nil _)))))))) ?_
   refine GQ_block ?_
   refine GQ_block ?_
   refine GQ_block ?_
   refine GQ_then ?_
   refine G_region ?_
   refine GL_step rfl (PS_add rfl rfl (IntWalk.i64_in _ (by omega))) ?_
   refine GL_step rfl (PS_move rfl) ?_
   refine GL_nil ?_
   refine GQ_sub (.cons (k := 2) rfl (.cons (k := 4) rfl (.cons (k := 8) rfl (.cons (k := 9) rfl (.cons (k := 18) rfl (.cons (k := 19) rfl (.cons (k := 20) rfl (.nil _)))))))) ?_
   refine GQ_next8_ _ _ _ _ _ _ _ _ ?_ ?_ (.cons (k := 20) rfl (.cons (k := 2) rfl (.cons (k := 4) rfl (.cons (k := 8) rfl (.cons (k := 9) rfl (.cons (k := 18) rfl (.cons (k := 19) rfl (.nil _)))))))) (.refl _)
   · exact ⟨hI11.next (by omega) (by simp only [Telnet.step, c1, c2, c3, c5, c9, c10, c12, c13, c14, ↓reduceIte, Bool.false_eq_true]) (by simp only [Telnet.step, c1, c2, c3, c5, c9, c10, c12, c13, c14, List.append_nil, ↓reduceIte, Bool.false_eq_true]) (by simp only [Telnet.step, c1, c2, c3, c5, c9, c10, c12, c13, c14, List.append_nil, ↓reduceIte, Bool.false_eq_true]), by assumption, by assumption, by assumption, by assumption, by assumption, by assumption⟩
   · omega
  have c12p := kz c12
  refine G_skip ?_
  refine GQ_sub (.cons (k := 2) rfl (.cons (k := 4) rfl (.cons (k := 8) rfl (.cons (k := 9) rfl (.cons (k := 18) rfl (.cons (k := 19) rfl (.cons (k := 20) rfl (.nil _)))))))) ?_
  refine GQ_block ?_
  refine GQ_block ?_
  refine GQ_then ?_
  refine G_region ?_
  refine GL_step rfl (PS_add rfl rfl (IntWalk.i64_in _ (by omega))) ?_
  refine GL_step rfl (PS_move rfl) ?_
  refine GL_nil ?_
  refine GQ_sub (.cons (k := 2) rfl (.cons (k := 4) rfl (.cons (k := 8) rfl (.cons (k := 9) rfl (.cons (k := 18) rfl (.cons (k := 19) rfl (.cons (k := 20) rfl (.nil _)))))))) ?_
  refine GQ_next8_ _ _ _ _ _ _ _ _ ?_ ?_ (.cons (k := 20) rfl (.cons (k := 2) rfl (.cons (k := 4) rfl (.cons (k := 8) rfl (.cons (k := 9) rfl (.cons (k := 18) rfl (.cons (k := 19) rfl (.nil _)))))))) (.refl _)
  · exact ⟨hI11.next (by omega) (by simp only [Telnet.step, c1, c2, c3, c5, c9, c10, c12, ↓reduceIte, Bool.false_eq_true]) (by simp only [Telnet.step, c1, c2, c3, c5, c9, c10, c12, List.append_nil, ↓reduceIte, Bool.false_eq_true]) (by simp only [Telnet.step, c1, c2, c3, c5, c9, c10, c12, List.append_nil, ↓reduceIte, Bool.false_eq_true]), by assumption, by assumption, by assumption, by assumption, by assumption, by assumption⟩
  · omega
 have c2p := kz c2
 refine G_exit ?_
 refine GQ_then_exit ?_
 refine GQ_then_exit ?_
 refine GQ_block_exit ?_
 refine GQ_sub (.cons (k := 2) rfl (.cons (k := 4) rfl (.cons (k := 8) rfl (.cons (k := 9) rfl (.nil _))))) ?_
 refine GQ_then ?_
 refine G_seq ?_
 refine G_planN (N := 7) [0, 0, 2, 7, 15, 31, 63] mix (by kernel_rfl) rfl ?_
 refine Plan_float 0 rfl rfl (by kernel_rfl) (OK_s (EX_s (PS_loadA rfl tya41 (.tail _ (.tail _ (.tail _ (.tail _ (.head _))))) (Lens.id Telnet.fl.len Telnet.fl.one) rfl))) ?_
 refine Plan_chain 1 rfl (by kernel_rfl) ?_
 refine GL_callL rfl cf38 (.cons rfl .nil) (.cons (.tail (.tail (.tail .head))) (.cons (.tail (.tail .head)) .nil)) (strings_Builder_String_spec _ _ _ _ (by assumption) (by assumption) (by omega)) (fun v25 B hv => ?_)
 obtain ⟨rfl, rfl⟩ := hv
 refine GL_hand rfl ⟨?_, ?_⟩
 · exact (Pend_okv rfl (OK_s (EX_s (PS_loadA rfl tya41 (.tail _ (.tail _ (.tail _ (.head _)))) (Lens.id Telnet.fl.len Telnet.fl.one) rfl))) rfl rfl Pend_nil)
 refine Plan_chain 2 rfl (by kernel_rfl) ?_
 refine GL_callL rfl cf38 (.cons rfl .nil) (.cons (.tail (.tail .head)) (.cons (.tail .head) .nil)) (strings_Builder_String_spec _ _ _ _ (by assumption) (by assumption) (by omega)) (fun v26 B hv => ?_)
 obtain ⟨rfl, rfl⟩ := hv
 refine GL_hand rfl ⟨?_, ?_⟩
 · exact (Pend_okv rfl (OK_s (EX_s (PS_loadA rfl tya41 (.tail _ (.tail _ (.head _))) (Lens.id Telnet.fl.len Telnet.fl.one) rfl))) rfl rfl Pend_nil)
 refine Plan_chain 3 rfl (by kernel_rfl) ?_
 refine GL_unit (PU_store (Lens.id Telnet.fl.len Telnet.fl.one) rfl rfl rfl sz41 rfl (.tail (.tail (.tail (.tail .head))))) ?_
 refine GL_hand0 rfl ⟨?_, ?_⟩
 · exact (Pend_skip (by kernel_rfl) Pend_nil)
 refine Plan_float 4 rfl rfl (by kernel_rfl) (OK_s (EX_s (PS_assign rfl))) ?_
 refine Plan_float 5 rfl rfl (by kernel_rfl) (OK_s (EX_s (PS_assign rfl))) ?_
 refine Plan_float 6 rfl rfl (by kernel_rfl) (OK_s (EX_s (PS_assign rfl))) ?_
 refine Plan_end (by kernel_rfl) ?_
 refine GQ_sub (.cons (k := 4) rfl (.cons (k := 5) rfl (.cons (k := 6) rfl (.cons (k := 7) rfl (.nil _))))) ?_
 refine GQ_then ?_
 refine G_ret ?_
 refine GQ_ret rfl (.cell rfl (.tail _ (.tail _ (.tail _ (.tail _ (.head _))))) (.inl ⟨(by rw [Telnet.fl.len]; exact tya41), rfl⟩) (.tmp rfl (.tmp rfl (.tmp rfl .nil)))) ?_
 intro w1 hS; refine ⟨?_, hS.toKeep⟩; rw [show X.Feed u = _ from if_f c1, hI11.done (by omega)]; rfl
theorem keep_feeds_spec  (w : World) : Ret Tryd.prog 29 #[] w fun v w' => v = .bool true ∧ Keep w w' := by
 refine Ret_body [] [] Tryd.func29 rfl rfl rfl (St.start w []) ?_
 refine G_seq ?_
 refine G_region ?_
 refine GL_step rfl (PS_assign rfl) ?_
 refine GL_nil ?_
 refine GQ_sub (.nil _) ?_
 refine GQ_then ?_
 refine G_seq ?_
 refine G_region ?_
 refine GL_step rfl (PS_build pl41 zv41 rfl .nil) ?_
 refine GL_pure rfl cf23 (.cons rfl (.cons rfl .nil)) (fun w hS => telnet_Feed_spec default _ (by decide) (by decide) (by decide) w) ?_
 refine GL_step rfl (PS_move rfl) ?_
 refine GL_step rfl (PS_extract rfl rfl) ?_
 refine GL_step rfl (PS_extract rfl rfl) ?_
 refine GL_step rfl (PS_extract rfl rfl) ?_
 refine GL_step rfl (PS_extract rfl rfl) ?_
 refine GL_alloc rfl zv41 rfl (fun b1 => ?_)
 refine GL_unit (PU_store (Lens.id Telnet.fl.len Telnet.fl.one) rfl rfl rfl sz41 rfl .head) ?_
 refine GL_step rfl (PS_assign rfl) ?_
 refine GL_step rfl (PS_assign rfl) ?_
 refine GL_step rfl (PS_assign rfl) ?_
 refine GL_nil ?_
 refine GQ_sub (.cons (k := 1) rfl (.cons (k := 2) rfl (.cons (k := 3) rfl (.cons (k := 4) rfl (.nil _))))) ?_
 refine GQ_then ?_
 refine G_seq ?_
 refine G_region ?_
 refine GL_step rfl (PS_move rfl) ?_
 refine GL_step rfl (PS_eql rfl rfl) ?_
 refine GL_step rfl (PS_move rfl) ?_
 refine GL_gt (t := 14) rfl rfl rfl (fun q => PS_move rfl) ?_
 refine GL_gt (t := 14) rfl rfl rfl (fun q => PS_eql_str (cvE rfl q) rfl) ?_
 refine GL_step rfl (PS_and rfl rfl (fun h => h)) ?_
 refine GL_step rfl (PS_move rfl) ?_
 refine GL_gt (t := 18) rfl rfl rfl (fun q => PS_move rfl) ?_
 refine GL_gt (t := 18) rfl rfl rfl (fun q => PS_eql_str (cvE rfl q) rfl) ?_
 refine GL_step rfl (PS_and rfl rfl (fun h => h)) ?_
 refine GL_step rfl (PS_move rfl) ?_
 refine GL_gt (t := 22) rfl rfl rfl (fun q => PS_fieldAddr fa41_3 rfl) ?_
 refine GL_gt (t := 22) rfl rfl rfl (fun q => PS_indexAddr ia39 (cvE rfl q) rfl (by decide) (by decide)) ?_
 refine GL_gt (t := 22) rfl rfl rfl (fun q => PS_load (cvE rfl q) tys3 (.head _) (Telnet.l3.comp (Lens.arr (n := 3) flI (by decide) (by decide))) rfl rfl) ?_
 refine GL_gt (t := 22) rfl rfl rfl (fun q => PS_eql (cvE rfl q) rfl) ?_
 refine GL_step rfl (PS_and rfl rfl (fun h => h)) ?_
 refine GL_step rfl (PS_assign rfl) ?_
 refine GL_nil ?_
 refine GQ_sub (.cons (k := 0) rfl (.nil _)) ?_
 refine GQ_then ?_
 refine G_ret ?_
 refine GQ_ret rfl (.tmp rfl .nil) ?_
 intro w1 hS; refine ⟨?_, hS.toKeep⟩; kernel_rfl
theorem internal_stringslite_IndexByte_spec (s : Str) (c : UInt8) (w : World) : Ret Tryd.prog 58 #[vstr s, .int .u8 (c.toNat : Int)] w fun v w' => v = .int .i64 (Lib.indexByte s c) ∧ Keep w w' := by
 refine Ret_body [] [] Tryd.func58 rfl rfl rfl (St.start w []) ?_
 refine G_seq ?_
 refine G_region ?_
 refine GL_step rfl (PS_assign rfl) ?_
 refine GL_nil ?_
 refine GQ_sub (.cons (k := 0) rfl (.cons (k := 1) rfl (.nil _))) ?_
 refine GQ_then ?_
 refine G_seq ?_
 refine G_region ?_
 refine GL_step rfl (PS_move rfl) ?_
 refine GL_step rfl (PS_move rfl) ?_
 refine GL_step rfl (PS_indexByteString Tryd.func62 (by kernel_rfl) (by kernel_rfl) (by kernel_rfl) (by kernel_rfl) rfl rfl) ?_
 refine GL_step rfl (PS_assign rfl) ?_
 refine GL_nil ?_
 refine GQ_sub (.cons (k := 4) rfl (.nil _)) ?_
 refine GQ_then ?_
 refine G_ret ?_
 refine GQ_ret rfl (.tmp rfl .nil) ?_
 intro w1 hS; refine ⟨?_, hS.toKeep⟩; rfl
theorem internal_stringslite_Index_spec (s : Str) (c : UInt8) (w : World) : Ret Tryd.prog 55 #[vstr s, vstr [c]] w fun v w' => v = .int .i64 (Lib.indexByte s c) ∧ Keep w w' := by
 refine Ret_body [] [] Tryd.func55 rfl rfl rfl (St.start w []) ?_
 refine G_seq ?_
 refine G_region ?_
 refine GL_step rfl (PS_assign rfl) ?_
 refine GL_nil ?_
 refine GQ_sub (.cons (k := 0) rfl (.cons (k := 1) rfl (.nil _))) ?_
 refine GQ_then ?_
 refine G_seq ?_
 refine G_region ?_
 refine GL_step rfl (PS_move rfl) ?_
 refine GL_step rfl (PS_len_str rfl Tryd.underlying9 rfl) ?_
 refine GL_step rfl (PS_assign rfl) ?_
 refine GL_nil ?_
 refine GQ_sub (.cons (k := 0) rfl (.cons (k := 1) rfl (.cons (k := 5) rfl (.nil _)))) ?_
 refine GQ_then ?_
 refine G_seq ?_
 refine G_block ?_
 refine G_seq ?_
 refine G_region ?_
 refine GL_step rfl (PS_move rfl) ?_
 refine GL_step rfl (PS_eql rfl rfl) ?_
 refine GL_step rfl (PS_move rfl) ?_
 refine GL_gf (t := 19) rfl rfl rfl (fun q => PS_move rfl) ?_
 refine GL_gf (t := 19) rfl rfl rfl (fun q => PS_move rfl) ?_
 refine GL_gf (t := 19) rfl rfl rfl (fun q => PS_eql_str (cvE rfl (by rw [q]; rfl)) (cvE rfl (by rw [q]; rfl))) ?_
 refine GL_step rfl (PS_or rfl rfl (fun h => by rw [h]; rfl)) ?_
 refine GL_step rfl (PS_assign rfl) ?_
 refine GL_nil ?_
 refine GQ_sub (.cons (k := 0) rfl (.cons (k := 1) rfl (.cons (k := 5) rfl (.cons (k := 16) rfl (.nil _))))) ?_
 refine GQ_then ?_
 refine G_cond rfl (fun c1 => ?_) (fun c1 => ?_)
 ·
  have c1p := kz c1
  refine G_seq ?_
  refine G_region ?_
  refine GL_step rfl (PS_assign rfl) ?_
  refine GL_nil ?_
  refine GQ_sub (.cons (k := 4) rfl (.nil _)) ?_
  refine GQ_then ?_
  refine G_ret ?_
  refine GQ_block_ret ?_
  refine GQ_then_ret ?_
  refine GQ_ret rfl (.tmp rfl .nil) ?_
  intro w1 hS; refine ⟨?_, hS.toKeep⟩; have e : [c] = s := by simpa using c1
  rw [← e, Page.index_one]; rfl
 have c1p := kz c1
 refine G_seq ?_
 refine G_region ?_
 refine GL_step rfl (PS_move rfl) ?_
 refine GL_step rfl (PS_eql rfl rfl) ?_
 refine GL_step rfl (PS_assign rfl) ?_
 refine GL_nil ?_
 refine GQ_sub (.cons (k := 0) rfl (.cons (k := 1) rfl (.cons (k := 5) rfl (.cons (k := 24) rfl (.nil _))))) ?_
 refine GQ_then ?_
 refine G_true rfl (by simp) ?_
 refine G_seq ?_
 refine G_region ?_
 refine GL_step rfl (PS_move rfl) ?_
 refine GL_step rfl (PS_move rfl) ?_
 refine GL_step rfl (PS_index_str Tryd.underlying9 rfl rfl (by decide) (by first | omega | simp)) ?_
 refine GL_pure rfl cf58 (.cons rfl (.cons rfl .nil)) (fun w hS => internal_stringslite_IndexByte_spec _ _ w) ?_
 refine GL_step rfl (PS_assign rfl) ?_
 refine GL_nil ?_
 refine GQ_sub (.cons (k := 4) rfl (.nil _)) ?_
 refine GQ_then ?_
 refine G_ret ?_
 refine GQ_block_ret ?_
 refine GQ_then_ret ?_
 refine GQ_ret rfl (.tmp rfl .nil) ?_
 intro w1 hS; refine ⟨?_, hS.toKeep⟩; rfl
theorem strings_Index_spec (s : Str) (c : UInt8) (w : World) : Ret Tryd.prog 49 #[vstr s, vstr [c]] w fun v w' => v = .int .i64 (Lib.indexByte s c) ∧ Keep w w' := by
 refine Ret_body [] [] Tryd.func49 rfl rfl rfl (St.start w []) ?_
 refine G_seq ?_
 refine G_region ?_
 refine GL_step rfl (PS_assign rfl) ?_
 refine GL_nil ?_
 refine GQ_sub (.cons (k := 0) rfl (.cons (k := 1) rfl (.nil _))) ?_
 refine GQ_then ?_
 refine G_seq ?_
 refine G_region ?_
 refine GL_step rfl (PS_move rfl) ?_
 refine GL_step rfl (PS_move rfl) ?_
 refine GL_pure rfl cf55 (.cons rfl (.cons rfl .nil)) (fun w hS => internal_stringslite_Index_spec _ _ w) ?_
 refine GL_step rfl (PS_assign rfl) ?_
 refine GL_nil ?_
 refine GQ_sub (.cons (k := 4) rfl (.nil _)) ?_
 refine GQ_then ?_
 refine G_ret ?_
 refine GQ_ret rfl (.tmp rfl .nil) ?_
 intro w1 hS; refine ⟨?_, hS.toKeep⟩; rfl
theorem strings_Count_spec (s : Str) (c : UInt8) (w : World) : Ret Tryd.prog 47 #[vstr s, vstr [c]] w fun v w' => v = .int .i64 ((s.count c : Nat) : Int) ∧ Keep w w' := by
 refine Ret_body [] [] Tryd.func47 rfl rfl rfl (St.start w []) ?_
 refine G_seq ?_
 refine G_region ?_
 refine GL_step rfl (PS_assign rfl) ?_
 refine GL_nil ?_
 refine GQ_sub (.cons (k := 0) rfl (.cons (k := 1) rfl (.nil _))) ?_
 refine GQ_then ?_
 refine G_seq ?_
 refine G_seq ?_
 refine G_region ?_
 refine GL_step rfl (PS_move rfl) ?_
 refine GL_step rfl (PS_len_str rfl Tryd.underlying9 rfl) ?_
 refine GL_step rfl (PS_eql rfl rfl) ?_
 refine GL_nil ?_
 refine GQ_sub (.cons (k := 0) rfl (.cons (k := 1) rfl (.cons (k := 9) rfl (.nil _)))) ?_
 refine GQ_then ?_
 refine G_false rfl (by simp) ?_
 refine G_skip ?_
 refine GQ_sub (.cons (k := 0) rfl (.cons (k := 1) rfl (.nil _))) ?_
 refine GQ_then ?_
 refine G_seq ?_
 refine G_seq ?_
 refine G_region ?_
 refine GL_step rfl (PS_move rfl) ?_
 refine GL_step rfl (PS_len_str rfl Tryd.underlying9 rfl) ?_
 refine GL_step rfl (PS_eql rfl rfl) ?_
 refine GL_nil ?_
 refine GQ_sub (.cons (k := 0) rfl (.cons (k := 1) rfl (.cons (k := 15) rfl (.nil _)))) ?_
 refine GQ_then ?_
 refine G_true rfl (by simp) ?_
 refine G_seq ?_
 refine G_region ?_
 refine GL_step rfl (PS_move rfl) ?_
 refine GL_step rfl (PS_move rfl) ?_
 refine GL_step rfl (PS_index_str Tryd.underlying9 rfl rfl (by decide) (by first | omega | simp)) ?_
 refine GL_step rfl (PS_countString Tryd.func53 (by kernel_rfl) (by kernel_rfl) (by kernel_rfl) (by kernel_rfl) rfl rfl) ?_
 refine GL_step rfl (PS_assign rfl) ?_
 refine GL_nil ?_
 refine GQ_sub (.cons (k := 4) rfl (.nil _)) ?_
 refine GQ_then ?_
 refine G_ret ?_
 refine GQ_then_ret ?_
 refine GQ_ret rfl (.tmp rfl .nil) ?_
 intro w1 hS; refine ⟨?_, hS.toKeep⟩; rfl
theorem strings_Builder_grow_spec (b : Nat) (m : Int) (h0 : 0 < m) (h1 : m ≤ 281474976710656) : Ctr Tryd.prog 54 #[.pointer (some ⟨b, 0, none⟩), .int .i64 m] [Res.box b 52 (BldV.enc ⟨some ⟨b, 0, none⟩, ⟨none, 0, 0⟩⟩)] (fun v B => ∃ h', v = .tuple #[] ∧ h'.Z ∧ h'.len = 0 ∧ m.toNat ≤ h'.cap ∧ B = [Res.box b 52 (BldV.enc ⟨some ⟨b, 0, none⟩, h'⟩), Res.own h' 5 1 (([] : Str).flatMap encY)]) := by
 intro w hS0
 refine Ret_body _ _ Tryd.func54 rfl rfl rfl (hS0) ?_
 refine G_seq ?_
 refine G_planN (N := 16) [0, 1, 3, 7, 15, 31, 0, 127, 255, 0, 512, 1536, 3584, 7680, 16383, 32767] mix (by kernel_rfl) rfl ?_
 refine Plan_float 0 rfl rfl (by kernel_rfl) (OK_s (EX_s (PS_move rfl))) ?_
 refine Plan_float 1 rfl rfl (by kernel_rfl) (OK_s (EX_s (PS_nilCheck rfl))) ?_
 refine Plan_float 2 rfl rfl (by kernel_rfl) (OK_s (EX_s (PS_fieldAddr fa52_1 rfl))) ?_
 refine Plan_float 3 rfl rfl (by kernel_rfl) (OK_s (EX_s (PS_load rfl tys50 (.head _) BldV.l1 rfl rfl))) ?_
 refine Plan_float 4 rfl rfl (by kernel_rfl) (OK_s (EX_s (PS_cap_slice rfl Tryd.underlying50 rfl))) ?_
 refine Plan_float 5 rfl rfl (by kernel_rfl) (OK_s (EX_s (PS_mul rfl rfl (IntWalk.i64_in _ (by first | omega | (dsimp only; omega)))))) ?_
 refine Plan_float 6 rfl rfl (by kernel_rfl) (OK_s (EX_s (PS_move rfl))) ?_
 refine Plan_float 7 rfl rfl (by kernel_rfl) (OK_s (EX_s (PS_add rfl rfl (IntWalk.i64_in _ (by first | omega | (dsimp only; omega)))))) ?_
 refine Plan_float 9 rfl rfl (by kernel_rfl) (OK_s (EX_s (PS_move rfl))) ?_
 refine Plan_float 10 rfl rfl (by kernel_rfl) (OK_s (EX_s (PS_nilCheck rfl))) ?_
 refine Plan_float 11 rfl rfl (by kernel_rfl) (OK_s (EX_s (PS_fieldAddr fa52_1 rfl))) ?_
 refine Plan_float 12 rfl rfl (by kernel_rfl) (OK_s (EX_s (PS_load rfl tys50 (.head _) BldV.l1 rfl rfl))) ?_
 refine Plan_float 13 rfl rfl (by kernel_rfl) (OK_s (EX_s (PS_len_slice rfl Tryd.underlying50 rfl))) ?_
 refine Plan_chain 8 rfl (by kernel_rfl) ?_
 refine GL_mkNoZero (ps := #[3]) rfl Tryd.func57 (by kernel_rfl) (by kernel_rfl) (by kernel_rfl) (by kernel_rfl) Tryd.underlying50 sz5 rfl (by first | omega | (dsimp only; omega)) (by first | omega | (dsimp only; omega)) (fun b1 b1c b1x b1l b1k => ?_)
 refine GL_hand rfl ⟨?_, ?_⟩
 · exact (Pend_okv rfl (OK_s (EX_s (PS_len_slice rfl Tryd.underlying50 rfl))) rfl rfl (Pend_okv rfl (OK_s (EX_s (PS_load rfl tys50 (.tail _ (.head _)) BldV.l1 rfl rfl))) rfl rfl (Pend_okv rfl (OK_s (EX_s (PS_fieldAddr fa52_1 rfl))) rfl rfl (Pend_okv rfl (OK_s (EX_s (PS_nilCheck rfl))) rfl rfl (Pend_okv rfl (OK_s (EX_s (PS_move rfl))) rfl rfl (Pend_skip (by kernel_rfl) (Pend_skip (by kernel_rfl) (Pend_skip (by kernel_rfl) (Pend_skip (by kernel_rfl) (Pend_skip (by kernel_rfl) (Pend_skip (by kernel_rfl) (Pend_skip (by kernel_rfl) (Pend_skip (by kernel_rfl) Pend_nil)))))))))))))
 refine Plan_chain 14 rfl (by kernel_rfl) ?_
 refine GL_cutToF flY rfl Tryd.underlying50 sz5 rfl rfl (by first | omega | (dsimp only; omega)) (by first | omega | (dsimp only; omega)) (fun _ => .head) ?_
 refine GL_hand rfl ⟨?_, ?_⟩
 · exact (Pend_skip (by kernel_rfl) (Pend_skip (by kernel_rfl) (Pend_skip (by kernel_rfl) (Pend_skip (by kernel_rfl) (Pend_skip (by kernel_rfl) (Pend_skip (by kernel_rfl) (Pend_skip (by kernel_rfl) (Pend_skip (by kernel_rfl) (Pend_skip (by kernel_rfl) (Pend_skip (by kernel_rfl) (Pend_skip (by kernel_rfl) (Pend_skip (by kernel_rfl) (Pend_skip (by kernel_rfl) Pend_nil)))))))))))))
 refine Plan_float 15 rfl rfl (by kernel_rfl) (OK_s (EX_s (PS_assign rfl))) ?_
 refine Plan_end (by kernel_rfl) ?_
 refine GQ_sub (.cons (k := 0) rfl (.cons (k := 4) rfl (.nil _))) ?_
 refine GQ_then ?_
 refine G_seq ?_
 refine G_region ?_
 refine GL_step rfl (PS_move rfl) ?_
 refine GL_step rfl (PS_move rfl) ?_
 refine GL_step rfl (PS_nilCheck rfl) ?_
 refine GL_step rfl (PS_fieldAddr fa52_1 rfl) ?_
 refine GL_step rfl (PS_load rfl tys50 (.tail _ (.head _)) BldV.l1 rfl rfl) ?_
 refine GL_step rfl (PS_copy0 rfl Tryd.underlying50 sz5 rfl rfl) ?_
 refine GL_nil ?_
 refine GQ_sub (.cons (k := 0) rfl (.cons (k := 4) rfl (.nil _))) ?_
 refine GQ_then ?_
 refine G_region ?_
 refine GL_step rfl (PS_move rfl) ?_
 refine GL_step rfl (PS_move rfl) ?_
 refine GL_step rfl (PS_nilCheck rfl) ?_
 refine GL_step rfl (PS_fieldAddr fa52_1 rfl) ?_
 refine GL_unit (PU_store BldV.l1 rfl rfl rfl sz50 rfl (.tail .head)) ?_
 refine GL_nil ?_
 refine GQ_end rfl .nil ?_
 intro w1 hS
 have hS := (hS.perm (Pulls.perm (.cons (.tail .head) (.cons .head .nil)))).headL
 exact ⟨_, ⟨_, rfl, ⟨by intro a h; cases h; rfl, fun _ => by dsimp only at b1k ⊢; omega⟩, rfl, by dsimp only at b1k ⊢; omega, rfl⟩, hS⟩
theorem strings_Builder_Grow_spec (b : Nat) (m : Int) (h0 : 0 ≤ m) (h1 : m ≤ 281474976710656) : Ctr Tryd.prog 48 #[.pointer (some ⟨b, 0, none⟩), .int .i64 m] [Res.box b 52 (BldV.enc ⟨none, ⟨none, 0, 0⟩⟩)] (fun v B => ∃ h', v = .tuple #[] ∧ h'.Z ∧ h'.len = 0 ∧ m.toNat ≤ h'.cap ∧ B = [Res.box b 52 (BldV.enc ⟨some ⟨b, 0, none⟩, h'⟩), Res.own h' 5 1 (([] : Str).flatMap encY)]) := by
 intro w hS0
 refine Ret_body _ _ Tryd.func48 rfl rfl rfl (hS0) ?_
 refine G_seq ?_
 refine G_region ?_
 refine GL_step rfl (PS_move rfl) ?_
 refine GL_callL rfl cf43 (.cons rfl .nil) (.cons .head .nil) (strings_Builder_copyCheck_spec _ _ _ (.inl rfl)) (fun v1 B hv => ?_)
 obtain ⟨rfl, rfl⟩ := hv
 refine GL_nil ?_
 refine GQ_sub (.cons (k := 0) rfl (.cons (k := 1) rfl (.nil _))) ?_
 refine GQ_then ?_
 refine G_seq ?_
 refine G_seq ?_
 refine G_region ?_
 refine GL_step rfl (PS_move rfl) ?_
 refine GL_step rfl (PS_lss rfl rfl) ?_
 refine GL_nil ?_
 refine GQ_sub (.cons (k := 0) rfl (.cons (k := 1) rfl (.cons (k := 7) rfl (.nil _)))) ?_
 refine GQ_then ?_
 refine G_false rfl (by simp; omega) ?_
 refine G_skip ?_
 refine GQ_sub (.cons (k := 0) rfl (.cons (k := 1) rfl (.nil _))) ?_
 refine GQ_then ?_
 refine G_seq ?_
 refine G_planN (N := 13) [0, 1, 3, 7, 15, 0, 32, 96, 224, 480, 1023, 0, 4095] mix (by kernel_rfl) rfl ?_
 refine Plan_float 0 rfl rfl (by kernel_rfl) (OK_s (EX_s (PS_move rfl))) ?_
 refine Plan_float 1 rfl rfl (by kernel_rfl) (OK_s (EX_s (PS_nilCheck rfl))) ?_
 refine Plan_float 2 rfl rfl (by kernel_rfl) (OK_s (EX_s (PS_fieldAddr fa52_1 rfl))) ?_
 refine Plan_float 3 rfl rfl (by kernel_rfl) (OK_s (EX_s (PS_load rfl tys50 (.head _) BldV.l1 rfl rfl))) ?_
 refine Plan_float 4 rfl rfl (by kernel_rfl) (OK_s (EX_s (PS_cap_slice rfl Tryd.underlying50 rfl))) ?_
 refine Plan_float 5 rfl rfl (by kernel_rfl) (OK_s (EX_s (PS_move rfl))) ?_
 refine Plan_float 6 rfl rfl (by kernel_rfl) (OK_s (EX_s (PS_nilCheck rfl))) ?_
 refine Plan_float 7 rfl rfl (by kernel_rfl) (OK_s (EX_s (PS_fieldAddr fa52_1 rfl))) ?_
 refine Plan_float 8 rfl rfl (by kernel_rfl) (OK_s (EX_s (PS_load rfl tys50 (.head _) BldV.l1 rfl rfl))) ?_
 refine Plan_float 9 rfl rfl (by kernel_rfl) (OK_s (EX_s (PS_len_slice rfl Tryd.underlying50 rfl))) ?_
 refine Plan_float 10 rfl rfl (by kernel_rfl) (OK_s (EX_s (PS_sub rfl rfl (IntWalk.i64_in _ (by first | omega | (dsimp only; omega)))))) ?_
 refine Plan_float 11 rfl rfl (by kernel_rfl) (OK_s (EX_s (PS_move rfl))) ?_
 refine Plan_float 12 rfl rfl (by kernel_rfl) (OK_s (EX_s (PS_lss rfl rfl))) ?_
 refine Plan_end (by kernel_rfl) ?_
 refine GQ_sub (.cons (k := 0) rfl (.cons (k := 1) rfl (.cons (k := 21) rfl (.nil _)))) ?_
 refine GQ_then ?_
 refine G_cond rfl (fun c1 => ?_) (fun c1 => ?_)
 ·
  have c1p := kz c1
  refine G_region ?_
  refine GL_step rfl (PS_move rfl) ?_
  refine GL_step rfl (PS_move rfl) ?_
  refine GL_callL rfl cf54 (.cons rfl (.cons rfl .nil)) (.cons .head .nil) (strings_Builder_grow_spec _ _ (by dsimp only at *; omega) h1) (fun v2 B hv => ?_)
  obtain ⟨y3, rfl, y4, y5, y6, rfl⟩ := hv
  refine GL_nil ?_
  refine GQ_end rfl .nil ?_
  intro w1 hS
  have hS := (hS.perm (Pulls.perm (.cons .head (.cons .head .nil)))).headL
  exact ⟨_, ⟨_, rfl, by assumption, by assumption, by assumption, rfl⟩, hS⟩
 have c1p := kz c1
 refine G_skip ?_
 refine GQ_end rfl .nil ?_
 intro w1 hS
 have hS := hS.own_nil 5 1
 have hS := (hS.perm (Pulls.perm (.cons (.tail .head) (.cons .head .nil)))).headL
 exact ⟨_, ⟨_, rfl, Hd.Z_nil, rfl, by dsimp only at *; omega, rfl⟩, hS⟩
theorem strings_Replace_spec (s : Str) (hs : s.length ≤ 140737488351232) (w : World) : Ret Tryd.prog 42 #[vstr s, vstr [255], vstr [255, 255], .int .i64 (-1)] w fun v w' => v = vstr (Page.escape s) ∧ Keep w w' := by
 have hcl := List.count_le_length (a := (255 : UInt8)) (l := s)
 refine Ret_body [] [] Tryd.func42 rfl rfl rfl (St.start w []) ?_
 refine G_seq ?_
 refine G_region ?_
 refine GL_step rfl (PS_assign rfl) ?_
 refine GL_nil ?_
 refine GQ_sub (.cons (k := 0) rfl (.cons (k := 1) rfl (.cons (k := 2) rfl (.cons (k := 3) rfl (.nil _))))) ?_
 refine GQ_then ?_
 refine G_seq ?_
 refine G_seq ?_
 refine G_region ?_
 refine GL_step rfl (PS_move rfl) ?_
 refine GL_step rfl (PS_move rfl) ?_
 refine GL_step rfl (PS_eql_str rfl rfl) ?_
 refine GL_step rfl (PS_move rfl) ?_
 refine GL_gf (t := 19) rfl rfl rfl (fun q => PS_move rfl) ?_
 refine GL_gf (t := 19) rfl rfl rfl (fun q => PS_eql (cvE rfl (by rw [q]; rfl)) rfl) ?_
 refine GL_step rfl (PS_or rfl rfl (fun h => by rw [h]; rfl)) ?_
 refine GL_nil ?_
 refine GQ_sub (.cons (k := 0) rfl (.cons (k := 1) rfl (.cons (k := 2) rfl (.cons (k := 3) rfl (.cons (k := 22) rfl (.nil _)))))) ?_
 refine GQ_then ?_
 refine G_false rfl (by simp) ?_
 refine G_skip ?_
 refine GQ_sub (.cons (k := 0) rfl (.cons (k := 1) rfl (.cons (k := 2) rfl (.cons (k := 3) rfl (.nil _))))) ?_
 refine GQ_then ?_
 refine G_seq ?_
 refine G_seq ?_
 refine G_region ?_
 refine GL_step rfl (PS_move rfl) ?_
 refine GL_step rfl (PS_move rfl) ?_
 refine GL_pure rfl cf47 (.cons rfl (.cons rfl .nil)) (fun w hS => strings_Count_spec _ 255 w) ?_
 refine GL_step rfl (PS_assign rfl) ?_
 refine GL_nil ?_
 refine GQ_sub (.cons (k := 0) rfl (.cons (k := 1) rfl (.cons (k := 2) rfl (.cons (k := 3) rfl (.cons (k := 9) rfl (.nil _)))))) ?_
 refine GQ_then ?_
 refine G_seq ?_
 refine G_region ?_
 refine GL_step rfl (PS_move rfl) ?_
 refine GL_step rfl (PS_eql rfl rfl) ?_
 refine GL_nil ?_
 refine GQ_sub (.cons (k := 0) rfl (.cons (k := 1) rfl (.cons (k := 2) rfl (.cons (k := 3) rfl (.cons (k := 9) rfl (.cons (k := 28) rfl (.nil _))))))) ?_
 refine GQ_then ?_
 refine G_cond rfl (fun c1 => ?_) (fun c1 => ?_)
 ·
  have c1p := kz c1
  refine G_seq ?_
  refine G_region ?_
  refine GL_step rfl (PS_move rfl) ?_
  refine GL_step rfl (PS_assign rfl) ?_
  refine GL_nil ?_
  refine GQ_sub (.cons (k := 8) rfl (.nil _)) ?_
  refine GQ_then ?_
  refine G_ret ?_
  refine GQ_then_ret ?_
  refine GQ_ret rfl (.tmp rfl .nil) ?_
  intro w1 hS; refine ⟨?_, hS.toKeep⟩; have e : s.count 255 = 0 := by simp at c1; omega
  rw [Page.escape_none _ e]; rfl
 have c1p := kz c1
 refine G_seq ?_
 refine G_region ?_
 refine GL_step rfl (PS_move rfl) ?_
 refine GL_step rfl (PS_lss rfl rfl) ?_
 refine GL_step rfl (PS_move rfl) ?_
 refine GL_gf (t := 32) rfl rfl rfl (fun q => PS_move rfl) ?_
 refine GL_gf (t := 32) rfl rfl rfl (fun q => PS_move rfl) ?_
 refine GL_gf (t := 32) rfl rfl rfl (fun q => PS_lss (cvE rfl (by rw [q]; rfl)) (cvE rfl (by rw [q]; rfl))) ?_
 refine GL_step rfl (PS_or rfl rfl (fun h => by rw [h]; rfl)) ?_
 refine GL_nil ?_
 refine GQ_sub (.cons (k := 0) rfl (.cons (k := 1) rfl (.cons (k := 2) rfl (.cons (k := 3) rfl (.cons (k := 9) rfl (.cons (k := 36) rfl (.nil _))))))) ?_
 refine GQ_then ?_
 refine G_true rfl rfl ?_
 refine G_region ?_
 refine GL_step rfl (PS_move rfl) ?_
 refine GL_step rfl (PS_assign rfl) ?_
 refine GL_nil ?_
 refine GQ_sub (.cons (k := 0) rfl (.cons (k := 1) rfl (.cons (k := 2) rfl (.cons (k := 3) rfl (.nil _))))) ?_
 refine GQ_then ?_
 refine G_seq ?_
 refine G_region ?_
 refine GL_alloc rfl zv52 rfl (fun b1 => ?_)
 refine GL_nilF encY 5 1 ?_
 refine GL_nil ?_
 refine GQ_then ?_
 refine G_seq ?_
 refine G_region ?_
 refine GL_step rfl (PS_move rfl) ?_
 refine GL_step rfl (PS_len_str rfl Tryd.underlying9 rfl) ?_
 refine GL_step rfl (PS_move rfl) ?_
 refine GL_step rfl (PS_move rfl) ?_
 refine GL_step rfl (PS_len_str rfl Tryd.underlying9 rfl) ?_
 refine GL_step rfl (PS_move rfl) ?_
 refine GL_step rfl (PS_len_str rfl Tryd.underlying9 rfl) ?_
 refine GL_step rfl (PS_sub rfl rfl (IntWalk.i64_in _ (by (try simp only [List.length_cons, List.length_nil]); omega))) ?_
 refine GL_step rfl (PS_mul rfl rfl (IntWalk.i64_in _ (by (try simp only [List.length_cons, List.length_nil]); omega))) ?_
 refine GL_step rfl (PS_add rfl rfl (IntWalk.i64_in _ (by (try simp only [List.length_cons, List.length_nil]); omega))) ?_
 refine GL_callL rfl cf48 (.cons rfl (.cons rfl .nil)) (.cons (.tail .head) .nil) (strings_Builder_Grow_spec _ _ (by simp only [List.length_cons, List.length_nil]; omega) (by simp only [List.length_cons, List.length_nil]; omega)) (fun v1 B hv => ?_)
 obtain ⟨y2, rfl, y3, y4, y5, rfl⟩ := hv
 refine GL_nil ?_
 refine GQ_sub (.cons (k := 0) rfl (.cons (k := 1) rfl (.cons (k := 2) rfl (.cons (k := 3) rfl (.cons (k := 10) rfl (.nil _)))))) ?_
 refine GQ_then ?_
 refine G_seq ?_
 refine G_region ?_
 refine GL_step rfl (PS_assign rfl) ?_
 refine GL_nil ?_
 refine GQ_then ?_
 refine G_seq ?_
 refine G_seq ?_
 refine G_region ?_
 refine GL_step rfl (PS_move rfl) ?_
 refine GL_step rfl (PS_len_str rfl Tryd.underlying9 rfl) ?_
 refine GL_step rfl (PS_gtr rfl rfl) ?_
 refine GL_nil ?_
 refine GQ_sub (.cons (k := 0) rfl (.cons (k := 1) rfl (.cons (k := 2) rfl (.cons (k := 3) rfl (.cons (k := 10) rfl (.cons (k := 11) rfl (.cons (k := 51) rfl (.nil _)))))))) ?_
 refine GQ_then ?_
 refine G_true rfl (by simp) ?_
 refine G_seq ?_
 refine G_region ?_
 refine GL_step rfl (PS_move rfl) ?_
 refine GL_step rfl (PS_move rfl) ?_
 refine GL_nil ?_
 refine GQ_sub (.cons (k := 0) rfl (.cons (k := 1) rfl (.cons (k := 2) rfl (.cons (k := 10) rfl (.cons (k := 11) rfl (.cons (k := 52) rfl (.cons (k := 53) rfl (.nil _)))))))) ?_
 refine GQ_then ?_
 refine G_block ?_
 refine G_subF (.cons (k := 11) rfl (.cons (k := 53) rfl (.cons (k := 0) rfl (.cons (k := 1) rfl (.cons (k := 2) rfl (.cons (k := 10) rfl (.cons (k := 52) rfl (.nil _)))))))) ?_
 refine G_pull (.tail .head) ?_
 refine G_pull (.tail .head) ?_
 refine G_loop5_ (fun (k : Int) (start : Int) (x : Str) (p : Option Addr) (h : Hd) => Page.RepI s (s.count 255) k start x ∧ (p = none ∨ p = some ⟨b1, 0, none⟩) ∧ h.Z ∧ h.len = x.length ∧ s.length + s.count 255 ≤ h.cap) (fun (k : Int) (start : Int) (x : Str) (p : Option Addr) (h : Hd) => ((s.count 255 : Int) - k).toNat) (fun (k : Int) (start : Int) (x : Str) (p : Option Addr) (h : Hd) => [(11, .int .i64 start), (53, .int .i64 k)]) (fun (k : Int) (start : Int) (x : Str) (p : Option Addr) (h : Hd) => [Res.box b1 52 (BldV.enc ⟨p, h⟩), Res.own h 5 1 (x.flatMap encY)]) (0) (0) ([]) (_) (_) ?_ rfl rfl (fun k start x p h hI1 => ?_)
 · exact ⟨Page.RepI.start rfl, .inr rfl, by assumption, by assumption, by (try simp only [List.length_cons, List.length_nil] at *); omega⟩
 obtain ⟨hI11, hp, hz, hl, hcp⟩ := hI1; have hk0 := hI11.k0; have hs0 := hI11.s0; have hs1 := hI11.s1; have hxl := hI11.xl; have hk1 := hI11.k1; have hxe := hI11.xe
 refine G_seq ?_
 refine G_region ?_
 refine GL_step rfl (PS_lss rfl rfl) ?_
 refine GL_nil ?_
 refine GQ_then ?_
 refine G_seq ?_
 refine G_cond rfl (fun c2 => ?_) (fun c2 => ?_)
 ·
  have c2p := kz c2
  obtain ⟨i, hi, hlt, hR⟩ := hI11.idx (by omega)
  rw [← hi] at hR hlt
  refine G_skip ?_
  refine GQ_sub (.cons (k := 0) rfl (.cons (k := 1) rfl (.cons (k := 2) rfl (.cons (k := 10) rfl (.cons (k := 11) rfl (.cons (k := 52) rfl (.cons (k := 53) rfl (.nil _)))))))) ?_
  refine GQ_then ?_
  refine G_seq ?_
  refine G_block ?_
  refine G_seq ?_
  refine G_region ?_
  refine GL_step rfl (PS_move rfl) ?_
  refine GL_step rfl (PS_move rfl) ?_
  refine GL_step rfl (PS_move rfl) ?_
  refine GL_step rfl (PS_subSl Tryd.underlying9 rfl rfl (by (try simp only [List.length_cons, List.length_nil]); omega) (by (try simp only [List.length_cons, List.length_nil]); omega)) ?_
  refine GL_step rfl (PS_move rfl) ?_
  refine GL_pure rfl cf49 (.cons rfl (.cons rfl .nil)) (fun w hS => strings_Index_spec _ 255 w) ?_
  refine GL_step rfl (PS_add rfl rfl (IntWalk.i64_in _ (by (try simp only [List.length_cons, List.length_nil]); omega))) ?_
  refine GL_step rfl (PS_assign rfl) ?_
  refine GL_nil ?_
  refine GQ_sub (.cons (k := 0) rfl (.cons (k := 1) rfl (.cons (k := 2) rfl (.cons (k := 10) rfl (.cons (k := 11) rfl (.cons (k := 12) rfl (.cons (k := 52) rfl (.cons (k := 53) rfl (.nil _))))))))) ?_
  refine GQ_then ?_
  refine G_seq ?_
  refine G_region ?_
  refine GL_step rfl (PS_move rfl) ?_
  refine GL_step rfl (PS_move rfl) ?_
  refine GL_step rfl (PS_move rfl) ?_
  refine GL_step rfl (PS_subS Tryd.underlying9 rfl rfl rfl (by (try simp only [List.length_cons, List.length_nil]); omega) (by (try simp only [List.length_cons, List.length_nil]); omega) (by (try simp only [List.length_cons, List.length_nil]); omega)) ?_
  refine GL_callL rfl cf34 (.cons rfl (.cons rfl .nil)) (.cons .head (.cons .head .nil)) (strings_Builder_WriteString_spec _ _ _ _ (by assumption) (by assumption) (by assumption) _ (by right; (try simp only [List.length_drop, List.length_take, List.length_append, List.length_cons, List.length_nil]); omega)) (fun v7 B hv => ?_)
  obtain ⟨y8, y9, rfl, y10, y11, y12, y13, rfl⟩ := hv
  refine GL_nil ?_
  refine GQ_sub (.cons (k := 0) rfl (.cons (k := 1) rfl (.cons (k := 2) rfl (.cons (k := 10) rfl (.cons (k := 12) rfl (.cons (k := 52) rfl (.cons (k := 53) rfl (.nil _)))))))) ?_
  refine GQ_then ?_
  refine G_seq ?_
  refine G_region ?_
  refine GL_step rfl (PS_move rfl) ?_
  refine GL_callL rfl cf34 (.cons rfl (.cons rfl .nil)) (.cons .head (.cons .head .nil)) (strings_Builder_WriteString_spec _ _ _ _ (by assumption) (by assumption) (by assumption) _ (by have q1 := y13 (by (try simp only [List.length_drop, List.length_take, List.length_append, List.length_cons, List.length_nil]); omega); right; (try simp only [List.length_drop, List.length_take, List.length_append, List.length_cons, List.length_nil]); omega)) (fun v14 B hv => ?_)
  obtain ⟨y15, y16, rfl, y17, y18, y19, y20, rfl⟩ := hv
  refine GL_nil ?_
  refine GQ_sub (.cons (k := 0) rfl (.cons (k := 1) rfl (.cons (k := 2) rfl (.cons (k := 10) rfl (.cons (k := 12) rfl (.cons (k := 52) rfl (.cons (k := 53) rfl (.nil _)))))))) ?_
  refine GQ_then ?_
  refine G_region ?_
  refine GL_step rfl (PS_move rfl) ?_
  refine GL_step rfl (PS_move rfl) ?_
  refine GL_step rfl (PS_len_str rfl Tryd.underlying9 rfl) ?_
  refine GL_step rfl (PS_add rfl rfl (IntWalk.i64_in _ (by (try simp only [List.length_cons, List.length_nil]); omega))) ?_
  refine GL_step rfl (PS_assign rfl) ?_
  refine GL_nil ?_
  refine GQ_sub (.cons (k := 0) rfl (.cons (k := 1) rfl (.cons (k := 2) rfl (.cons (k := 10) rfl (.cons (k := 11) rfl (.cons (k := 52) rfl (.cons (k := 53) rfl (.nil _)))))))) ?_
  refine GQ_block ?_
  refine GQ_then ?_
  refine G_region ?_
  refine GL_step rfl (PS_add rfl rfl (IntWalk.i64_in _ (by (try simp only [List.length_cons, List.length_nil]); omega))) ?_
  refine GL_step rfl (PS_move rfl) ?_
  refine GL_nil ?_
  refine GQ_sub (.cons (k := 0) rfl (.cons (k := 1) rfl (.cons (k := 2) rfl (.cons (k := 10) rfl (.cons (k := 11) rfl (.cons (k := 52) rfl (.cons (k := 53) rfl (.nil _)))))))) ?_
  refine GQ_next5_ (k + 1) _ _ _ _ ?_ ?_ (.cons (k := 11) rfl (.cons (k := 53) rfl (.cons (k := 0) rfl (.cons (k := 1) rfl (.cons (k := 2) rfl (.cons (k := 10) rfl (.cons (k := 52) rfl (.nil _)))))))) (.refl _)
  · exact ⟨hR, by assumption, by assumption, by assumption, by have q1 := y13 (by (try simp only [List.length_drop, List.length_take, List.length_append, List.length_cons, List.length_nil]); omega); have q2 := y20 (by (try simp only [List.length_drop, List.length_take, List.length_append, List.length_cons, List.length_nil]); omega); omega⟩
  · omega
 have c2p := kz c2
 refine G_exit ?_
 refine GQ_then_exit ?_
 refine GQ_then_exit ?_
 refine GQ_block_exit ?_
 refine GQ_sub (.cons (k := 0) rfl (.cons (k := 10) rfl (.cons (k := 11) rfl (.nil _)))) ?_
 refine GQ_then ?_
 refine G_seq ?_
 refine G_region ?_
 refine GL_step rfl (PS_move rfl) ?_
 refine GL_step rfl (PS_move rfl) ?_
 refine GL_step rfl (PS_subSl Tryd.underlying9 rfl rfl (by (try simp only [List.length_cons, List.length_nil]); omega) (by (try simp only [List.length_cons, List.length_nil]); omega)) ?_
 refine GL_callL rfl cf34 (.cons rfl (.cons rfl .nil)) (.cons .head (.cons .head .nil)) (strings_Builder_WriteString_spec _ _ _ _ (by assumption) (by assumption) (by assumption) _ (by right; (try simp only [List.length_drop, List.length_take, List.length_append, List.length_cons, List.length_nil]); omega)) (fun v21 B hv => ?_)
 obtain ⟨y22, y23, rfl, y24, y25, y26, y27, rfl⟩ := hv
 refine GL_nil ?_
 refine GQ_sub (.cons (k := 10) rfl (.nil _)) ?_
 refine GQ_then ?_
 refine G_seq ?_
 refine G_region ?_
 refine GL_callL rfl cf38 (.cons rfl .nil) (.cons .head (.cons .head .nil)) (strings_Builder_String_spec _ _ _ _ (by assumption) (by assumption) (by (try simp only [List.length_append, List.length_drop]); omega)) (fun v28 B hv => ?_)
 obtain ⟨rfl, rfl⟩ := hv
 refine GL_step rfl (PS_assign rfl) ?_
 refine GL_nil ?_
 refine GQ_sub (.cons (k := 8) rfl (.nil _)) ?_
 refine GQ_then ?_
 refine G_ret ?_
 refine GQ_ret rfl (.tmp rfl .nil) ?_
 intro w1 hS; refine ⟨?_, hS.toKeep⟩; rw [← hI11.done (by omega)]; rfl
theorem strings_ReplaceAll_spec (s : Str) (hs : s.length ≤ 140737488351232) (w : World) : Ret Tryd.prog 32 #[vstr s, vstr [255], vstr [255, 255]] w fun v w' => v = vstr (Page.escape s) ∧ Keep w w' := by
 refine Ret_body [] [] Tryd.func32 rfl rfl rfl (St.start w []) ?_
 refine G_seq ?_
 refine G_region ?_
 refine GL_step rfl (PS_assign rfl) ?_
 refine GL_nil ?_
 refine GQ_sub (.cons (k := 0) rfl (.cons (k := 1) rfl (.cons (k := 2) rfl (.nil _)))) ?_
 refine GQ_then ?_
 refine G_seq ?_
 refine G_region ?_
 refine GL_step rfl (PS_move rfl) ?_
 refine GL_step rfl (PS_move rfl) ?_
 refine GL_step rfl (PS_move rfl) ?_
 refine GL_pure rfl cf42 (.cons rfl (.cons rfl (.cons rfl (.cons rfl .nil)))) (fun w hS => strings_Replace_spec _ (by first | assumption | omega) w) ?_
 refine GL_step rfl (PS_assign rfl) ?_
 refine GL_nil ?_
 refine GQ_sub (.cons (k := 6) rfl (.nil _)) ?_
 refine GQ_then ?_
 refine G_ret ?_
 refine GQ_ret rfl (.tmp rfl .nil) ?_
 intro w1 hS; refine ⟨?_, hS.toKeep⟩; rfl
theorem telnet_Escape_spec (s : Str) (hs : s.length ≤ 140737488351232) (w : World) : Ret Tryd.prog 21 #[vstr s] w fun v w' => v = vstr (Page.escape s) ∧ Keep w w' := by
 refine Ret_body [] [] Tryd.func21 rfl rfl rfl (St.start w []) ?_
 refine G_seq ?_
 refine G_region ?_
 refine GL_step rfl (PS_assign rfl) ?_
 refine GL_nil ?_
 refine GQ_sub (.cons (k := 0) rfl (.nil _)) ?_
 refine GQ_then ?_
 refine G_seq ?_
 refine G_region ?_
 refine GL_step rfl (PS_move rfl) ?_
 refine GL_pure rfl cf32 (.cons rfl (.cons rfl (.cons rfl .nil))) (fun w hS => strings_ReplaceAll_spec _ (by first | assumption | omega) w) ?_
 refine GL_step rfl (PS_assign rfl) ?_
 refine GL_nil ?_
 refine GQ_sub (.cons (k := 2) rfl (.nil _)) ?_
 refine GQ_then ?_
 refine G_ret ?_
 refine GQ_ret rfl (.tmp rfl .nil) ?_
 intro w1 hS; refine ⟨?_, hS.toKeep⟩; rfl
theorem keep_TelnetEscapes_spec (X : Telnet) (u : Str) (hu : u.length ≤ 140737488351232) (w : World) : Ret Tryd.prog 6 #[.agg X.enc.toArray, vstr u] w fun v w' => v = .bool true ∧ Keep w w' := by
 have he := Page.escape_len u
 refine Ret_body [] [] Tryd.func6 rfl rfl rfl (St.start w []) ?_
 refine G_seq ?_
 refine G_region ?_
 refine GL_box rfl rfl rfl (fun b1 => ?_)
 refine GL_step rfl (PS_assign rfl) ?_
 refine GL_nil ?_
 refine GQ_sub (.cons (k := 1) rfl (.cons (k := 2) rfl (.nil _))) ?_
 refine GQ_then ?_
 refine G_seq ?_
 refine G_seq ?_
 refine G_region ?_
 refine GL_step rfl (PS_loadA rfl tya41 (.head _) (Lens.id Telnet.fl.len Telnet.fl.one) rfl) ?_
 refine GL_pure rfl cf25 (.cons rfl .nil) (fun w hS => telnet_Good_spec _ w) ?_
 refine GL_step rfl (PS_not rfl) ?_
 refine GL_step rfl (PS_move rfl) ?_
 refine GL_gf (t := 12) rfl rfl rfl (fun q => PS_fieldAddr fa41_0 rfl) ?_
 refine GL_gf (t := 12) rfl rfl rfl (fun q => PS_load (cvE rfl (by rw [q]; rfl)) tys3 (.head _) Telnet.l0 rfl rfl) ?_
 refine GL_gf (t := 12) rfl rfl rfl (fun q => PS_neq (cvE rfl (by rw [q]; rfl)) rfl) ?_
 refine GL_step rfl (PS_or rfl rfl (fun h => by rw [h]; rfl)) ?_
 refine GL_nil ?_
 refine GQ_sub (.cons (k := 1) rfl (.cons (k := 2) rfl (.cons (k := 16) rfl (.nil _)))) ?_
 refine GQ_then ?_
 refine G_cond rfl (fun c1 => ?_) (fun c1 => ?_)
 ·
  have c1p := kz c1
  refine G_seq ?_
  refine G_region ?_
  refine GL_pure rfl cf29 .nil (fun w hS => keep_feeds_spec w) ?_
  refine GL_step rfl (PS_assign rfl) ?_
  refine GL_nil ?_
  refine GQ_sub (.cons (k := 4) rfl (.nil _)) ?_
  refine GQ_then ?_
  refine G_ret ?_
  refine GQ_then_ret ?_
  refine GQ_ret rfl (.tmp rfl .nil) ?_
  intro w1 hS; refine ⟨?_, hS.toKeep⟩; rfl
 have c1p := kz c1
 have hat : X.at_ = 0 := by have h := c1; simp at h; exact h.2
 have hfe := Telnet.feed_escape X hat u
 refine G_skip ?_
 refine GQ_sub (.cons (k := 1) rfl (.cons (k := 2) rfl (.nil _))) ?_
 refine GQ_then ?_
 refine G_seq ?_
 refine G_planN (N := 14) [0, 0, 2, 7, 15, 31, 31, 31, 31, 0, 575, 1663, 3839, 8191] mix (by kernel_rfl) rfl ?_
 refine Plan_float 0 rfl rfl (by kernel_rfl) (OK_s (EX_s (PS_loadA rfl tya41 (.head _) (Lens.id Telnet.fl.len Telnet.fl.one) rfl))) ?_
 refine Plan_float 1 rfl rfl (by kernel_rfl) (OK_s (EX_s (PS_move rfl))) ?_
 refine Plan_float 2 rfl rfl (by kernel_rfl) (OK_s (EX_c (PC_of cf21 (.cons rfl .nil) (fun w hS => telnet_Escape_spec _ (by omega) w)))) ?_
 refine Plan_float 3 rfl rfl (by kernel_rfl) (OK_s (EX_c (PC_of cf23 (.cons rfl (.cons rfl .nil)) (fun w hS => telnet_Feed_spec _ _ (by omega) (by rw [hfe]; exact hu) (by rw [hfe]; exact Nat.zero_le _) w)))) ?_
 refine Plan_float 4 rfl rfl (by kernel_rfl) (OK_s (EX_s (PS_move rfl))) ?_
 refine Plan_float 5 rfl rfl (by kernel_rfl) (OK_s (EX_s (PS_extract rfl rfl))) ?_
 refine Plan_float 6 rfl rfl (by kernel_rfl) (OK_s (EX_s (PS_extract rfl rfl))) ?_
 refine Plan_float 7 rfl rfl (by kernel_rfl) (OK_s (EX_s (PS_extract rfl rfl))) ?_
 refine Plan_float 8 rfl rfl (by kernel_rfl) (OK_s (EX_s (PS_extract rfl rfl))) ?_
 refine Plan_chain 9 rfl (by kernel_rfl) ?_
 refine GL_alloc rfl zv41 rfl (fun b2 => ?_)
 refine GL_hand rfl ⟨?_, ?_⟩
 · exact (Pend_okv rfl (OK_s (EX_s (PS_extract rfl rfl))) rfl rfl (Pend_okv rfl (OK_s (EX_s (PS_extract rfl rfl))) rfl rfl (Pend_okv rfl (OK_s (EX_s (PS_extract rfl rfl))) rfl rfl (Pend_okv rfl (OK_s (EX_s (PS_extract rfl rfl))) rfl rfl (Pend_okv rfl (OK_s (EX_s (PS_move rfl))) rfl rfl (Pend_okv rfl (OK_s (EX_c (PC_of cf23 (.cons rfl (.cons rfl .nil)) (fun w hS => telnet_Feed_spec _ _ (by omega) (by rw [hfe]; exact hu) (by rw [hfe]; exact Nat.zero_le _) w)))) rfl rfl (Pend_okv rfl (OK_s (EX_c (PC_of cf21 (.cons rfl .nil) (fun w hS => telnet_Escape_spec _ (by omega) w)))) rfl rfl (Pend_okv rfl (OK_s (EX_s (PS_move rfl))) rfl rfl (Pend_okv rfl (OK_s (EX_s (PS_loadA rfl tya41 (.tail _ (.head _)) (Lens.id Telnet.fl.len Telnet.fl.one) rfl))) rfl rfl Pend_nil)))))))))
 refine Plan_chain 10 rfl (by kernel_rfl) ?_
 refine GL_unit (PU_store (Lens.id Telnet.fl.len Telnet.fl.one) rfl rfl rfl sz41 rfl .head) ?_
 refine GL_hand0 rfl ⟨?_, ?_⟩
 · exact (Pend_okv rfl (OK_s (EX_s (PS_extract rfl rfl))) rfl rfl (Pend_okv rfl (OK_s (EX_s (PS_extract rfl rfl))) rfl rfl (Pend_okv rfl (OK_s (EX_s (PS_extract rfl rfl))) rfl rfl (Pend_skip (by kernel_rfl) (Pend_skip (by kernel_rfl) (Pend_skip (by kernel_rfl) (Pend_skip (by kernel_rfl) (Pend_skip (by kernel_rfl) (Pend_skip (by kernel_rfl) Pend_nil)))))))))
 refine Plan_float 11 rfl rfl (by kernel_rfl) (OK_s (EX_s (PS_assign rfl))) ?_
 refine Plan_float 12 rfl rfl (by kernel_rfl) (OK_s (EX_s (PS_assign rfl))) ?_
 refine Plan_float 13 rfl rfl (by kernel_rfl) (OK_s (EX_s (PS_assign rfl))) ?_
 refine Plan_end (by kernel_rfl) ?_
 refine GQ_sub (.cons (k := 1) rfl (.cons (k := 2) rfl (.cons (k := 5) rfl (.cons (k := 6) rfl (.cons (k := 7) rfl (.cons (k := 8) rfl (.nil _))))))) ?_
 refine GQ_then ?_
 refine G_seq ?_
 refine G_region ?_
 refine GL_step rfl (PS_move rfl) ?_
 refine GL_step rfl (PS_eql rfl rfl) ?_
 refine GL_step rfl (PS_move rfl) ?_
 refine GL_gt (t := 29) rfl rfl rfl (fun q => PS_move rfl) ?_
 refine GL_gt (t := 29) rfl rfl rfl (fun q => PS_move rfl) ?_
 refine GL_gt (t := 29) rfl rfl rfl (fun q => PS_eql_str (cvE rfl q) (cvE rfl q)) ?_
 refine GL_step rfl (PS_and rfl rfl (fun h => h)) ?_
 refine GL_step rfl (PS_move rfl) ?_
 refine GL_gt (t := 34) rfl rfl rfl (fun q => PS_move rfl) ?_
 refine GL_gt (t := 34) rfl rfl rfl (fun q => PS_eql_str (cvE rfl q) rfl) ?_
 refine GL_step rfl (PS_and rfl rfl (fun h => h)) ?_
 refine GL_step rfl (PS_move rfl) ?_
 refine GL_gt (t := 38) rfl rfl rfl (fun q => PS_loadA rfl tya41 (.head _) (Lens.id Telnet.fl.len Telnet.fl.one) rfl) ?_
 refine GL_gt (t := 38) rfl rfl rfl (fun q => PS_loadA rfl tya41 (.tail _ (.head _)) (Lens.id Telnet.fl.len Telnet.fl.one) rfl) ?_
 refine GL_gt (t := 38) rfl rfl rfl (fun q => PS_eql_agg eq41 (by decide) (by kernel_rfl) (cvE rfl q) (cvE rfl q)) ?_
 refine GL_step rfl (PS_and rfl rfl (fun h => h)) ?_
 refine GL_step rfl (PS_move rfl) ?_
 refine GL_pgt (t := 43) rfl rfl rfl (fun q => PC_of cf29 .nil (fun w hS => keep_feeds_spec w)) ?_
 refine GL_step rfl (PS_and rfl rfl (fun h => h)) ?_
 refine GL_step rfl (PS_assign rfl) ?_
 refine GL_nil ?_
 refine GQ_sub (.cons (k := 4) rfl (.nil _)) ?_
 refine GQ_then ?_
 refine G_ret ?_
 refine GQ_ret rfl (.tmp rfl .nil) ?_
 intro w1 hS; refine ⟨?_, hS.toKeep⟩; have e := Telnet.Feed_escape c1 u
 rw [e]
 exact congrArg Value.bool (by simp)
mutual
def cellsD {H : Type} : DataW H → List Value
  | .lit (.int k n) => [.int k n]
  | .lit (.string bs) => [.string ⟨bs.toArray⟩]
  | .lit (.bool b) => [.bool b]
  | .agg ps => cellsDs ps
  | _ => []
def cellsDs {H : Type} : List (DataW H) → List Value
  | [] => []
  | d :: r => cellsD d ++ cellsDs r
end
/-- A world in which the listed variables hold what is listed. -/
noncomputable def laidWorld (os : Os) : World := { World.holding Tryd.prog os ⟨#[], #[], []⟩ with heap := (((World.holding Tryd.prog os ⟨#[], #[], []⟩).heap.modify 2 fun o => match o with | .cells _ t frozen => .cells (cellsD (Rows.laid_unicode_utf8_acceptRanges : DataW Unit)).toArray t frozen | o => o).modify 1 fun o => match o with | .cells _ t frozen => .cells (cellsD (Rows.laid_unicode_utf8_first : DataW Unit)).toArray t frozen | o => o) }
set_option maxRecDepth 100000 in
theorem laid_met (os : Os) : laidMet Tryd.prog Rows.telnetEscapesRow.laid ((laidWorld os).forCall (fun _ _ => 0) ⟨#[], #[.agg (Telnet.enc (default : Telnet)).toArray, vstr []], []⟩).memory :=
  laidMet_of_run' 8 (by kernel_rfl) (by kernel_rfl)
set_option maxRecDepth 100000 in
theorem reads (os : Os) {H : Type} (enc : TypeId × Value → H) : ∃ places, DataW.whole enc Tryd.prog ((laidWorld os).forCall (fun _ _ => 0) ⟨#[], #[.agg (Telnet.enc (default : Telnet)).toArray, vstr []], []⟩).memory Tryd.f6.params.toList Rows.telnetEscapesSpec.vars false (#[.agg (Telnet.enc (default : Telnet)).toArray, vstr []] : Array Value).toList 8 = some ([.agg [.lit (.int .i64 0), .lit (.int .i64 0), .lit (.string []), .agg (List.replicate 3 (.lit (.int .i64 0))), .agg (List.replicate 3 (.lit (.int .i64 0))), .lit (.int .i64 0)], .lit (.string [])], [], places) := ⟨[], by kernel_rfl⟩
set_option maxRecDepth 100000 in
theorem telnetEscapes_lifted (os : Os) (started : os.Started) (H : Type) (enc : TypeId × Value → H) (F : Stop.Interp) :
    ReturnsInHanded {} Tryd.checked os 6 .any ((OpenSpec.ofChange Rows.telnetEscapesSpec).preRow enc Tryd.prog Tryd.f6 Rows.telnetEscapesRow.domain false Rows.telnetEscapesRow.laid) (((OpenSpec.ofChange Rows.telnetEscapesSpec).at F).post enc Tryd.prog Tryd.f6 false true false false) := by
  obtain ⟨places, hx⟩ := reads os enc
  refine returnsInHanded_of_row (C := Tryd.checked) (s := (OpenSpec.ofChange Rows.telnetEscapesSpec)) own started (by kernel_rfl) Tryd.func6
    (witness_row_at (enc := enc) (C := Tryd.checked) false (laidWorld os) #[.agg (Telnet.enc (default : Telnet)).toArray, vstr []] rfl (by kernel_rfl) (by kernel_rfl) (by kernel_rfl)
      (OpenSpec.preRow_of_cond 8 hx (by kernel_rfl) (fun k hk => by cases hk) (by kernel_rfl) (laid_met os))) ?_
  intro W base args ds gs before hval hW _ hcond hsz hL hSh _
  refine law_post (B := 4) laidOut (by kernel_rfl) Tryd.underlying4 (by kernel_rfl) rfl (fun ds h => by rw [Tryd.params6] at h; match ds, h with | [d1, d2], _ => rfl) hW ?_
  obtain ⟨p, q, hA, hV, _, _, _⟩ := hW
  rw [Tryd.params6] at hA
  obtain ⟨v0, vs0, d0, ds0, p0, q0, hv0, rfl, rfl, hd0, hA⟩ := trodAll_cons hA
  obtain ⟨v1, vs1, d1, ds1, p1, q1, hv1, rfl, rfl, hd1, hA⟩ := trodAll_cons hA
  obtain ⟨hvn, rfl, rfl⟩ := trodAll_nil hA
  obtain rfl : args = #[v0, v1] := by cases args; simp_all
  obtain ⟨X, rfl, w0⟩ := open_ag (P := Tryd.prog) (t := 41) (by rw [Tryd.underlying41]) (hval 0 _ _ rfl rfl) dc41 hd0
  obtain ⟨u, rfl, rfl, rfl, w1⟩ := open_str Tryd.underlying9 (hval 1 _ _ rfl rfl) hd1
  have z1 : u.length ≤ 140737488351232 := sized_string hsz (j := 1) rfl rfl
  exact keep_TelnetEscapes_spec _ _ (by omega) W
theorem telnetEscapes_said : Rows.TelnetEscapesSaid :=
  OpenClaim.holds_of_cond 6 Tryd.f6 rfl rfl rfl rfl rfl rfl rfl ⟨rfl, rfl, rfl, rfl, rfl⟩ rfl rfl rfl rfl rfl (by kernel_rfl) Tryd.func6 (by kernel_rfl)
    (of_decide_eq_true (by kernel_rfl)) (by unfold Func.isWrapper; first | (rw [if_pos (by decide +kernel)]; kernel_rfl) | (rw [if_neg (by decide +kernel)]; exact ⟨rfl, rfl⟩))
    (fun os started H enc _ F => by rw [OpenClaim.pre_eq_preRow]; exact telnetEscapes_lifted os started H enc F)
theorem plainArgs (f : FuncId) (fn : Func) (hf : Tryd.pinned.checked.prog.funcNamed "inglenook/inglenookkeep.TelnetEscapes" = some f) (hfn : Tryd.pinned.checked.prog.funcs[f]? = some fn) :
    false = Tryd.pinned.checked.prog.looks [] ∧ ∀ (j : Nat) t, fn.params[j]? = some t → Tryd.pinned.checked.prog.wantsStandIn t = false := by
  obtain rfl : f = 6 := Option.some.inj ((show Tryd.prog.funcNamed "inglenook/inglenookkeep.TelnetEscapes" = some 6 by kernel_rfl).symm.trans hf) |>.symm
  obtain rfl : fn = Tryd.f6 := (Option.some.inj (Tryd.func6.symm.trans hfn)).symm
  refine ⟨by kernel_rfl, fun j t ht => ?_⟩
  rw [Tryd.params6] at ht
  have hm : t ∈ [41, 9] := by simpa using Array.mem_of_getElem? ht
  have hall : ([41, 9].all fun u => !Tryd.prog.wantsStandIn u) = true := by kernel_rfl
  exact (show Tryd.prog.wantsStandIn t = false by simpa using List.all_eq_true.1 hall t hm)
theorem telnetEscapes_holds : Rows.TelnetEscapesCardSaid :=
  Claim7.holds_tied_plain_at .later [] _ _ _ _ telnetEscapes_said (fun _ h => by cases h) (by kernel_rfl) (fun _ h => by cases h) telnetEscapes_row_tie rfl ⟨rfl, rfl⟩ (by kernel_rfl) rfl plainArgs (by kernel_rfl)
end Go.Proofs.YtiimccommiokjaaDoor
