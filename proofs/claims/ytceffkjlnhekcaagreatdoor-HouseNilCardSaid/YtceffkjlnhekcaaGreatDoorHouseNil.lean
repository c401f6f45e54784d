/- For every input the law HouseNil returns true. No condition. -/
import Derived.Test.YtceffkjlnhekcaaGreatDoorCards
import Derived.Test.YtceffkjlnhekcaaGreatDoorTie
import Derived.Deep.DeepHandedRow
import Derived.Test.YtceffkjlnhekcaaGreatDoorRows
import Derived.Test.YtceffkjlnhekcaaGreatDoorHouseNilEc3
import Derived.Test.YtceffkjlnhekcaaGreatDoorHouseNilRa1
import Derived.Test.YtceffkjlnhekcaaGreatDoorHouseNilRb1
set_option linter.unusedSimpArgs false
set_option linter.unusedVariables false
set_option maxRecDepth 100000
set_option maxHeartbeats 1000000
namespace Go.Proofs.YtceffkjlnhekcaaGreatDoor
open Go Go.Ing Go.RowKit Go.ChangeShapes Go.WideShapes Go.ChangeAt
theorem own : ownKnob Tryz.prog.godebug = none := by kernel_rfl
theorem laidOut : laidOutB Tryz.prog = true := by kernel_rfl
theorem zv29 : ZV Tryz.prog 29 (.agg (Reply.enc (default : Reply)).toArray) := ZV_of (by kernel_rfl)
theorem sz27 : Sz Tryz.prog 27 1 := Sz_of (by kernel_rfl)
theorem sz9 : Sz Tryz.prog 9 1 := Sz_of (by kernel_rfl)
theorem pl29 : Places Tryz.prog 29 [(0, 1), (1, 1)] := ⟨_, Tryz.underlying29, fun w => by simp [sz27 w, sz9 w]⟩
theorem sz29 : Sz Tryz.prog 29 2 := Sz_of (by kernel_rfl)
theorem tya29 : TyA Tryz.prog 29 2 := TyA_of Tryz.underlying29 rfl sz29
theorem zv43 : ZV Tryz.prog 43 (.agg (Land.enc (default : Land)).toArray) := ZV_of (by kernel_rfl)
theorem sz35 : Sz Tryz.prog 35 84 := Sz_of (by kernel_rfl)
theorem sz38 : Sz Tryz.prog 38 45 := Sz_of (by kernel_rfl)
theorem sz41 : Sz Tryz.prog 41 36 := Sz_of (by kernel_rfl)
theorem pl43 : Places Tryz.prog 43 [(0, 84), (84, 45), (129, 36)] := ⟨_, Tryz.underlying43, fun w => by simp [sz35 w, sz38 w, sz41 w]⟩
theorem sz43 : Sz Tryz.prog 43 165 := Sz_of (by kernel_rfl)
theorem tya43 : TyA Tryz.prog 43 165 := TyA_of Tryz.underlying43 rfl sz43
theorem zv51 : ZV Tryz.prog 51 (.agg (PageV.enc ⟨⟨none, 0, 0⟩, 0, false, [], false⟩).toArray) := ZV_of (by kernel_rfl)
theorem sz47 : Sz Tryz.prog 47 1 := Sz_of (by kernel_rfl)
theorem sz3 : Sz Tryz.prog 3 1 := Sz_of (by kernel_rfl)
theorem sz4 : Sz Tryz.prog 4 1 := Sz_of (by kernel_rfl)
theorem pl51 : Places Tryz.prog 51 [(0, 1), (1, 1), (2, 1), (3, 1), (4, 1)] := ⟨_, Tryz.underlying51, fun w => by simp [sz47 w, sz3 w, sz4 w, sz9 w]⟩
theorem sz51 : Sz Tryz.prog 51 5 := Sz_of (by kernel_rfl)
theorem tya51 : TyA Tryz.prog 51 5 := TyA_of Tryz.underlying51 rfl sz51
theorem mix : Tryz.prog.follows .mixedOrders = true := by kernel_rfl
theorem is47 : IS Tryz.prog 47 1 := IS_of Tryz.underlying47 sz9
theorem tys9 : TyS Tryz.prog 9 := TyS_of Tryz.underlying9 rfl
theorem fa51_0 : FA Tryz.prog 51 0 0 := FA_of Tryz.underlying51 rfl sz47
theorem tys47 : TyS Tryz.prog 47 := TyS_of Tryz.underlying47 rfl
theorem cf22 : CF Tryz.prog 22 := Tryz.call22
theorem fa51_1 : FA Tryz.prog 51 1 1 := FA_of Tryz.underlying51 rfl sz3
theorem tys3 : TyS Tryz.prog 3 := TyS_of Tryz.underlying3 rfl
theorem fa51_2 : FA Tryz.prog 51 2 2 := FA_of Tryz.underlying51 rfl sz4
theorem tys4 : TyS Tryz.prog 4 := TyS_of Tryz.underlying4 rfl
theorem fa51_3 : FA Tryz.prog 51 3 3 := FA_of Tryz.underlying51 rfl sz9
theorem fa51_4 : FA Tryz.prog 51 4 4 := FA_of Tryz.underlying51 rfl sz4
theorem zv55 : ZV Tryz.prog 55 (.agg (LineV.enc ⟨[], false, false, ⟨none, 0, 0⟩⟩).toArray) := ZV_of (by kernel_rfl)
theorem pl55 : Places Tryz.prog 55 [(0, 1), (1, 1), (2, 1), (3, 1)] := ⟨_, Tryz.underlying55, fun w => by simp [sz9 w, sz4 w, sz47 w]⟩
theorem sz55 : Sz Tryz.prog 55 4 := Sz_of (by kernel_rfl)
theorem tya55 : TyA Tryz.prog 55 4 := TyA_of Tryz.underlying55 rfl sz55
theorem fa55_0 : FA Tryz.prog 55 0 0 := FA_of Tryz.underlying55 rfl sz9
theorem fa55_1 : FA Tryz.prog 55 1 1 := FA_of Tryz.underlying55 rfl sz4
theorem fa55_2 : FA Tryz.prog 55 2 2 := FA_of Tryz.underlying55 rfl sz4
theorem fa55_3 : FA Tryz.prog 55 3 3 := FA_of Tryz.underlying55 rfl sz47
theorem cf4 : CF Tryz.prog 4 := Tryz.call4
theorem sz23 : Sz Tryz.prog 23 4 := Sz_of (by kernel_rfl)
theorem tya23 : TyA Tryz.prog 23 4 := TyA_of Tryz.underlying23 rfl sz23
theorem cf5 : CF Tryz.prog 5 := Tryz.call5
theorem eq27 : EqV Tryz.prog 1 27 (fun n : Int => .int .i64 n) := EqV_int Tryz.underlying27
theorem tys27 : TyS Tryz.prog 27 := TyS_of Tryz.underlying27 rfl
theorem eq9 : EqV Tryz.prog 1 9 (fun s : Str => vstr s) := EqV_str Tryz.underlying9
theorem eq29 : EqV Tryz.prog 2 29 (fun x : Reply => .agg (Reply.enc x).toArray) := EqV_struct Tryz.underlying29 (by kernel_rfl) (.cons (by decide) rfl (.inr ⟨tys27, rfl, fun _ => rfl⟩) Reply.l0 eq27 (by decide) (.cons (by decide) rfl (.inr ⟨tys9, rfl, fun _ => rfl⟩) Reply.l1 eq9 (by decide) .nil)) (fun x y => by rw [Bool.eq_iff_iff]; cases x; cases y; simp)
theorem cf6 : CF Tryz.prog 6 := Tryz.call6
theorem eq4 : EqV Tryz.prog 1 4 (fun b : Bool => .bool b) := EqV_bool Tryz.underlying4
theorem eq3 : EqV Tryz.prog 1 3 (fun n : Int => .int .i64 n) := EqV_int Tryz.underlying3
theorem eq31 : EqV Tryz.prog 2 31 (fun v : Arr _ 6 => .agg (encA encI v).toArray) := EqV_arr flI Tryz.underlying31 (by kernel_rfl) (by kernel_rfl) (.inr ⟨tys3, rfl, fun _ => rfl⟩) eq3
theorem sz31 : Sz Tryz.prog 31 6 := Sz_of (by kernel_rfl)
theorem tya31 : TyA Tryz.prog 31 6 := TyA_of Tryz.underlying31 rfl sz31
theorem eq32 : EqV Tryz.prog 2 32 (fun v : Arr _ 6 => .agg (encA encB v).toArray) := EqV_arr flB Tryz.underlying32 (by kernel_rfl) (by kernel_rfl) (.inr ⟨tys4, rfl, fun _ => rfl⟩) eq4
theorem sz32 : Sz Tryz.prog 32 6 := Sz_of (by kernel_rfl)
theorem tya32 : TyA Tryz.prog 32 6 := TyA_of Tryz.underlying32 rfl sz32
theorem eq34 : EqV Tryz.prog 3 34 (fun x : Room => .agg (Room.enc x).toArray) := EqV_struct Tryz.underlying34 (by kernel_rfl) (.cons (by decide) rfl (.inr ⟨tys9, rfl, fun _ => rfl⟩) Room.l0 eq9 (by decide) (.cons (by decide) rfl (.inr ⟨tys4, rfl, fun _ => rfl⟩) Room.l1 eq4 (by decide) (.cons (by decide) rfl (.inl ⟨tya31, fun _ => rfl⟩) Room.l2 eq31 (by decide) (.cons (by decide) rfl (.inl ⟨tya32, fun _ => rfl⟩) Room.l3 eq32 (by decide) .nil)))) (fun x y => by rw [Bool.eq_iff_iff]; cases x; cases y; simp)
theorem sz34 : Sz Tryz.prog 34 14 := Sz_of (by kernel_rfl)
theorem tya34 : TyA Tryz.prog 34 14 := TyA_of Tryz.underlying34 rfl sz34
theorem eq35 : EqV Tryz.prog 4 35 (fun v : Arr _ 6 => .agg (encA Room.enc v).toArray) := EqV_arr Room.fl Tryz.underlying35 (by kernel_rfl) (by kernel_rfl) (.inl ⟨tya34, fun _ => rfl⟩) eq34
theorem tya35 : TyA Tryz.prog 35 84 := TyA_of Tryz.underlying35 rfl sz35
theorem eq37 : EqV Tryz.prog 2 37 (fun x : Thing => .agg (Thing.enc x).toArray) := EqV_struct Tryz.underlying37 (by kernel_rfl) (.cons (by decide) rfl (.inr ⟨tys9, rfl, fun _ => rfl⟩) Thing.l0 eq9 (by decide) (.cons (by decide) rfl (.inr ⟨tys3, rfl, fun _ => rfl⟩) Thing.l1 eq3 (by decide) (.cons (by decide) rfl (.inr ⟨tys3, rfl, fun _ => rfl⟩) Thing.l2 eq3 (by decide) (.cons (by decide) rfl (.inr ⟨tys3, rfl, fun _ => rfl⟩) Thing.l3 eq3 (by decide) (.cons (by decide) rfl (.inr ⟨tys4, rfl, fun _ => rfl⟩) Thing.l4 eq4 (by decide) .nil))))) (fun x y => by rw [Bool.eq_iff_iff]; cases x; cases y; simp)
theorem sz37 : Sz Tryz.prog 37 5 := Sz_of (by kernel_rfl)
theorem tya37 : TyA Tryz.prog 37 5 := TyA_of Tryz.underlying37 rfl sz37
theorem eq38 : EqV Tryz.prog 3 38 (fun v : Arr _ 9 => .agg (encA Thing.enc v).toArray) := EqV_arr Thing.fl Tryz.underlying38 (by kernel_rfl) (by kernel_rfl) (.inl ⟨tya37, fun _ => rfl⟩) eq37
theorem tya38 : TyA Tryz.prog 38 45 := TyA_of Tryz.underlying38 rfl sz38
theorem eq40 : EqV Tryz.prog 2 40 (fun x : Being => .agg (Being.enc x).toArray) := EqV_struct Tryz.underlying40 (by kernel_rfl) (.cons (by decide) rfl (.inr ⟨tys9, rfl, fun _ => rfl⟩) Being.l0 eq9 (by decide) (.cons (by decide) rfl (.inr ⟨tys4, rfl, fun _ => rfl⟩) Being.l1 eq4 (by decide) (.cons (by decide) rfl (.inr ⟨tys4, rfl, fun _ => rfl⟩) Being.l2 eq4 (by decide) (.cons (by decide) rfl (.inr ⟨tys3, rfl, fun _ => rfl⟩) Being.l3 eq3 (by decide) (.cons (by decide) rfl (.inr ⟨tys3, rfl, fun _ => rfl⟩) Being.l4 eq3 (by decide) (.cons (by decide) rfl (.inr ⟨tys3, rfl, fun _ => rfl⟩) Being.l5 eq3 (by decide) .nil)))))) (fun x y => by rw [Bool.eq_iff_iff]; cases x; cases y; simp)
theorem sz40 : Sz Tryz.prog 40 6 := Sz_of (by kernel_rfl)
theorem tya40 : TyA Tryz.prog 40 6 := TyA_of Tryz.underlying40 rfl sz40
theorem eq41 : EqV Tryz.prog 3 41 (fun v : Arr _ 6 => .agg (encA Being.enc v).toArray) := EqV_arr Being.fl Tryz.underlying41 (by kernel_rfl) (by kernel_rfl) (.inl ⟨tya40, fun _ => rfl⟩) eq40
theorem tya41 : TyA Tryz.prog 41 36 := TyA_of Tryz.underlying41 rfl sz41
theorem eq43 : EqV Tryz.prog 5 43 (fun x : Land => .agg (Land.enc x).toArray) := EqV_struct Tryz.underlying43 (by kernel_rfl) (.cons (by decide) rfl (.inl ⟨tya35, fun _ => rfl⟩) Land.l0 eq35 (by decide) (.cons (by decide) rfl (.inl ⟨tya38, fun _ => rfl⟩) Land.l1 eq38 (by decide) (.cons (by decide) rfl (.inl ⟨tya41, fun _ => rfl⟩) Land.l2 eq41 (by decide) .nil))) (fun x y => by rw [Bool.eq_iff_iff]; cases x; cases y; simp)
theorem cf7 : CF Tryz.prog 7 := Tryz.call7
theorem cf8 : CF Tryz.prog 8 := Tryz.call8
theorem cf10 : CF Tryz.prog 10 := Tryz.call10
theorem cf9 : CF Tryz.prog 9 := Tryz.call9
theorem cf12 : CF Tryz.prog 12 := Tryz.call12
theorem cf11 : CF Tryz.prog 11 := Tryz.call11
theorem dc3 {H : Type} {enc : TypeId × Value → H} {w : World} : Dc H enc Tryz.prog w (encI) wfI 3 := Dc_int Tryz.underlying3
theorem dc9 {H : Type} {enc : TypeId × Value → H} {w : World} : Dc H enc Tryz.prog w (encS) wfS 9 := Dc_string Tryz.underlying9
theorem dc23 {H : Type} {enc : TypeId × Value → H} {w : World} : Dc H enc Tryz.prog w (ActV.enc) ActV.wf 23 := ActV.dc Tryz.underlying23 (by kernel_rfl) rfl (by kernel_rfl) dc3 rfl (by kernel_rfl) dc3 rfl (by kernel_rfl) dc3 rfl (by kernel_rfl) dc9
theorem house_House_State_spec (i : Int) (w : World) : Ret Tryz.prog 4 #[.pointer none, .int .i64 i] w fun v w' => v = .tuple #[.int .i64 0, .int .i64 (-1)] ∧ Keep w w' := by
 refine Ret_body [] [] Tryz.func4 rfl rfl rfl (St.start w []) ?_
 refine G_seq ?_
 refine G_region ?_
 refine GL_step rfl (PS_assign rfl) ?_
 refine GL_step rfl (PS_assign rfl) ?_
 refine GL_nil ?_
 refine GQ_sub (.cons (k := 0) rfl (.cons (k := 1) rfl (.nil _))) ?_
 refine GQ_then ?_
 refine G_seq ?_
 refine G_seq ?_
 refine G_region ?_
 refine GL_step rfl (PS_move rfl) ?_
 refine GL_step rfl (PS_eqp_nil Tryz.underlying24 rfl) ?_
 refine GL_step rfl (PS_move rfl) ?_
 refine GL_pass (t := 8) rfl rfl rfl rfl ?_
 refine GL_pass (t := 8) rfl rfl rfl rfl ?_
 refine GL_step rfl (PS_pick_true rfl rfl) ?_
 refine GL_step rfl (PS_move rfl) ?_
 refine GL_pass (t := 12) rfl rfl rfl rfl ?_
 refine GL_pass (t := 12) rfl rfl rfl rfl ?_
 refine GL_step rfl (PS_pick_true rfl rfl) ?_
 refine GL_step rfl (PS_move rfl) ?_
 refine GL_pass (t := 16) rfl rfl rfl rfl ?_
 refine GL_pass (t := 16) rfl rfl rfl rfl ?_
 refine GL_pass (t := 16) rfl rfl rfl rfl ?_
 refine GL_pass (t := 16) rfl rfl rfl rfl ?_
 refine GL_pass (t := 16) rfl rfl rfl rfl ?_
 refine GL_pass (t := 16) rfl rfl rfl rfl ?_
 refine GL_pass (t := 16) rfl rfl rfl rfl ?_
 refine GL_pass (t := 16) rfl rfl rfl rfl ?_
 refine GL_step rfl (PS_pick_true rfl rfl) ?_
 refine GL_nil ?_
 refine GQ_sub (.cons (k := 0) rfl (.cons (k := 1) rfl (.cons (k := 25) rfl (.nil _)))) ?_
 refine GQ_then ?_
 refine G_true rfl rfl ?_
 refine G_seq ?_
 refine G_seq ?_
 refine G_region ?_
 refine GL_step rfl (PS_move rfl) ?_
 refine GL_step rfl (PS_eqp_nil Tryz.underlying24 rfl) ?_
 refine GL_step rfl (PS_move rfl) ?_
 refine GL_pass (t := 28) rfl rfl rfl rfl ?_
 refine GL_pass (t := 28) rfl rfl rfl rfl ?_
 refine GL_step rfl (PS_pick_true rfl rfl) ?_
 refine GL_step rfl (PS_move rfl) ?_
 refine GL_pass (t := 32) rfl rfl rfl rfl ?_
 refine GL_pass (t := 32) rfl rfl rfl rfl ?_
 refine GL_step rfl (PS_pick_true rfl rfl) ?_
 refine GL_nil ?_
 refine GQ_sub (.cons (k := 0) rfl (.cons (k := 1) rfl (.cons (k := 35) rfl (.nil _)))) ?_
 refine GQ_then ?_
 refine G_true rfl rfl ?_
 refine G_seq ?_
 refine G_region ?_
 refine GL_step rfl (PS_assign rfl) ?_
 refine GL_step rfl (PS_assign rfl) ?_
 refine GL_nil ?_
 refine GQ_sub (.cons (k := 4) rfl (.cons (k := 5) rfl (.nil _))) ?_
 refine GQ_then ?_
 refine G_ret ?_
 refine GQ_then_ret ?_
 refine GQ_then_ret ?_
 refine GQ_ret rfl (.tmp rfl (.tmp rfl .nil)) ?_
 intro w1 hS; refine ⟨?_, hS.toKeep⟩; rfl
theorem house_House_Do_spec (a : ActV) (w : World) : Ret Tryz.prog 5 #[.pointer none, .agg a.enc.toArray] w fun v w' => v = .agg (Reply.enc ⟨3, []⟩).toArray ∧ Keep w w' := by
 refine Ret_body [] [] Tryz.func5 rfl rfl rfl (St.start w []) ?_
 refine G_seq ?_
 refine G_region ?_
 refine GL_box rfl rfl rfl (fun b1 => ?_)
 refine GL_alloc rfl zv29 rfl (fun b2 => ?_)
 refine GL_nil ?_
 refine GQ_sub (.cons (k := 0) rfl (.cons (k := 3) rfl (.cons (k := 4) rfl (.nil _)))) ?_
 refine GQ_then ?_
 refine G_seq ?_
 refine G_block ?_
 refine G_seq ?_
 refine G_region ?_
 refine GL_step rfl (PS_move rfl) ?_
 refine GL_step rfl (PS_eqp_nil Tryz.underlying24 rfl) ?_
 refine GL_step rfl (PS_assign rfl) ?_
 refine GL_nil ?_
 refine GQ_sub (.cons (k := 0) rfl (.cons (k := 3) rfl (.cons (k := 4) rfl (.cons (k := 11) rfl (.nil _))))) ?_
 refine GQ_then ?_
 refine G_true rfl rfl ?_
 refine G_seq ?_
 refine G_region ?_
 refine GL_step rfl (PS_build pl29 zv29 rfl (.cons Reply.l0 rfl rfl rfl .nil)) ?_
 refine GL_unit (PU_store (Lens.id Reply.fl.len Reply.fl.one) rfl rfl rfl sz29 rfl .head) ?_
 refine GL_nil ?_
 refine GQ_sub (.cons (k := 4) rfl (.nil _)) ?_
 refine GQ_then ?_
 refine G_ret ?_
 refine GQ_block_ret ?_
 refine GQ_then_ret ?_
 refine GQ_ret rfl (.cell rfl (.head _) (.inl ⟨(by rw [Reply.fl.len]; exact tya29), rfl⟩) .nil) ?_
 intro w1 hS; refine ⟨?_, hS.toKeep⟩; rfl
theorem house_House_Land_spec  (w : World) : Ret Tryz.prog 6 #[.pointer none] w fun v w' => v = .agg (default : Land).enc.toArray ∧ Keep w w' := by
 refine Ret_body [] [] Tryz.func6 rfl rfl rfl (St.start w []) ?_
 refine G_seq ?_
 refine G_region ?_
 refine GL_alloc rfl zv43 rfl (fun b1 => ?_)
 refine GL_nil ?_
 refine GQ_then ?_
 refine G_seq ?_
 refine G_seq ?_
 refine G_region ?_
 refine GL_step rfl (PS_move rfl) ?_
 refine GL_step rfl (PS_eqp_nil Tryz.underlying24 rfl) ?_
 refine GL_nil ?_
 refine GQ_sub (.cons (k := 0) rfl (.cons (k := 2) rfl (.cons (k := 4) rfl (.nil _)))) ?_
 refine GQ_then ?_
 refine G_true rfl rfl ?_
 refine G_seq ?_
 refine G_region ?_
 refine GL_step rfl (PS_build pl43 zv43 rfl .nil) ?_
 refine GL_unit (PU_store (Lens.id Land.fl.len Land.fl.one) rfl rfl rfl sz43 rfl .head) ?_
 refine GL_nil ?_
 refine GQ_sub (.cons (k := 2) rfl (.nil _)) ?_
 refine GQ_then ?_
 refine G_ret ?_
 refine GQ_then_ret ?_
 refine GQ_ret rfl (.cell rfl (.head _) (.inl ⟨(by rw [Land.fl.len]; exact tya43), rfl⟩) .nil) ?_
 intro w1 hS; refine ⟨?_, hS.toKeep⟩; rfl
theorem house_House_Last_spec  (w : World) : Ret Tryz.prog 7 #[.pointer none] w fun v w' => v = .slice none 0 0 ∧ Keep w w' := by
 refine Ret_body [] [] Tryz.func7 rfl rfl rfl (St.start w []) ?_
 refine G_seq ?_
 refine G_region ?_
 refine GL_step rfl (PS_assign rfl) ?_
 refine GL_nil ?_
 refine GQ_sub (.cons (k := 0) rfl (.nil _)) ?_
 refine GQ_then ?_
 refine G_seq ?_
 refine G_seq ?_
 refine G_region ?_
 refine GL_step rfl (PS_move rfl) ?_
 refine GL_step rfl (PS_eqp_nil Tryz.underlying24 rfl) ?_
 refine GL_nil ?_
 refine GQ_sub (.cons (k := 0) rfl (.cons (k := 4) rfl (.nil _))) ?_
 refine GQ_then ?_
 refine G_true rfl rfl ?_
 refine G_seq ?_
 refine G_region ?_
 refine GL_step rfl (PS_assign rfl) ?_
 refine GL_nil ?_
 refine GQ_sub (.cons (k := 2) rfl (.nil _)) ?_
 refine GQ_then ?_
 refine G_ret ?_
 refine GQ_then_ret ?_
 refine GQ_ret rfl (.tmp rfl .nil) ?_
 intro w1 hS; refine ⟨?_, hS.toKeep⟩; rfl
theorem house_House_Told_spec (i : Int) (w : World) : Ret Tryz.prog 8 #[.pointer none, .int .i64 i] w fun v w' => v = .slice none 0 0 ∧ Keep w w' := by
 refine Ret_body [] [] Tryz.func8 rfl rfl rfl (St.start w []) ?_
 refine G_seq ?_
 refine G_region ?_
 refine GL_step rfl (PS_assign rfl) ?_
 refine GL_nil ?_
 refine GQ_sub (.cons (k := 0) rfl (.cons (k := 1) rfl (.nil _))) ?_
 refine GQ_then ?_
 refine G_seq ?_
 refine G_seq ?_
 refine G_region ?_
 refine GL_step rfl (PS_move rfl) ?_
 refine GL_step rfl (PS_eqp_nil Tryz.underlying24 rfl) ?_
 refine GL_step rfl (PS_move rfl) ?_
 refine GL_pass (t := 7) rfl rfl rfl rfl ?_
 refine GL_pass (t := 7) rfl rfl rfl rfl ?_
 refine GL_step rfl (PS_pick_true rfl rfl) ?_
 refine GL_step rfl (PS_move rfl) ?_
 refine GL_pass (t := 11) rfl rfl rfl rfl ?_
 refine GL_pass (t := 11) rfl rfl rfl rfl ?_
 refine GL_step rfl (PS_pick_true rfl rfl) ?_
 refine GL_nil ?_
 refine GQ_sub (.cons (k := 0) rfl (.cons (k := 1) rfl (.cons (k := 14) rfl (.nil _)))) ?_
 refine GQ_then ?_
 refine G_true rfl rfl ?_
 refine G_seq ?_
 refine G_region ?_
 refine GL_step rfl (PS_assign rfl) ?_
 refine GL_nil ?_
 refine GQ_sub (.cons (k := 4) rfl (.nil _)) ?_
 refine GQ_then ?_
 refine G_ret ?_
 refine GQ_then_ret ?_
 refine GQ_ret rfl (.tmp rfl .nil) ?_
 intro w1 hS; refine ⟨?_, hS.toKeep⟩; rfl
theorem house_House_Page_spec (i : Int) (w : World) : Ret Tryz.prog 10 #[.pointer none, .int .i64 i] w fun v w' => v = .agg (PageV.enc ⟨⟨none, 0, 0⟩, 0, false, [], false⟩).toArray ∧ Keep w w' := by
 refine Ret_body [] [] Tryz.func10 rfl rfl rfl (St.start w []) ?_
 refine G_seq ?_
 refine G_region ?_
 refine GL_alloc rfl zv51 rfl (fun b1 => ?_)
 refine GL_nil ?_
 refine GQ_then ?_
 refine G_seq ?_
 refine G_seq ?_
 refine G_region ?_
 refine GL_step rfl (PS_move rfl) ?_
 refine GL_step rfl (PS_eqp_nil Tryz.underlying24 rfl) ?_
 refine GL_step rfl (PS_move rfl) ?_
 refine GL_pass (t := 8) rfl rfl rfl rfl ?_
 refine GL_pass (t := 8) rfl rfl rfl rfl ?_
 refine GL_step rfl (PS_pick_true rfl rfl) ?_
 refine GL_step rfl (PS_move rfl) ?_
 refine GL_pass (t := 12) rfl rfl rfl rfl ?_
 refine GL_pass (t := 12) rfl rfl rfl rfl ?_
 refine GL_step rfl (PS_pick_true rfl rfl) ?_
 refine GL_nil ?_
 refine GQ_sub (.cons (k := 0) rfl (.cons (k := 1) rfl (.cons (k := 4) rfl (.cons (k := 15) rfl (.nil _))))) ?_
 refine GQ_then ?_
 refine G_true rfl rfl ?_
 refine G_seq ?_
 refine G_region ?_
 refine GL_step rfl (PS_build pl51 zv51 rfl .nil) ?_
 refine GL_unit (PU_store (Lens.id PageV.fl.len PageV.fl.one) rfl rfl rfl sz51 rfl .head) ?_
 refine GL_nil ?_
 refine GQ_sub (.cons (k := 4) rfl (.nil _)) ?_
 refine GQ_then ?_
 refine G_ret ?_
 refine GQ_then_ret ?_
 refine GQ_ret rfl (.cell rfl (.head _) (.inl ⟨(by rw [PageV.fl.len]; exact tya51), rfl⟩) .nil) ?_
 intro w1 hS; refine ⟨?_, hS.toKeep⟩; rfl
theorem ref_SameTexts_spec {t0 t1 : Nat} (f g : Hd) (xs ys : List Str) (hx : xs.length ≤ 9223372036854775807) (w : World) (r0 : Rd w f t0 1 (xs.flatMap encS)) (r1 : Rd w g t1 1 (ys.flatMap encS)) : Ret Tryz.prog 22 #[f.val, g.val] w fun v w' => v = .bool (decide (xs = ys)) ∧ Keep w w' := by
 have hf := r0.len1 flS (by decide)
 have hg := r1.len1 flS (by decide)
 refine Ret_body [] [] Tryz.func22 rfl rfl rfl (St.start w []) ?_
 refine G_seq ?_
 refine G_region ?_
 refine GL_step rfl (PS_assign rfl) ?_
 refine GL_nil ?_
 refine GQ_sub (.cons (k := 0) rfl (.cons (k := 1) rfl (.nil _))) ?_
 refine GQ_then ?_
 refine G_seq ?_
 refine G_seq ?_
 refine G_region ?_
 refine GL_step rfl (PS_move rfl) ?_
 refine GL_step rfl (PS_len_slice rfl Tryz.underlying47 rfl) ?_
 refine GL_step rfl (PS_move rfl) ?_
 refine GL_step rfl (PS_len_slice rfl Tryz.underlying47 rfl) ?_
 refine GL_step rfl (PS_neq rfl rfl) ?_
 refine GL_nil ?_
 refine GQ_sub (.cons (k := 0) rfl (.cons (k := 1) rfl (.cons (k := 10) rfl (.nil _)))) ?_
 refine GQ_then ?_
 refine G_cond rfl (fun c1 => ?_) (fun c1 => ?_)
 ·
  have c1p := c1
  try simp only [kDa, kDb, kNa, kNb, kOa, kAa, kOb, kAb, kLa, kLb] at c1p
  refine G_seq ?_
  refine G_region ?_
  refine GL_step rfl (PS_assign rfl) ?_
  refine GL_nil ?_
  refine GQ_sub (.cons (k := 4) rfl (.nil _)) ?_
  refine GQ_then ?_
  refine G_ret ?_
  refine GQ_then_ret ?_
  refine GQ_ret rfl (.tmp rfl .nil) ?_
  intro w1 hS; refine ⟨congrArg Value.bool ?_, hS.toKeep⟩; have : xs ≠ ys := fun e => by subst e; simp at c1; omega
  simp [this]
 ·
  have c1p := c1
  try simp only [kDa, kDb, kNa, kNb, kOa, kAa, kOb, kAb, kLa, kLb] at c1p
  refine G_skip ?_
  refine GQ_sub (.cons (k := 0) rfl (.cons (k := 1) rfl (.nil _))) ?_
  refine GQ_then ?_
  refine G_seq ?_
  refine G_seq ?_
  refine G_region ?_
  refine GL_step rfl (PS_move rfl) ?_
  refine GL_step rfl (PS_len_slice rfl Tryz.underlying47 rfl) ?_
  refine GL_step rfl (PS_move rfl) ?_
  refine GL_nil ?_
  refine GQ_sub (.cons (k := 0) rfl (.cons (k := 1) rfl (.cons (k := 12) rfl (.cons (k := 13) rfl (.nil _))))) ?_
  refine GQ_then ?_
  refine G_block ?_
  refine G_subF (.cons (k := 13) rfl (.cons (k := 0) rfl (.cons (k := 1) rfl (.cons (k := 12) rfl (.nil _))))) ?_
  refine G_loop1_ (fun (i : Int) => 0 ≤ i ∧ i ≤ xs.length ∧ xs.length = ys.length ∧ xs.take i.toNat = ys.take i.toNat) (fun (i : Int) => ((xs.length : Int) - i).toNat) (fun (i : Int) => [(13, .int .i64 i)]) (fun (i : Int) => []) (0) ?_ rfl rfl (fun i hI1 => ?_)
  · exact ⟨by omega, by omega, by simp at c1; omega, rfl⟩
  obtain ⟨hI11, hI12, hI13, hI14⟩ := hI1
  refine G_seq ?_
  refine G_region ?_
  refine GL_step rfl (PS_lss rfl rfl) ?_
  refine GL_nil ?_
  refine GQ_then ?_
  refine G_seq ?_
  refine G_cond rfl (fun c2 => ?_) (fun c2 => ?_)
  ·
   have c2p := c2
   try simp only [kDa, kDb, kNa, kNb, kOa, kAa, kOb, kAb, kLa, kLb] at c2p
   refine G_skip ?_
   refine GQ_sub (.cons (k := 0) rfl (.cons (k := 1) rfl (.cons (k := 12) rfl (.cons (k := 13) rfl (.nil _))))) ?_
   refine GQ_then ?_
   refine G_seq ?_
   refine G_block ?_
   refine G_seq ?_
   refine G_region ?_
   refine GL_step rfl (PS_move rfl) ?_
   refine GL_step rfl (PS_assign rfl) ?_
   refine GL_nil ?_
   refine GQ_sub (.cons (k := 0) rfl (.cons (k := 1) rfl (.cons (k := 5) rfl (.cons (k := 12) rfl (.cons (k := 13) rfl (.nil _)))))) ?_
   refine GQ_then ?_
   refine G_seq ?_
   refine G_planN (N := 9) [0, 0, 3, 7, 0, 0, 48, 112, 255] mix (by kernel_rfl) rfl ?_
   refine Plan_float 0 rfl rfl (by kernel_rfl) (OK_s (EX_s (PS_move rfl))) ?_
   refine Plan_float 1 rfl rfl (by kernel_rfl) (OK_s (EX_s (PS_move rfl))) ?_
   refine Plan_float 2 rfl rfl (by kernel_rfl) (OK_s (EX_s (PS_idxS is47 (by decide) (Kn.old r0) rfl rfl (by omega) (by omega)))) ?_
   refine Plan_float 3 rfl rfl (by kernel_rfl) (OK_s (EX_s (PS_ldStr rfl tys9 (Kn.old r0) (by omega)))) ?_
   refine Plan_float 4 rfl rfl (by kernel_rfl) (OK_s (EX_s (PS_move rfl))) ?_
   refine Plan_float 5 rfl rfl (by kernel_rfl) (OK_s (EX_s (PS_move rfl))) ?_
   refine Plan_float 6 rfl rfl (by kernel_rfl) (OK_s (EX_s (PS_idxS is47 (by decide) (Kn.old r1) rfl rfl (by omega) (by omega)))) ?_
   refine Plan_float 7 rfl rfl (by kernel_rfl) (OK_s (EX_s (PS_ldStr rfl tys9 (Kn.old r1) (by omega)))) ?_
   refine Plan_float 8 rfl rfl (by kernel_rfl) (OK_s (EX_s (PS_neq_str rfl rfl))) ?_
   refine Plan_end (by kernel_rfl) ?_
   refine GQ_sub (.cons (k := 0) rfl (.cons (k := 1) rfl (.cons (k := 12) rfl (.cons (k := 13) rfl (.cons (k := 24) rfl (.nil _)))))) ?_
   refine GQ_then ?_
   refine G_cond rfl (fun c3 => ?_) (fun c3 => ?_)
   ·
    have c3p := c3
    try simp only [kDa, kDb, kNa, kNb, kOa, kAa, kOb, kAb, kLa, kLb] at c3p
    refine G_seq ?_
    refine G_region ?_
    refine GL_step rfl (PS_assign rfl) ?_
    refine GL_nil ?_
    refine GQ_sub (.cons (k := 4) rfl (.nil _)) ?_
    refine GQ_then ?_
    refine G_ret ?_
    refine GQ_block_ret ?_
    refine GQ_then_ret ?_
    refine GQ_then_ret ?_
    refine GQ_block_ret ?_
    refine GQ_then_ret ?_
    refine GQ_ret rfl (.tmp rfl .nil) ?_
    intro w1 hS; refine ⟨congrArg Value.bool ?_, hS.toKeep⟩; have := Line.ne_of_getD (d := []) (xs := xs) (ys := ys) (i := i.toNat) (by simpa using c3)
    simp [this]
   ·
    have c3p := c3
    try simp only [kDa, kDb, kNa, kNb, kOa, kAa, kOb, kAb, kLa, kLb] at c3p
    refine G_skip ?_
    refine GQ_sub (.cons (k := 0) rfl (.cons (k := 1) rfl (.cons (k := 12) rfl (.cons (k := 13) rfl (.nil _))))) ?_
    refine GQ_block ?_
    refine GQ_then ?_
    refine G_region ?_
    refine GL_step rfl (PS_add rfl rfl (IntWalk.i64_in _ (by omega))) ?_
    refine GL_step rfl (PS_move rfl) ?_
    refine GL_nil ?_
    refine GQ_sub (.cons (k := 0) rfl (.cons (k := 1) rfl (.cons (k := 12) rfl (.cons (k := 13) rfl (.nil _))))) ?_
    refine GQ_next1_ (i + 1) ?_ ?_ (.cons (k := 13) rfl (.cons (k := 0) rfl (.cons (k := 1) rfl (.cons (k := 12) rfl (.nil _))))) (.refl _)
    · exact ⟨by omega, by omega, hI13, Line.take_next (d := []) hI11 hI13 (by omega) hI14 (by simpa using c3)⟩
    · omega
  ·
   have c2p := c2
   try simp only [kDa, kDb, kNa, kNb, kOa, kAa, kOb, kAb, kLa, kLb] at c2p
   refine G_exit ?_
   refine GQ_then_exit ?_
   refine GQ_then_exit ?_
   refine GQ_block_exit ?_
   refine GQ_sub (.nil _) ?_
   refine GQ_then ?_
   refine G_seq ?_
   refine G_region ?_
   refine GL_step rfl (PS_assign rfl) ?_
   refine GL_nil ?_
   refine GQ_then ?_
   refine G_ret ?_
   refine GQ_ret rfl (.tmp rfl .nil) ?_
   intro w1 hS; refine ⟨congrArg Value.bool ?_, hS.toKeep⟩; have := Line.pickE (xs := xs) (ys := ys) hI13 hI14 (by omega)
   simp [this]
theorem ref_SamePage_spec {t0 t1 : Nat} (x y : PageV) (xs ys : List Str) (hx : xs.length ≤ 9223372036854775807) (w : World) (r0 : Rd w x.wait t0 1 (xs.flatMap encS)) (r1 : Rd w y.wait t1 1 (ys.flatMap encS)) : Ret Tryz.prog 9 #[.agg x.enc.toArray, .agg y.enc.toArray] w fun v w' => v = .bool (decide (xs = ys) && decide (x.shown = y.shown) && (x.asking == y.asking) && decide (x.ring = y.ring) && (x.cut == y.cut)) ∧ Keep w w' := by
 refine Ret_body [] [] Tryz.func9 rfl rfl rfl (St.start w []) ?_
 refine G_seq ?_
 refine G_region ?_
 refine GL_box rfl rfl rfl (fun b1 => ?_)
 refine GL_box rfl rfl rfl (fun b2 => ?_)
 refine GL_step rfl (PS_assign rfl) ?_
 refine GL_nil ?_
 refine GQ_sub (.cons (k := 2) rfl (.cons (k := 3) rfl (.nil _))) ?_
 refine GQ_then ?_
 refine G_seq ?_
 refine G_region ?_
 refine GL_step rfl (PS_fieldAddr fa51_0 rfl) ?_
 refine GL_step rfl (PS_load rfl tys47 (.tail _ (.head _)) PageV.l0 rfl rfl) ?_
 refine GL_step rfl (PS_fieldAddr fa51_0 rfl) ?_
 refine GL_step rfl (PS_load rfl tys47 (.head _) PageV.l0 rfl rfl) ?_
 refine GL_pure rfl cf22 (.cons rfl (.cons rfl .nil)) (fun w hS => ref_SameTexts_spec _ _ _ _ (by first | assumption | omega) w ((Kn.old r0) w hS) ((Kn.old r1) w hS)) ?_
 refine GL_step rfl (PS_move rfl) ?_
 refine GL_gt (t := 10) rfl rfl rfl (fun q => PS_fieldAddr fa51_1 rfl) ?_
 refine GL_gt (t := 10) rfl rfl rfl (fun q => PS_load (cvE rfl q) tys3 (.tail _ (.head _)) PageV.l1 rfl rfl) ?_
 refine GL_gt (t := 10) rfl rfl rfl (fun q => PS_fieldAddr fa51_1 rfl) ?_
 refine GL_gt (t := 10) rfl rfl rfl (fun q => PS_load (cvE rfl q) tys3 (.head _) PageV.l1 rfl rfl) ?_
 refine GL_gt (t := 10) rfl rfl rfl (fun q => PS_eql (cvE rfl q) (cvE rfl q)) ?_
 refine GL_step rfl (PS_and rfl rfl (fun h => h)) ?_
 refine GL_step rfl (PS_move rfl) ?_
 refine GL_gt (t := 17) rfl rfl rfl (fun q => PS_fieldAddr fa51_2 rfl) ?_
 refine GL_gt (t := 17) rfl rfl rfl (fun q => PS_load (cvE rfl q) tys4 (.tail _ (.head _)) PageV.l2 rfl rfl) ?_
 refine GL_gt (t := 17) rfl rfl rfl (fun q => PS_fieldAddr fa51_2 rfl) ?_
 refine GL_gt (t := 17) rfl rfl rfl (fun q => PS_load (cvE rfl q) tys4 (.head _) PageV.l2 rfl rfl) ?_
 refine GL_gt (t := 17) rfl rfl rfl (fun q => PS_eql_bool Tryz.underlying4 (cvE rfl q) (cvE rfl q)) ?_
 refine GL_step rfl (PS_and rfl rfl (fun h => h)) ?_
 refine GL_step rfl (PS_move rfl) ?_
 refine GL_gt (t := 24) rfl rfl rfl (fun q => PS_fieldAddr fa51_3 rfl) ?_
 refine GL_gt (t := 24) rfl rfl rfl (fun q => PS_load (cvE rfl q) tys9 (.tail _ (.head _)) PageV.l3 rfl rfl) ?_
 refine GL_gt (t := 24) rfl rfl rfl (fun q => PS_fieldAddr fa51_3 rfl) ?_
 refine GL_gt (t := 24) rfl rfl rfl (fun q => PS_load (cvE rfl q) tys9 (.head _) PageV.l3 rfl rfl) ?_
 refine GL_gt (t := 24) rfl rfl rfl (fun q => PS_eql_str (cvE rfl q) (cvE rfl q)) ?_
 refine GL_step rfl (PS_and rfl rfl (fun h => h)) ?_
 refine GL_step rfl (PS_move rfl) ?_
 refine GL_gt (t := 31) rfl rfl rfl (fun q => PS_fieldAddr fa51_4 rfl) ?_
 refine GL_gt (t := 31) rfl rfl rfl (fun q => PS_load (cvE rfl q) tys4 (.tail _ (.head _)) PageV.l4 rfl rfl) ?_
 refine GL_gt (t := 31) rfl rfl rfl (fun q => PS_fieldAddr fa51_4 rfl) ?_
 refine GL_gt (t := 31) rfl rfl rfl (fun q => PS_load (cvE rfl q) tys4 (.head _) PageV.l4 rfl rfl) ?_
 refine GL_gt (t := 31) rfl rfl rfl (fun q => PS_eql_bool Tryz.underlying4 (cvE rfl q) (cvE rfl q)) ?_
 refine GL_step rfl (PS_and rfl rfl (fun h => h)) ?_
 refine GL_step rfl (PS_assign rfl) ?_
 refine GL_nil ?_
 refine GQ_sub (.cons (k := 4) rfl (.nil _)) ?_
 refine GQ_then ?_
 refine G_ret ?_
 refine GQ_ret rfl (.tmp rfl .nil) ?_
 intro w1 hS; refine ⟨?_, hS.toKeep⟩; rfl
theorem house_House_Line_spec (i : Int) (w : World) : Ret Tryz.prog 12 #[.pointer none, .int .i64 i] w fun v w' => v = .agg (LineV.enc ⟨[], false, false, ⟨none, 0, 0⟩⟩).toArray ∧ Keep w w' := by
 refine Ret_body [] [] Tryz.func12 rfl rfl rfl (St.start w []) ?_
 refine G_seq ?_
 refine G_region ?_
 refine GL_alloc rfl zv55 rfl (fun b1 => ?_)
 refine GL_nil ?_
 refine GQ_then ?_
 refine G_seq ?_
 refine G_seq ?_
 refine G_region ?_
 refine GL_step rfl (PS_move rfl) ?_
 refine GL_step rfl (PS_eqp_nil Tryz.underlying24 rfl) ?_
 refine GL_step rfl (PS_move rfl) ?_
 refine GL_pass (t := 8) rfl rfl rfl rfl ?_
 refine GL_pass (t := 8) rfl rfl rfl rfl ?_
 refine GL_step rfl (PS_pick_true rfl rfl) ?_
 refine GL_step rfl (PS_move rfl) ?_
 refine GL_pass (t := 12) rfl rfl rfl rfl ?_
 refine GL_pass (t := 12) rfl rfl rfl rfl ?_
 refine GL_step rfl (PS_pick_true rfl rfl) ?_
 refine GL_nil ?_
 refine GQ_sub (.cons (k := 0) rfl (.cons (k := 1) rfl (.cons (k := 4) rfl (.cons (k := 15) rfl (.nil _))))) ?_
 refine GQ_then ?_
 refine G_true rfl rfl ?_
 refine G_seq ?_
 refine G_region ?_
 refine GL_step rfl (PS_build pl55 zv55 rfl .nil) ?_
 refine GL_unit (PU_store (Lens.id LineV.fl.len LineV.fl.one) rfl rfl rfl sz55 rfl .head) ?_
 refine GL_nil ?_
 refine GQ_sub (.cons (k := 4) rfl (.nil _)) ?_
 refine GQ_then ?_
 refine G_ret ?_
 refine GQ_then_ret ?_
 refine GQ_ret rfl (.cell rfl (.head _) (.inl ⟨(by rw [LineV.fl.len]; exact tya55), rfl⟩) .nil) ?_
 intro w1 hS; refine ⟨?_, hS.toKeep⟩; rfl
theorem ref_SameLine_spec {t0 t1 : Nat} (x y : LineV) (xs ys : List Str) (hx : xs.length ≤ 9223372036854775807) (w : World) (r0 : Rd w x.queue t0 1 (xs.flatMap encS)) (r1 : Rd w y.queue t1 1 (ys.flatMap encS)) : Ret Tryz.prog 11 #[.agg x.enc.toArray, .agg y.enc.toArray] w fun v w' => v = .bool (decide (x.now = y.now) && (x.long == y.long) && (x.ret == y.ret) && decide (xs = ys)) ∧ Keep w w' := by
 refine Ret_body [] [] Tryz.func11 rfl rfl rfl (St.start w []) ?_
 refine G_seq ?_
 refine G_region ?_
 refine GL_box rfl rfl rfl (fun b1 => ?_)
 refine GL_box rfl rfl rfl (fun b2 => ?_)
 refine GL_step rfl (PS_assign rfl) ?_
 refine GL_nil ?_
 refine GQ_sub (.cons (k := 2) rfl (.cons (k := 3) rfl (.nil _))) ?_
 refine GQ_then ?_
 refine G_seq ?_
 refine G_region ?_
 refine GL_step rfl (PS_fieldAddr fa55_0 rfl) ?_
 refine GL_step rfl (PS_load rfl tys9 (.tail _ (.head _)) LineV.l0 rfl rfl) ?_
 refine GL_step rfl (PS_fieldAddr fa55_0 rfl) ?_
 refine GL_step rfl (PS_load rfl tys9 (.head _) LineV.l0 rfl rfl) ?_
 refine GL_step rfl (PS_eql_str rfl rfl) ?_
 refine GL_step rfl (PS_move rfl) ?_
 refine GL_gt (t := 10) rfl rfl rfl (fun q => PS_fieldAddr fa55_1 rfl) ?_
 refine GL_gt (t := 10) rfl rfl rfl (fun q => PS_load (cvE rfl q) tys4 (.tail _ (.head _)) LineV.l1 rfl rfl) ?_
 refine GL_gt (t := 10) rfl rfl rfl (fun q => PS_fieldAddr fa55_1 rfl) ?_
 refine GL_gt (t := 10) rfl rfl rfl (fun q => PS_load (cvE rfl q) tys4 (.head _) LineV.l1 rfl rfl) ?_
 refine GL_gt (t := 10) rfl rfl rfl (fun q => PS_eql_bool Tryz.underlying4 (cvE rfl q) (cvE rfl q)) ?_
 refine GL_step rfl (PS_and rfl rfl (fun h => h)) ?_
 refine GL_step rfl (PS_move rfl) ?_
 refine GL_gt (t := 17) rfl rfl rfl (fun q => PS_fieldAddr fa55_2 rfl) ?_
 refine GL_gt (t := 17) rfl rfl rfl (fun q => PS_load (cvE rfl q) tys4 (.tail _ (.head _)) LineV.l2 rfl rfl) ?_
 refine GL_gt (t := 17) rfl rfl rfl (fun q => PS_fieldAddr fa55_2 rfl) ?_
 refine GL_gt (t := 17) rfl rfl rfl (fun q => PS_load (cvE rfl q) tys4 (.head _) LineV.l2 rfl rfl) ?_
 refine GL_gt (t := 17) rfl rfl rfl (fun q => PS_eql_bool Tryz.underlying4 (cvE rfl q) (cvE rfl q)) ?_
 refine GL_step rfl (PS_and rfl rfl (fun h => h)) ?_
 refine GL_step rfl (PS_move rfl) ?_
 refine GL_gt (t := 24) rfl rfl rfl (fun q => PS_fieldAddr fa55_3 rfl) ?_
 refine GL_gt (t := 24) rfl rfl rfl (fun q => PS_load (cvE rfl q) tys47 (.tail _ (.head _)) LineV.l3 rfl rfl) ?_
 refine GL_gt (t := 24) rfl rfl rfl (fun q => PS_fieldAddr fa55_3 rfl) ?_
 refine GL_gt (t := 24) rfl rfl rfl (fun q => PS_load (cvE rfl q) tys47 (.head _) LineV.l3 rfl rfl) ?_
 refine GL_pgt (t := 24) rfl rfl rfl (fun q => by have q1 := q; (try simp at q1); exact PC_of cf22 (.cons (cvE rfl q) (.cons (cvE rfl q) .nil)) (fun w hS => ref_SameTexts_spec _ _ _ _ (by first | assumption | omega) w ((Kn.old r0) w hS) ((Kn.old r1) w hS))) ?_
 refine GL_step rfl (PS_and rfl rfl (fun h => h)) ?_
 refine GL_step rfl (PS_assign rfl) ?_
 refine GL_nil ?_
 refine GQ_sub (.cons (k := 4) rfl (.nil _)) ?_
 refine GQ_then ?_
 refine G_ret ?_
 refine GQ_ret rfl (.tmp rfl .nil) ?_
 intro w1 hS; refine ⟨?_, hS.toKeep⟩; rfl
theorem law_HouseNil_spec (a : ActV) (i : Int) (w : World) : Ret Tryz.prog 3 #[.agg a.enc.toArray, .int .i64 i] w fun v w' => v = .bool true ∧ Keep w w' := by
 refine Ret_body [] [] Tryz.func3 rfl rfl rfl (St.start w []) ?_
 refine G_seq ?_
 refine G_region ?_
 refine GL_box rfl rfl rfl (fun b1 => ?_)
 refine GL_step rfl (PS_assign rfl) ?_
 refine GL_nil ?_
 refine GQ_sub (.cons (k := 1) rfl (.cons (k := 2) rfl (.nil _))) ?_
 refine GQ_then ?_
 refine G_seq ?_
 refine G_region ?_
 refine GL_step rfl (PS_assign rfl) ?_
 refine GL_nil ?_
 refine GQ_then ?_
 refine G_seq ?_
 refine G_region ?_
 refine GL_step rfl (PS_move rfl) ?_
 refine GL_step rfl (PS_move rfl) ?_
 refine GL_pure rfl cf4 (.cons rfl (.cons rfl .nil)) (fun w hS => house_House_State_spec _ w) ?_
 refine GL_step rfl (PS_move rfl) ?_
 refine GL_step rfl (PS_extract rfl rfl) ?_
 refine GL_step rfl (PS_extract rfl rfl) ?_
 refine GL_step rfl (PS_assign rfl) ?_
 refine GL_step rfl (PS_assign rfl) ?_
 refine GL_nil ?_
 refine GQ_sub (.cons (k := 1) rfl (.cons (k := 2) rfl (.cons (k := 5) rfl (.cons (k := 6) rfl (.cons (k := 7) rfl (.nil _)))))) ?_
 refine GQ_then ?_
 refine G_seq ?_
 refine G_region ?_
 refine GL_step rfl (PS_move rfl) ?_
 refine GL_step rfl (PS_loadA rfl tya23 (.head _) (Lens.id ActV.fl.len ActV.fl.one) rfl) ?_
 refine GL_pure rfl cf5 (.cons rfl (.cons rfl .nil)) (fun w hS => house_House_Do_spec _ w) ?_
 refine GL_step rfl (PS_build pl29 zv29 rfl (.cons Reply.l0 rfl rfl rfl .nil)) ?_
 refine GL_step rfl (PS_eql_agg eq29 (by decide) (by kernel_rfl) rfl rfl) ?_
 refine GL_step rfl (PS_move rfl) ?_
 refine GL_gt (t := 19) rfl rfl rfl (fun q => PS_move rfl) ?_
 refine GL_gt (t := 19) rfl rfl rfl (fun q => PS_eql (cvE rfl q) rfl) ?_
 refine GL_step rfl (PS_and rfl rfl (fun h => h)) ?_
 refine GL_step rfl (PS_move rfl) ?_
 refine GL_gt (t := 23) rfl rfl rfl (fun q => PS_move rfl) ?_
 refine GL_gt (t := 23) rfl rfl rfl (fun q => PS_eql (cvE rfl q) rfl) ?_
 refine GL_step rfl (PS_and rfl rfl (fun h => h)) ?_
 refine GL_step rfl (PS_move rfl) ?_
 refine GL_gt (t := 27) rfl rfl rfl (fun q => PS_move rfl) ?_
 refine GL_pgt (t := 27) rfl rfl rfl (fun q => PC_of cf6 (.cons (cvE rfl q) .nil) (fun w hS => house_House_Land_spec w)) ?_
 refine GL_gt (t := 27) rfl rfl rfl (fun q => PS_build pl43 zv43 rfl .nil) ?_
 refine GL_gt (t := 27) rfl rfl rfl (fun q => PS_eql_agg eq43 (by decide) (by kernel_rfl) (cvE rfl q) (cvE rfl q)) ?_
 refine GL_step rfl (PS_and rfl rfl (fun h => h)) ?_
 refine GL_step rfl (PS_move rfl) ?_
 refine GL_gt (t := 33) rfl rfl rfl (fun q => PS_move rfl) ?_
 refine GL_pgt (t := 33) rfl rfl rfl (fun q => PC_of cf7 (.cons (cvE rfl q) .nil) (fun w hS => house_House_Last_spec w)) ?_
 refine GL_gt (t := 33) rfl rfl rfl (fun q => PS_len_slice rfl Tryz.underlying45 (cvE rfl q)) ?_
 refine GL_gt (t := 33) rfl rfl rfl (fun q => PS_eql (cvE rfl q) rfl) ?_
 refine GL_step rfl (PS_and rfl rfl (fun h => h)) ?_
 refine GL_step rfl (PS_move rfl) ?_
 refine GL_gt (t := 39) rfl rfl rfl (fun q => PS_move rfl) ?_
 refine GL_gt (t := 39) rfl rfl rfl (fun q => PS_move rfl) ?_
 refine GL_pgt (t := 39) rfl rfl rfl (fun q => PC_of cf8 (.cons (cvE rfl q) (.cons (cvE rfl q) .nil)) (fun w hS => house_House_Told_spec _ w)) ?_
 refine GL_gt (t := 39) rfl rfl rfl (fun q => PS_len_slice rfl Tryz.underlying47 (cvE rfl q)) ?_
 refine GL_gt (t := 39) rfl rfl rfl (fun q => PS_eql (cvE rfl q) rfl) ?_
 refine GL_step rfl (PS_and rfl rfl (fun h => h)) ?_
 refine GL_step rfl (PS_move rfl) ?_
 refine GL_gt (t := 46) rfl rfl rfl (fun q => PS_move rfl) ?_
 refine GL_gt (t := 46) rfl rfl rfl (fun q => PS_move rfl) ?_
 refine GL_pgt (t := 46) rfl rfl rfl (fun q => PC_of cf10 (.cons (cvE rfl q) (.cons (cvE rfl q) .nil)) (fun w hS => house_House_Page_spec _ w)) ?_
 refine GL_gt (t := 46) rfl rfl rfl (fun q => PS_build pl51 zv51 rfl .nil) ?_
 refine GL_pgt (t := 46) rfl rfl rfl (fun q => by have q1 := q; (try simp at q1); exact PC_of cf9 (.cons (cvE rfl q) (.cons (cvE rfl q) .nil)) (fun w hS => ref_SamePage_spec (t0 := 0) (t1 := 0) ⟨⟨none, 0, 0⟩, 0, false, [], false⟩ ⟨⟨none, 0, 0⟩, 0, false, [], false⟩ [] [] (by decide) w ((fun w _ => Rd.nil w _ _) w hS) ((fun w _ => Rd.nil w _ _) w hS))) ?_
 refine GL_step rfl (PS_and rfl rfl (fun h => h)) ?_
 refine GL_step rfl (PS_move rfl) ?_
 refine GL_gt (t := 53) rfl rfl rfl (fun q => PS_move rfl) ?_
 refine GL_gt (t := 53) rfl rfl rfl (fun q => PS_move rfl) ?_
 refine GL_pgt (t := 53) rfl rfl rfl (fun q => PC_of cf12 (.cons (cvE rfl q) (.cons (cvE rfl q) .nil)) (fun w hS => house_House_Line_spec _ w)) ?_
 refine GL_gt (t := 53) rfl rfl rfl (fun q => PS_build pl55 zv55 rfl .nil) ?_
 refine GL_pgt (t := 53) rfl rfl rfl (fun q => by have q1 := q; (try simp at q1); exact PC_of cf11 (.cons (cvE rfl q) (.cons (cvE rfl q) .nil)) (fun w hS => ref_SameLine_spec (t0 := 0) (t1 := 0) ⟨[], false, false, ⟨none, 0, 0⟩⟩ ⟨[], false, false, ⟨none, 0, 0⟩⟩ [] [] (by decide) w ((fun w _ => Rd.nil w _ _) w hS) ((fun w _ => Rd.nil w _ _) w hS))) ?_
 refine GL_step rfl (PS_and rfl rfl (fun h => h)) ?_
 refine GL_step rfl (PS_assign rfl) ?_
 refine GL_nil ?_
 refine GQ_sub (.cons (k := 4) rfl (.nil _)) ?_
 refine GQ_then ?_
 refine G_ret ?_
 refine GQ_ret rfl (.tmp rfl .nil) ?_
 intro w1 hS; refine ⟨?_, hS.toKeep⟩; rfl
mutual
def cellsD {H : Type} : DataW H → List Value
  | .lit (.int k n) => [.int k n]
  | .lit (.string bs) => [.string ⟨bs.toArray⟩]
  | .lit (.bool b) => [.bool b]
  | .agg ps => cellsDs ps
  | _ => []
def cellsDs {H : Type} : List (DataW H) → List Value
  | [] => []
  | d :: r => cellsD d ++ cellsDs r
end
def cellsE {H : Type} : DataW H → List Value
  | .iface _ (.ptr (.agg ps)) => cellsDs ps
  | _ => []
/-- Where what the errors point to lies. -/
noncomputable def low : Nat := (World.holding Tryz.prog default ⟨#[], #[], []⟩).heap.size
/-- A world in which the listed variables hold what is listed. -/
noncomputable def laidWorld (os : Os) : World := { World.holding Tryz.prog os ⟨#[.cells (cellsE (Rows.laid_strconv_ErrRange : DataW Unit)).toArray 229, .cells (cellsE (Rows.laid_strconv_ErrSyntax : DataW Unit)).toArray 229], #[], []⟩ with heap := (((((((((World.holding Tryz.prog os ⟨#[.cells (cellsE (Rows.laid_strconv_ErrRange : DataW Unit)).toArray 229, .cells (cellsE (Rows.laid_strconv_ErrSyntax : DataW Unit)).toArray 229], #[], []⟩).heap.modify 6 fun o => match o with | .cells _ t frozen => .cells #[.iface 227 (.pointer (some ⟨low + 0, 0, none⟩))] t frozen | o => o).modify 5 fun o => match o with | .cells _ t frozen => .cells #[.iface 227 (.pointer (some ⟨low + 1, 0, none⟩))] t frozen | o => o).modify 7 fun o => match o with | .cells _ t frozen => .cells (cellsD (Rows.laid_math_bits_deBruijn32tab : DataW Unit)).toArray t frozen | o => o).modify 8 fun o => match o with | .cells _ t frozen => .cells (cellsD (Rows.laid_math_bits_deBruijn64tab : DataW Unit)).toArray t frozen | o => o).modify 4 fun o => match o with | .cells _ t frozen => .cells (cellsD (Rows.laid_internal_strconv_uint64pow10 : DataW Unit)).toArray t frozen | o => o).modify 2 fun o => match o with | .cells _ t frozen => .cells (cellsD (Rows.laid_unicode_utf8_acceptRanges : DataW Unit)).toArray t frozen | o => o).modify 0 fun o => match o with | .cells _ t frozen => .cells (cellsD (Rows.laid_inglenook_words_verbs : DataW Unit)).toArray t frozen | o => o).modify 1 fun o => match o with | .cells _ t frozen => .cells (cellsD (Rows.laid_unicode_utf8_first : DataW Unit)).toArray t frozen | o => o) }
set_option maxRecDepth 100000 in
theorem laid_met (os : Os) : laidMet Tryz.prog Rows.houseNilRow.laid ((laidWorld os).forCall (fun _ _ => 0) ⟨#[], #[.agg (ActV.enc (default : ActV)).toArray, .int .i64 0], []⟩).memory :=
  laidMet_of_run' 8 (by kernel_rfl) (by kernel_rfl)
set_option maxRecDepth 100000 in
theorem reads (os : Os) {H : Type} (enc : TypeId × Value → H) : ∃ places, DataW.whole enc Tryz.prog ((laidWorld os).forCall (fun _ _ => 0) ⟨#[], #[.agg (ActV.enc (default : ActV)).toArray, .int .i64 0], []⟩).memory Tryz.f3.params.toList Rows.houseNilSpec.vars false (#[.agg (ActV.enc (default : ActV)).toArray, .int .i64 0] : Array Value).toList 8 = some ([.agg [.lit (.int .i64 0), .lit (.int .i64 0), .lit (.int .i64 0), .lit (.string [])], .lit (.int .i64 0)], [], places) := ⟨[], by kernel_rfl⟩
set_option maxRecDepth 100000 in
theorem houseNil_lifted (os : Os) (started : os.Started) (H : Type) (enc : TypeId × Value → H) (F : Stop.Interp) :
    ReturnsInHanded {} Tryz.checked os 3 .any ((OpenSpec.ofChange Rows.houseNilSpec).preRow enc Tryz.prog Tryz.f3 Rows.houseNilRow.domain false Rows.houseNilRow.laid) (((OpenSpec.ofChange Rows.houseNilSpec).at F).post enc Tryz.prog Tryz.f3 false true false false) := by
  obtain ⟨places, hx⟩ := reads os enc
  refine returnsInHanded_of_row (C := Tryz.checked) (s := (OpenSpec.ofChange Rows.houseNilSpec)) own started (by kernel_rfl) Tryz.func3
    (witness_row_at (enc := enc) (C := Tryz.checked) false (laidWorld os) #[.agg (ActV.enc (default : ActV)).toArray, .int .i64 0] rfl (by kernel_rfl) (by kernel_rfl) (by kernel_rfl)
      (OpenSpec.preRow_of_cond 8 hx (by kernel_rfl) (fun k hk => by cases hk) (by kernel_rfl) (laid_met os))) ?_
  intro W base args ds gs before hval hW _ hcond hsz hL _ _
  refine law_post (B := 4) laidOut (by kernel_rfl) Tryz.underlying4 (by kernel_rfl) rfl (fun ds h => by rw [Tryz.params3] at h; match ds, h with | [d1, d2], _ => rfl) hW ?_
  obtain ⟨p, q, hA, hV, _, _, _⟩ := hW
  rw [Tryz.params3] at hA
  obtain ⟨v0, vs0, d0, ds0, p0, q0, hv0, rfl, rfl, hd0, hA⟩ := trodAll_cons hA
  obtain ⟨v1, vs1, d1, ds1, p1, q1, hv1, rfl, rfl, hd1, hA⟩ := trodAll_cons hA
  obtain ⟨hvn, rfl, rfl⟩ := trodAll_nil hA
  obtain rfl : args = #[v0, v1] := by cases args; simp_all
  obtain ⟨a, rfl, w0⟩ := open_ag (P := Tryz.prog) (t := 23) (by rw [Tryz.underlying23]) (hval 0 _ _ rfl rfl) dc23 hd0
  obtain ⟨i, rfl, rfl, rfl, w1⟩ := open_int Tryz.underlying3 (hval 1 _ _ rfl rfl) hd1
  have w1 := bounds_i64 w1
  exact law_HouseNil_spec _ _ W
theorem houseNil_said : Rows.HouseNilSaid :=
  OpenClaim.holds_of_cond 3 Tryz.f3 rfl rfl rfl rfl rfl rfl rfl ⟨rfl, rfl, rfl, rfl, rfl⟩ rfl rfl rfl rfl rfl (by kernel_rfl) Tryz.func3 (by kernel_rfl)
    (of_decide_eq_true (by kernel_rfl)) (by unfold Func.isWrapper; first | (rw [if_pos (by decide +kernel)]; kernel_rfl) | (rw [if_neg (by decide +kernel)]; exact ⟨rfl, rfl⟩))
    (fun os started H enc _ F => by rw [OpenClaim.pre_eq_preRow]; exact houseNil_lifted os started H enc F)
theorem plainArgs (f : FuncId) (fn : Func) (hf : Tryz.pinned.checked.prog.funcNamed "inglenook/inglenooklaw.HouseNil" = some f) (hfn : Tryz.pinned.checked.prog.funcs[f]? = some fn) :
    true = Tryz.pinned.checked.prog.looks [] ∧ ∀ (j : Nat) t, fn.params[j]? = some t → Tryz.pinned.checked.prog.wantsStandIn t = false := by
  obtain rfl : f = 3 := Option.some.inj ((show Tryz.prog.funcNamed "inglenook/inglenooklaw.HouseNil" = some 3 by kernel_rfl).symm.trans hf) |>.symm
  obtain rfl : fn = Tryz.f3 := (Option.some.inj (Tryz.func3.symm.trans hfn)).symm
  refine ⟨by kernel_rfl, fun j t ht => ?_⟩
  rw [Tryz.params3] at ht
  have hm : t ∈ [23, 3] := by simpa using Array.mem_of_getElem? ht
  have hall : ([23, 3].all fun u => !Tryz.prog.wantsStandIn u) = true := by kernel_rfl
  exact (show Tryz.prog.wantsStandIn t = false by simpa using List.all_eq_true.1 hall t hm)
theorem houseNil_holds : Rows.HouseNilCardSaid :=
  Claim7.holds_tied_plain_at .later [] _ _ _ _ houseNil_said (fun _ h => by cases h) (by kernel_rfl) (fun _ h => by cases h) houseNil_row_tie rfl ⟨rfl, rfl⟩ (by kernel_rfl) rfl plainArgs (by kernel_rfl)
end Go.Proofs.YtceffkjlnhekcaaGreatDoor
