/- For every input the law LandStands returns true. No condition. -/
import Derived.Test.YtnpbkbianmogoaaRows
import Derived.Test.YtnpbkbianmogoaaEc3
import Derived.Test.YtnpbkbianmogoaaLandStandsPlain
set_option linter.unusedSimpArgs false
set_option linter.unusedVariables false
set_option maxRecDepth 100000
namespace Go.Proofs.Ytnpbkbianmogoaa
open Go Go.Ing Go.RowKit Go.ChangeShapes Go.WideShapes Go.ChangeAt
theorem own : ownKnob Try.prog.godebug = none := by kernel_rfl
theorem laidOut : laidOutB Try.prog = true := by kernel_rfl
theorem sz49 : Sz Try.prog 49 45 := Sz_of (by kernel_rfl)
theorem fa54_1 : FA Try.prog 54 1 84 := FA_of Try.underlying54 rfl sz49
theorem sz48 : Sz Try.prog 48 5 := Sz_of (by kernel_rfl)
theorem ia49 : IA Try.prog 49 9 5 := IA_of Try.underlying49 sz48
theorem tya48 : TyA Try.prog 48 5 := TyA_of Try.underlying48 rfl sz48
theorem zv48 : ZV Try.prog 48 (.agg (Thing.enc (default : Thing)).toArray) := ZV_of (by kernel_rfl)
theorem sz3 : Sz Try.prog 3 1 := Sz_of (by kernel_rfl)
theorem fa48_2 : FA Try.prog 48 2 2 := FA_of Try.underlying48 rfl sz3
theorem tys3 : TyS Try.prog 3 := TyS_of Try.underlying3 rfl
theorem fa48_3 : FA Try.prog 48 3 3 := FA_of Try.underlying48 rfl sz3
theorem sz52 : Sz Try.prog 52 36 := Sz_of (by kernel_rfl)
theorem fa54_2 : FA Try.prog 54 2 129 := FA_of Try.underlying54 rfl sz52
theorem sz51 : Sz Try.prog 51 6 := Sz_of (by kernel_rfl)
theorem ia52 : IA Try.prog 52 6 6 := IA_of Try.underlying52 sz51
theorem fa51_3 : FA Try.prog 51 3 3 := FA_of Try.underlying51 rfl sz3
theorem sz4 : Sz Try.prog 4 1 := Sz_of (by kernel_rfl)
theorem fa48_4 : FA Try.prog 48 4 4 := FA_of Try.underlying48 rfl sz4
theorem tys4 : TyS Try.prog 4 := TyS_of Try.underlying4 rfl
theorem zv4 : ZV Try.prog 4 (.bool false) := ZV_of (by kernel_rfl)
theorem mix : Try.prog.follows .mixedOrders = true := by kernel_rfl
theorem sz54 : Sz Try.prog 54 165 := Sz_of (by kernel_rfl)
theorem tya54 : TyA Try.prog 54 165 := TyA_of Try.underlying54 rfl sz54
theorem cf56 : CF Try.prog 56 := Try.call56
theorem fa48_1 : FA Try.prog 48 1 1 := FA_of Try.underlying48 rfl sz3
theorem fa51_1 : FA Try.prog 51 1 1 := FA_of Try.underlying51 rfl sz4
theorem sz46 : Sz Try.prog 46 84 := Sz_of (by kernel_rfl)
theorem fa54_0 : FA Try.prog 54 0 0 := FA_of Try.underlying54 rfl sz46
theorem tya46 : TyA Try.prog 46 84 := TyA_of Try.underlying46 rfl sz46
theorem sz45 : Sz Try.prog 45 14 := Sz_of (by kernel_rfl)
theorem tya45 : TyA Try.prog 45 14 := TyA_of Try.underlying45 rfl sz45
theorem zv45 : ZV Try.prog 45 (.agg (Room.enc (default : Room)).toArray) := ZV_of (by kernel_rfl)
theorem sz42 : Sz Try.prog 42 6 := Sz_of (by kernel_rfl)
theorem fa45_2 : FA Try.prog 45 2 2 := FA_of Try.underlying45 rfl sz42
theorem tya42 : TyA Try.prog 42 6 := TyA_of Try.underlying42 rfl sz42
theorem sz43 : Sz Try.prog 43 6 := Sz_of (by kernel_rfl)
theorem fa45_3 : FA Try.prog 45 3 8 := FA_of Try.underlying45 rfl sz43
theorem ia43 : IA Try.prog 43 6 1 := IA_of Try.underlying43 sz4
theorem tya52 : TyA Try.prog 52 36 := TyA_of Try.underlying52 rfl sz52
theorem tya51 : TyA Try.prog 51 6 := TyA_of Try.underlying51 rfl sz51
theorem zv51 : ZV Try.prog 51 (.agg (Being.enc (default : Being)).toArray) := ZV_of (by kernel_rfl)
theorem fa51_4 : FA Try.prog 51 4 4 := FA_of Try.underlying51 rfl sz3
theorem fa51_5 : FA Try.prog 51 5 5 := FA_of Try.underlying51 rfl sz3
theorem cf55 : CF Try.prog 55 := Try.call55
theorem ia42 : IA Try.prog 42 6 1 := IA_of Try.underlying42 sz3
theorem tya49 : TyA Try.prog 49 45 := TyA_of Try.underlying49 rfl sz49
theorem zv3 : ZV Try.prog 3 (.int .i64 0) := ZV_of (by kernel_rfl)
theorem by3 : BY Try.prog 3 8 := BY_of (by kernel_rfl)
theorem is60 : IS Try.prog 60 1 := IS_of Try.underlying60 sz3
theorem zv54 : ZV Try.prog 54 (.agg (Land.enc (default : Land)).toArray) := ZV_of (by kernel_rfl)
theorem zv42 : ZV Try.prog 42 (.agg (encA (n := 6) encI (Vector.replicate 6 default)).toArray) := ZV_of (by kernel_rfl)
theorem zv43 : ZV Try.prog 43 (.agg (encA (n := 6) encB (Vector.replicate 6 default)).toArray) := ZV_of (by kernel_rfl)
theorem sz9 : Sz Try.prog 9 1 := Sz_of (by kernel_rfl)
theorem pl45 : Places Try.prog 45 [(0, 1), (1, 1), (2, 6), (8, 6)] := ⟨_, Try.underlying45, fun w => by simp [sz9 w, sz4 w, sz42 w, sz43 w]⟩
theorem is84 : IS Try.prog 84 14 := IS_of Try.underlying84 sz45
theorem ia46 : IA Try.prog 46 6 14 := IA_of Try.underlying46 sz45
theorem pl48 : Places Try.prog 48 [(0, 1), (1, 1), (2, 1), (3, 1), (4, 1)] := ⟨_, Try.underlying48, fun w => by simp [sz9 w, sz3 w, sz4 w]⟩
theorem is85 : IS Try.prog 85 5 := IS_of Try.underlying85 sz48
theorem pl51 : Places Try.prog 51 [(0, 1), (1, 1), (2, 1), (3, 1), (4, 1), (5, 1)] := ⟨_, Try.underlying51, fun w => by simp [sz9 w, sz4 w, sz3 w]⟩
theorem zv9 : ZV Try.prog 9 (vstr []) := ZV_of (by kernel_rfl)
theorem is23 : IS Try.prog 23 1 := IS_of Try.underlying23 sz9
theorem tys9 : TyS Try.prog 9 := TyS_of Try.underlying9 rfl
theorem cf57 : CF Try.prog 57 := Try.call57
theorem zv49 : ZV Try.prog 49 (.agg (encA (n := 9) Thing.enc (Vector.replicate 9 default)).toArray) := ZV_of (by kernel_rfl)
theorem cf37 : CF Try.prog 37 := Try.call37
theorem cf27 : CF Try.prog 27 := Try.call27
theorem cf39 : CF Try.prog 39 := Try.call39
theorem cf29 : CF Try.prog 29 := Try.call29
theorem cf31 : CF Try.prog 31 := Try.call31
theorem cf32 : CF Try.prog 32 := Try.call32
theorem cf34 : CF Try.prog 34 := Try.call34
theorem cf35 : CF Try.prog 35 := Try.call35
theorem cf33 : CF Try.prog 33 := Try.call33
theorem cf30 : CF Try.prog 30 := Try.call30
theorem cf36 : CF Try.prog 36 := Try.call36
theorem cf38 : CF Try.prog 38 := Try.call38
theorem eq9 : EqV Try.prog 1 9 (fun s : Str => vstr s) := EqV_str Try.underlying9
theorem eq4 : EqV Try.prog 1 4 (fun b : Bool => .bool b) := EqV_bool Try.underlying4
theorem eq3 : EqV Try.prog 1 3 (fun n : Int => .int .i64 n) := EqV_int Try.underlying3
theorem eq42 : EqV Try.prog 2 42 (fun v : Arr _ 6 => .agg (encA encI v).toArray) := EqV_arr flI Try.underlying42 (by kernel_rfl) (by kernel_rfl) (.inr ⟨tys3, rfl, fun _ => rfl⟩) eq3
theorem eq43 : EqV Try.prog 2 43 (fun v : Arr _ 6 => .agg (encA encB v).toArray) := EqV_arr flB Try.underlying43 (by kernel_rfl) (by kernel_rfl) (.inr ⟨tys4, rfl, fun _ => rfl⟩) eq4
theorem tya43 : TyA Try.prog 43 6 := TyA_of Try.underlying43 rfl sz43
theorem eq45 : EqV Try.prog 3 45 (fun x : Room => .agg (Room.enc x).toArray) := EqV_struct Try.underlying45 (by kernel_rfl) (.cons (by decide) rfl (.inr ⟨tys9, rfl, fun _ => rfl⟩) Room.l0 eq9 (by decide) (.cons (by decide) rfl (.inr ⟨tys4, rfl, fun _ => rfl⟩) Room.l1 eq4 (by decide) (.cons (by decide) rfl (.inl ⟨tya42, fun _ => rfl⟩) Room.l2 eq42 (by decide) (.cons (by decide) rfl (.inl ⟨tya43, fun _ => rfl⟩) Room.l3 eq43 (by decide) .nil)))) (fun x y => by rw [Bool.eq_iff_iff]; cases x; cases y; simp)
theorem eq46 : EqV Try.prog 4 46 (fun v : Arr _ 6 => .agg (encA Room.enc v).toArray) := EqV_arr Room.fl Try.underlying46 (by kernel_rfl) (by kernel_rfl) (.inl ⟨tya45, fun _ => rfl⟩) eq45
theorem eq48 : EqV Try.prog 2 48 (fun x : Thing => .agg (Thing.enc x).toArray) := EqV_struct Try.underlying48 (by kernel_rfl) (.cons (by decide) rfl (.inr ⟨tys9, rfl, fun _ => rfl⟩) Thing.l0 eq9 (by decide) (.cons (by decide) rfl (.inr ⟨tys3, rfl, fun _ => rfl⟩) Thing.l1 eq3 (by decide) (.cons (by decide) rfl (.inr ⟨tys3, rfl, fun _ => rfl⟩) Thing.l2 eq3 (by decide) (.cons (by decide) rfl (.inr ⟨tys3, rfl, fun _ => rfl⟩) Thing.l3 eq3 (by decide) (.cons (by decide) rfl (.inr ⟨tys4, rfl, fun _ => rfl⟩) Thing.l4 eq4 (by decide) .nil))))) (fun x y => by rw [Bool.eq_iff_iff]; cases x; cases y; simp)
theorem eq49 : EqV Try.prog 3 49 (fun v : Arr _ 9 => .agg (encA Thing.enc v).toArray) := EqV_arr Thing.fl Try.underlying49 (by kernel_rfl) (by kernel_rfl) (.inl ⟨tya48, fun _ => rfl⟩) eq48
theorem eq51 : EqV Try.prog 2 51 (fun x : Being => .agg (Being.enc x).toArray) := EqV_struct Try.underlying51 (by kernel_rfl) (.cons (by decide) rfl (.inr ⟨tys9, rfl, fun _ => rfl⟩) Being.l0 eq9 (by decide) (.cons (by decide) rfl (.inr ⟨tys4, rfl, fun _ => rfl⟩) Being.l1 eq4 (by decide) (.cons (by decide) rfl (.inr ⟨tys4, rfl, fun _ => rfl⟩) Being.l2 eq4 (by decide) (.cons (by decide) rfl (.inr ⟨tys3, rfl, fun _ => rfl⟩) Being.l3 eq3 (by decide) (.cons (by decide) rfl (.inr ⟨tys3, rfl, fun _ => rfl⟩) Being.l4 eq3 (by decide) (.cons (by decide) rfl (.inr ⟨tys3, rfl, fun _ => rfl⟩) Being.l5 eq3 (by decide) .nil)))))) (fun x y => by rw [Bool.eq_iff_iff]; cases x; cases y; simp)
theorem eq52 : EqV Try.prog 3 52 (fun v : Arr _ 6 => .agg (encA Being.enc v).toArray) := EqV_arr Being.fl Try.underlying52 (by kernel_rfl) (by kernel_rfl) (.inl ⟨tya51, fun _ => rfl⟩) eq51
theorem eq54 : EqV Try.prog 5 54 (fun x : Land => .agg (Land.enc x).toArray) := EqV_struct Try.underlying54 (by kernel_rfl) (.cons (by decide) rfl (.inl ⟨tya46, fun _ => rfl⟩) Land.l0 eq46 (by decide) (.cons (by decide) rfl (.inl ⟨tya49, fun _ => rfl⟩) Land.l1 eq49 (by decide) (.cons (by decide) rfl (.inl ⟨tya52, fun _ => rfl⟩) Land.l2 eq52 (by decide) .nil))) (fun x y => by rw [Bool.eq_iff_iff]; cases x; cases y; simp)
theorem cf40 : CF Try.prog 40 := Try.call40
theorem dc9 {H : Type} {enc : TypeId × Value → H} {w : World} : Dc H enc Try.prog w (encS) wfS 9 := Dc_string Try.underlying9
theorem dc4 {H : Type} {enc : TypeId × Value → H} {w : World} : Dc H enc Try.prog w (encB) wfB 4 := Dc_bool Try.underlying4
theorem dc3 {H : Type} {enc : TypeId × Value → H} {w : World} : Dc H enc Try.prog w (encI) wfI 3 := Dc_int Try.underlying3
theorem dc42 {H : Type} {enc : TypeId × Value → H} {w : World} : Dc H enc Try.prog w (encA (n := 6) encI) (wfA wfI) 42 := Dc_arr (sz := 1) Try.underlying42 (by kernel_rfl) (by kernel_rfl) dc3
theorem dc43 {H : Type} {enc : TypeId × Value → H} {w : World} : Dc H enc Try.prog w (encA (n := 6) encB) (wfA wfB) 43 := Dc_arr (sz := 1) Try.underlying43 (by kernel_rfl) (by kernel_rfl) dc4
theorem dc45 {H : Type} {enc : TypeId × Value → H} {w : World} : Dc H enc Try.prog w (Room.enc) Room.wf 45 := Room.dc Try.underlying45 (by kernel_rfl) rfl (by kernel_rfl) dc9 rfl (by kernel_rfl) dc4 rfl (by kernel_rfl) dc42 rfl (by kernel_rfl) dc43
theorem dc46 {H : Type} {enc : TypeId × Value → H} {w : World} : Dc H enc Try.prog w (encA (n := 6) Room.enc) (wfA Room.wf) 46 := Dc_arr (sz := 14) Try.underlying46 (by kernel_rfl) (by kernel_rfl) dc45
theorem dc48 {H : Type} {enc : TypeId × Value → H} {w : World} : Dc H enc Try.prog w (Thing.enc) Thing.wf 48 := Thing.dc Try.underlying48 (by kernel_rfl) rfl (by kernel_rfl) dc9 rfl (by kernel_rfl) dc3 rfl (by kernel_rfl) dc3 rfl (by kernel_rfl) dc3 rfl (by kernel_rfl) dc4
theorem dc49 {H : Type} {enc : TypeId × Value → H} {w : World} : Dc H enc Try.prog w (encA (n := 9) Thing.enc) (wfA Thing.wf) 49 := Dc_arr (sz := 5) Try.underlying49 (by kernel_rfl) (by kernel_rfl) dc48
theorem dc51 {H : Type} {enc : TypeId × Value → H} {w : World} : Dc H enc Try.prog w (Being.enc) Being.wf 51 := Being.dc Try.underlying51 (by kernel_rfl) rfl (by kernel_rfl) dc9 rfl (by kernel_rfl) dc4 rfl (by kernel_rfl) dc4 rfl (by kernel_rfl) dc3 rfl (by kernel_rfl) dc3 rfl (by kernel_rfl) dc3
theorem dc52 {H : Type} {enc : TypeId × Value → H} {w : World} : Dc H enc Try.prog w (encA (n := 6) Being.enc) (wfA Being.wf) 52 := Dc_arr (sz := 6) Try.underlying52 (by kernel_rfl) (by kernel_rfl) dc51
theorem dc54 {H : Type} {enc : TypeId × Value → H} {w : World} : Dc H enc Try.prog w (Land.enc) Land.wf 54 := Land.dc Try.underlying54 (by kernel_rfl) rfl (by kernel_rfl) dc46 rfl (by kernel_rfl) dc49 rfl (by kernel_rfl) dc52
theorem land_Room_spec (X : Land) (i : Int) (w : World) : Ret Try.prog 29 #[.agg X.enc.toArray, .int .i64 i] w fun v w' => v = .tuple #[.int .i64 (X.room i).1, .bool (X.room i).2] ∧ Keep w w' := by
  refine Ret_body [] [] Try.func29 rfl rfl rfl (St.start w []) ?_
  refine G_seq ?_
  refine G_region ?_
  refine GL_box rfl rfl rfl (fun b1 => ?_)
  refine GL_step rfl (PS_assign rfl) ?_
  refine GL_step rfl (PS_assign rfl) ?_
  refine GL_nil ?_
  refine GQ_sub (.cons (k := 1) rfl (.cons (k := 2) rfl (.nil _))) ?_
  refine GQ_then ?_
  refine G_seq ?_
  refine G_region ?_
  refine GL_step rfl (PS_assign rfl) ?_
  refine GL_nil ?_
  refine GQ_then ?_
  refine G_seq ?_
  refine G_seq ?_
  refine G_region ?_
  refine GL_step rfl (PS_move rfl) ?_
  refine GL_nil ?_
  refine GQ_then ?_
  refine G_block ?_
  refine G_subF (.cons (k := 1) rfl (.cons (k := 6) rfl (.cons (k := 8) rfl (.cons (k := 2) rfl (.nil _))))) ?_
  refine G_loop3_ (fun (k : Int) (j : Int) (o : Bool) => 0 ≤ k ∧ k ≤ 10 ∧ X.room i = X.roomFrom (10 - k).toNat j o) (fun (k : Int) (j : Int) (o : Bool) => (10 - k).toNat) (fun (k : Int) (j : Int) (o : Bool) => [(1, .int .i64 j), (6, .bool o), (8, .int .i64 k)]) (fun (k : Int) (j : Int) (o : Bool) => []) (0) (i) (true) ?_ rfl rfl (fun k j o hI1 => ?_)
  · exact ⟨Int.le_refl _, by omega, rfl⟩
  obtain ⟨hI11, hI12, hI13⟩ := hI1
  refine G_seq ?_
  refine G_region ?_
  refine GL_step rfl (PS_lss rfl rfl) ?_
  refine GL_nil ?_
  refine GQ_then ?_
  refine G_seq ?_
  refine G_cond rfl (fun c1 => ?_) (fun c1 => ?_)
  · skip
    have c1p := c1
    try simp only [decide_eq_true_eq, decide_eq_false_iff_not, Bool.not_eq_true', Bool.not_eq_false', Bool.or_eq_true, Bool.and_eq_true, Bool.or_eq_false_iff, Bool.and_eq_false_iff, Int.not_lt, Int.not_le] at c1p
    rw [show (10 - k).toNat = (10 - (k + 1)).toNat + 1 from by omega, Land.roomFrom] at hI13
    refine G_skip ?_
    refine GQ_sub (.cons (k := 1) rfl (.cons (k := 2) rfl (.cons (k := 6) rfl (.cons (k := 8) rfl (.nil _))))) ?_
    refine GQ_then ?_
    refine G_seq ?_
    refine G_block ?_
    refine G_seq ?_
    refine G_seq ?_
    refine G_region ?_
    refine GL_step rfl (PS_move rfl) ?_
    refine GL_step rfl (PS_lss rfl rfl) ?_
    refine GL_step rfl (PS_move rfl) ?_
    refine GL_gf (t := 12) rfl rfl rfl (fun q => PS_move rfl) ?_
    refine GL_gf (t := 12) rfl rfl rfl (fun q => PS_geq (cvE rfl (by rw [q]; rfl)) rfl) ?_
    refine GL_step rfl (PS_or rfl rfl (fun h => by rw [h]; rfl)) ?_
    refine GL_nil ?_
    refine GQ_sub (.cons (k := 1) rfl (.cons (k := 2) rfl (.cons (k := 6) rfl (.cons (k := 8) rfl (.cons (k := 15) rfl (.nil _)))))) ?_
    refine GQ_then ?_
    refine G_cond rfl (fun c2 => ?_) (fun c2 => ?_)
    · skip
      have c2p := c2
      try simp only [decide_eq_true_eq, decide_eq_false_iff_not, Bool.not_eq_true', Bool.not_eq_false', Bool.or_eq_true, Bool.and_eq_true, Bool.or_eq_false_iff, Bool.and_eq_false_iff, Int.not_lt, Int.not_le] at c2p
      refine G_seq ?_
      refine G_region ?_
      refine GL_step rfl (PS_assign rfl) ?_
      refine GL_step rfl (PS_assign rfl) ?_
      refine GL_nil ?_
      refine GQ_sub (.cons (k := 4) rfl (.cons (k := 5) rfl (.nil _))) ?_
      refine GQ_then ?_
      refine G_ret ?_
      refine GQ_then_ret ?_
      refine GQ_block_ret ?_
      refine GQ_then_ret ?_
      refine GQ_then_ret ?_
      refine GQ_block_ret ?_
      refine GQ_then_ret ?_
      refine GQ_ret rfl (.tmp rfl (.tmp rfl .nil)) ?_
      intro w1 hS; refine ⟨?_, hS.toKeep⟩; rw [hI13]; simp only [c1, c2, ↓reduceIte, Bool.false_eq_true]; rfl
    · skip
      have c2p := c2
      try simp only [decide_eq_true_eq, decide_eq_false_iff_not, Bool.not_eq_true', Bool.not_eq_false', Bool.or_eq_true, Bool.and_eq_true, Bool.or_eq_false_iff, Bool.and_eq_false_iff, Int.not_lt, Int.not_le] at c2p
      refine G_skip ?_
      refine GQ_sub (.cons (k := 1) rfl (.cons (k := 2) rfl (.cons (k := 6) rfl (.cons (k := 8) rfl (.nil _))))) ?_
      refine GQ_then ?_
      refine G_seq ?_
      refine G_region ?_
      refine GL_step rfl (PS_move rfl) ?_
      refine GL_step rfl (PS_fieldAddr fa54_1 rfl) ?_
      refine GL_step rfl (PS_indexAddr ia49 rfl rfl (by omega) (by omega)) ?_
      refine GL_step rfl (PS_loadA rfl tya48 (.head _) (Land.l1.comp (Lens.arr (n := 9) Thing.fl (by omega) (by omega))) rfl) ?_
      refine GL_alloc rfl zv48 rfl (fun b2 => ?_)
      refine GL_unit (PU_store (Lens.id Thing.fl.len Thing.fl.one) rfl rfl rfl sz48 rfl .head) ?_
      refine GL_nil ?_
      refine GQ_sub (.cons (k := 2) rfl (.cons (k := 6) rfl (.cons (k := 7) rfl (.cons (k := 8) rfl (.nil _))))) ?_
      refine GQ_then ?_
      refine G_seq ?_
      refine G_seq ?_
      refine G_region ?_
      refine GL_step rfl (PS_fieldAddr fa48_2 rfl) ?_
      refine GL_step rfl (PS_load rfl tys3 (.head _) Thing.l2 rfl rfl) ?_
      refine GL_nil ?_
      refine GQ_sub (.cons (k := 2) rfl (.cons (k := 6) rfl (.cons (k := 7) rfl (.cons (k := 8) rfl (.cons (k := 21) rfl (.nil _)))))) ?_
      refine GQ_then ?_
      refine G_block ?_
      refine G_seq ?_
      refine G_region ?_
      refine GL_step rfl (PS_eql rfl rfl) ?_
      refine GL_step rfl (PS_assign rfl) ?_
      refine GL_nil ?_
      refine GQ_sub (.cons (k := 2) rfl (.cons (k := 6) rfl (.cons (k := 7) rfl (.cons (k := 8) rfl (.cons (k := 21) rfl (.cons (k := 22) rfl (.nil _))))))) ?_
      refine GQ_then ?_
      refine G_cond rfl (fun c3 => ?_) (fun c3 => ?_)
      · skip
        have c3p := c3
        try simp only [decide_eq_true_eq, decide_eq_false_iff_not, Bool.not_eq_true', Bool.not_eq_false', Bool.or_eq_true, Bool.and_eq_true, Bool.or_eq_false_iff, Bool.and_eq_false_iff, Int.not_lt, Int.not_le] at c3p
        refine G_seq ?_
        refine G_region ?_
        refine GL_step rfl (PS_fieldAddr fa48_3 rfl) ?_
        refine GL_step rfl (PS_load rfl tys3 (.head _) Thing.l3 rfl rfl) ?_
        refine GL_step rfl (PS_move rfl) ?_
        refine GL_step rfl (PS_assign rfl) ?_
        refine GL_step rfl (PS_assign rfl) ?_
        refine GL_nil ?_
        refine GQ_sub (.cons (k := 4) rfl (.cons (k := 5) rfl (.nil _))) ?_
        refine GQ_then ?_
        refine G_ret ?_
        refine GQ_block_ret ?_
        refine GQ_then_ret ?_
        refine GQ_block_ret ?_
        refine GQ_then_ret ?_
        refine GQ_then_ret ?_
        refine GQ_block_ret ?_
        refine GQ_then_ret ?_
        refine GQ_ret rfl (.tmp rfl (.tmp rfl .nil)) ?_
        intro w1 hS; refine ⟨?_, hS.toKeep⟩; rw [hI13]; simp only [c1, c2, c3, ↓reduceIte, Bool.false_eq_true]; rfl
      · skip
        have c3p := c3
        try simp only [decide_eq_true_eq, decide_eq_false_iff_not, Bool.not_eq_true', Bool.not_eq_false', Bool.or_eq_true, Bool.and_eq_true, Bool.or_eq_false_iff, Bool.and_eq_false_iff, Int.not_lt, Int.not_le] at c3p
        refine G_seq ?_
        refine G_region ?_
        refine GL_step rfl (PS_eql rfl rfl) ?_
        refine GL_step rfl (PS_assign rfl) ?_
        refine GL_nil ?_
        refine GQ_sub (.cons (k := 2) rfl (.cons (k := 6) rfl (.cons (k := 7) rfl (.cons (k := 8) rfl (.cons (k := 21) rfl (.cons (k := 27) rfl (.nil _))))))) ?_
        refine GQ_then ?_
        refine G_cond rfl (fun c4 => ?_) (fun c4 => ?_)
        · skip
          have c4p := c4
          try simp only [decide_eq_true_eq, decide_eq_false_iff_not, Bool.not_eq_true', Bool.not_eq_false', Bool.or_eq_true, Bool.and_eq_true, Bool.or_eq_false_iff, Bool.and_eq_false_iff, Int.not_lt, Int.not_le] at c4p
          refine G_seq ?_
          refine G_seq ?_
          refine G_region ?_
          refine GL_step rfl (PS_fieldAddr fa48_3 rfl) ?_
          refine GL_step rfl (PS_load rfl tys3 (.head _) Thing.l3 rfl rfl) ?_
          refine GL_step rfl (PS_lss rfl rfl) ?_
          refine GL_step rfl (PS_move rfl) ?_
          refine GL_gf (t := 32) rfl rfl rfl (fun q => PS_fieldAddr fa48_3 rfl) ?_
          refine GL_gf (t := 32) rfl rfl rfl (fun q => PS_load (cvE rfl (by rw [q]; rfl)) tys3 (.head _) Thing.l3 rfl rfl) ?_
          refine GL_gf (t := 32) rfl rfl rfl (fun q => PS_geq (cvE rfl (by rw [q]; rfl)) rfl) ?_
          refine GL_step rfl (PS_or rfl rfl (fun h => by rw [h]; rfl)) ?_
          refine GL_nil ?_
          refine GQ_sub (.cons (k := 2) rfl (.cons (k := 6) rfl (.cons (k := 7) rfl (.cons (k := 36) rfl (.nil _))))) ?_
          refine GQ_then ?_
          refine G_cond rfl (fun c5 => ?_) (fun c5 => ?_)
          · skip
            have c5p := c5
            try simp only [decide_eq_true_eq, decide_eq_false_iff_not, Bool.not_eq_true', Bool.not_eq_false', Bool.or_eq_true, Bool.and_eq_true, Bool.or_eq_false_iff, Bool.and_eq_false_iff, Int.not_lt, Int.not_le] at c5p
            refine G_seq ?_
            refine G_region ?_
            refine GL_step rfl (PS_assign rfl) ?_
            refine GL_step rfl (PS_assign rfl) ?_
            refine GL_nil ?_
            refine GQ_sub (.cons (k := 4) rfl (.cons (k := 5) rfl (.nil _))) ?_
            refine GQ_then ?_
            refine G_ret ?_
            refine GQ_then_ret ?_
            refine GQ_block_ret ?_
            refine GQ_then_ret ?_
            refine GQ_block_ret ?_
            refine GQ_then_ret ?_
            refine GQ_then_ret ?_
            refine GQ_block_ret ?_
            refine GQ_then_ret ?_
            refine GQ_ret rfl (.tmp rfl (.tmp rfl .nil)) ?_
            intro w1 hS; refine ⟨?_, hS.toKeep⟩; rw [hI13]; simp only [c1, c2, c3, c4, c5, ↓reduceIte, Bool.false_eq_true]; rfl
          · skip
            have c5p := c5
            try simp only [decide_eq_true_eq, decide_eq_false_iff_not, Bool.not_eq_true', Bool.not_eq_false', Bool.or_eq_true, Bool.and_eq_true, Bool.or_eq_false_iff, Bool.and_eq_false_iff, Int.not_lt, Int.not_le] at c5p
            refine G_skip ?_
            refine GQ_sub (.cons (k := 2) rfl (.cons (k := 6) rfl (.cons (k := 7) rfl (.nil _)))) ?_
            refine GQ_then ?_
            refine G_seq ?_
            refine G_region ?_
            refine GL_step rfl (PS_fieldAddr fa48_3 rfl) ?_
            refine GL_step rfl (PS_load rfl tys3 (.head _) Thing.l3 rfl rfl) ?_
            refine GL_step rfl (PS_fieldAddr fa54_2 rfl) ?_
            refine GL_step rfl (PS_indexAddr ia52 rfl rfl (by omega) (by omega)) ?_
            refine GL_step rfl (PS_fieldAddr fa51_3 rfl) ?_
            refine GL_step rfl (PS_load rfl tys3 (.tail _ (.head _)) ((Land.l2.comp (Lens.arr (n := 6) Being.fl (by omega) (by omega))).comp Being.l3) rfl rfl) ?_
            refine GL_step rfl (PS_move rfl) ?_
            refine GL_step rfl (PS_assign rfl) ?_
            refine GL_step rfl (PS_assign rfl) ?_
            refine GL_nil ?_
            refine GQ_sub (.cons (k := 4) rfl (.cons (k := 5) rfl (.nil _))) ?_
            refine GQ_then ?_
            refine G_ret ?_
            refine GQ_block_ret ?_
            refine GQ_then_ret ?_
            refine GQ_block_ret ?_
            refine GQ_then_ret ?_
            refine GQ_then_ret ?_
            refine GQ_block_ret ?_
            refine GQ_then_ret ?_
            refine GQ_ret rfl (.tmp rfl (.tmp rfl .nil)) ?_
            intro w1 hS; refine ⟨?_, hS.toKeep⟩; rw [hI13]; simp only [c1, c2, c3, c4, c5, ↓reduceIte, Bool.false_eq_true]; rfl
        · skip
          have c4p := c4
          try simp only [decide_eq_true_eq, decide_eq_false_iff_not, Bool.not_eq_true', Bool.not_eq_false', Bool.or_eq_true, Bool.and_eq_true, Bool.or_eq_false_iff, Bool.and_eq_false_iff, Int.not_lt, Int.not_le] at c4p
          refine G_seq ?_
          refine G_region ?_
          refine GL_step rfl (PS_eql rfl rfl) ?_
          refine GL_step rfl (PS_assign rfl) ?_
          refine GL_nil ?_
          refine GQ_sub (.cons (k := 2) rfl (.cons (k := 6) rfl (.cons (k := 7) rfl (.cons (k := 8) rfl (.cons (k := 44) rfl (.nil _)))))) ?_
          refine GQ_then ?_
          refine G_cond rfl (fun c6 => ?_) (fun c6 => ?_)
          · skip
            have c6p := c6
            try simp only [decide_eq_true_eq, decide_eq_false_iff_not, Bool.not_eq_true', Bool.not_eq_false', Bool.or_eq_true, Bool.and_eq_true, Bool.or_eq_false_iff, Bool.and_eq_false_iff, Int.not_lt, Int.not_le] at c6p
            refine G_skip ?_
            refine GQ_sub (.cons (k := 2) rfl (.cons (k := 6) rfl (.cons (k := 7) rfl (.cons (k := 8) rfl (.nil _))))) ?_
            refine GQ_block ?_
            refine GQ_then ?_
            refine G_seq ?_
            refine G_region ?_
            refine GL_step rfl (PS_fieldAddr fa48_3 rfl) ?_
            refine GL_step rfl (PS_load rfl tys3 (.head _) Thing.l3 rfl rfl) ?_
            refine GL_step rfl (PS_assign rfl) ?_
            refine GL_nil ?_
            refine GQ_sub (.cons (k := 1) rfl (.cons (k := 2) rfl (.cons (k := 6) rfl (.cons (k := 8) rfl (.nil _))))) ?_
            refine GQ_then ?_
            refine G_seq ?_
            refine G_region ?_
            refine GL_step rfl (PS_move rfl) ?_
            refine GL_step rfl (PS_geq rfl rfl) ?_
            refine GL_step rfl (PS_move rfl) ?_
            refine GL_gt (t := 50) rfl rfl rfl (fun q => PS_move rfl) ?_
            refine GL_gt (t := 50) rfl rfl rfl (fun q => PS_lss (cvE rfl q) rfl) ?_
            refine GL_step rfl (PS_and rfl rfl (fun h => h)) ?_
            refine GL_step rfl (PS_move rfl) ?_
            refine GL_gt (t := 54) rfl rfl rfl (fun q => PS_move rfl) ?_
            refine GL_gt (t := 54) rfl rfl rfl (fun q => PS_fieldAddr fa54_1 rfl) ?_
            refine GL_gt (t := 54) rfl rfl rfl (fun q => by have q1 := q; (try simp at q1); exact PS_indexAddr ia49 (cvE rfl q) (cvE rfl q) (by omega) (by omega)) ?_
            refine GL_gt (t := 54) rfl rfl rfl (fun q => PS_fieldAddr fa48_4 (cvE rfl q)) ?_
            refine GL_gt (t := 54) rfl rfl rfl (fun q => by have q1 := q; (try simp at q1); exact PS_load (cvE rfl q) tys4 (.tail _ (.head _)) ((Land.l1.comp (Lens.arr (n := 9) Thing.fl (by omega) (by omega))).comp Thing.l4) rfl rfl) ?_
            refine GL_gt (t := 54) rfl rfl rfl (fun q => PS_not (cvE rfl q)) ?_
            refine GL_step rfl (PS_and rfl rfl (fun h => h)) ?_
            refine GL_nil ?_
            refine GQ_sub (.cons (k := 1) rfl (.cons (k := 2) rfl (.cons (k := 6) rfl (.cons (k := 8) rfl (.cons (k := 61) rfl (.nil _)))))) ?_
            refine GQ_then ?_
            refine G_cond rfl (fun c7 => ?_) (fun c7 => ?_)
            · skip
              have c7p := c7
              try simp only [decide_eq_true_eq, decide_eq_false_iff_not, Bool.not_eq_true', Bool.not_eq_false', Bool.or_eq_true, Bool.and_eq_true, Bool.or_eq_false_iff, Bool.and_eq_false_iff, Int.not_lt, Int.not_le] at c7p
              refine G_region ?_
              refine GL_step rfl (PS_assign rfl) ?_
              refine GL_nil ?_
              refine GQ_sub (.cons (k := 1) rfl (.cons (k := 2) rfl (.cons (k := 6) rfl (.cons (k := 8) rfl (.nil _))))) ?_
              refine GQ_block ?_
              refine GQ_then ?_
              refine G_region ?_
              refine GL_step rfl (PS_add rfl rfl (IntWalk.i64_in _ (by omega))) ?_
              refine GL_step rfl (PS_move rfl) ?_
              refine GL_nil ?_
              refine GQ_sub (.cons (k := 1) rfl (.cons (k := 2) rfl (.cons (k := 6) rfl (.cons (k := 8) rfl (.nil _))))) ?_
              refine GQ_next3_ (k + 1) ((X.things.at j).at_) (false) ?_ ?_ (.cons (k := 1) rfl (.cons (k := 6) rfl (.cons (k := 8) rfl (.cons (k := 2) rfl (.nil _))))) (.cons _ (.refl _))
              · exact ⟨by omega, by omega, by rw [hI13]; simp only [c1, c2, c3, c4, c6, c7, ↓reduceIte, Bool.false_eq_true]⟩
              · omega
            · skip
              have c7p := c7
              try simp only [decide_eq_true_eq, decide_eq_false_iff_not, Bool.not_eq_true', Bool.not_eq_false', Bool.or_eq_true, Bool.and_eq_true, Bool.or_eq_false_iff, Bool.and_eq_false_iff, Int.not_lt, Int.not_le] at c7p
              refine G_skip ?_
              refine GQ_sub (.cons (k := 1) rfl (.cons (k := 2) rfl (.cons (k := 6) rfl (.cons (k := 8) rfl (.nil _))))) ?_
              refine GQ_block ?_
              refine GQ_then ?_
              refine G_region ?_
              refine GL_step rfl (PS_add rfl rfl (IntWalk.i64_in _ (by omega))) ?_
              refine GL_step rfl (PS_move rfl) ?_
              refine GL_nil ?_
              refine GQ_sub (.cons (k := 1) rfl (.cons (k := 2) rfl (.cons (k := 6) rfl (.cons (k := 8) rfl (.nil _))))) ?_
              refine GQ_next3_ (k + 1) ((X.things.at j).at_) (o) ?_ ?_ (.cons (k := 1) rfl (.cons (k := 6) rfl (.cons (k := 8) rfl (.cons (k := 2) rfl (.nil _))))) (.cons _ (.refl _))
              · exact ⟨by omega, by omega, by rw [hI13]; simp only [c1, c2, c3, c4, c6, c7, ↓reduceIte, Bool.false_eq_true]⟩
              · omega
          · skip
            have c6p := c6
            try simp only [decide_eq_true_eq, decide_eq_false_iff_not, Bool.not_eq_true', Bool.not_eq_false', Bool.or_eq_true, Bool.and_eq_true, Bool.or_eq_false_iff, Bool.and_eq_false_iff, Int.not_lt, Int.not_le] at c6p
            refine G_seq ?_
            refine G_region ?_
            refine GL_step rfl (PS_assign rfl) ?_
            refine GL_step rfl (PS_assign rfl) ?_
            refine GL_nil ?_
            refine GQ_sub (.cons (k := 4) rfl (.cons (k := 5) rfl (.nil _))) ?_
            refine GQ_then ?_
            refine G_ret ?_
            refine GQ_block_ret ?_
            refine GQ_then_ret ?_
            refine GQ_block_ret ?_
            refine GQ_then_ret ?_
            refine GQ_then_ret ?_
            refine GQ_block_ret ?_
            refine GQ_then_ret ?_
            refine GQ_ret rfl (.tmp rfl (.tmp rfl .nil)) ?_
            intro w1 hS; refine ⟨?_, hS.toKeep⟩; rw [hI13]; simp only [c1, c2, c3, c4, c6, ↓reduceIte, Bool.false_eq_true]; rfl
  · skip
    have c1p := c1
    try simp only [decide_eq_true_eq, decide_eq_false_iff_not, Bool.not_eq_true', Bool.not_eq_false', Bool.or_eq_true, Bool.and_eq_true, Bool.or_eq_false_iff, Bool.and_eq_false_iff, Int.not_lt, Int.not_le] at c1p
    obtain rfl : k = 10 := by omega
    refine G_exit ?_
    refine GQ_then_exit ?_
    refine GQ_then_exit ?_
    refine GQ_block_exit ?_
    refine GQ_sub (.nil _) ?_
    refine GQ_then ?_
    refine G_seq ?_
    refine G_region ?_
    refine GL_step rfl (PS_assign rfl) ?_
    refine GL_step rfl (PS_assign rfl) ?_
    refine GL_nil ?_
    refine GQ_then ?_
    refine G_ret ?_
    refine GQ_ret rfl (.tmp rfl (.tmp rfl .nil)) ?_
    intro w1 hS; refine ⟨?_, hS.toKeep⟩; rw [hI13]; rfl
theorem ref_root_spec (X : Land) (i : Int) (w : World) : Ret Try.prog 56 #[.agg X.enc.toArray, .int .i64 i] w fun v w' => v = .tuple #[.int .i64 (Land.root X i).1, .int .i64 (Land.root X i).2.1, .bool (Land.root X i).2.2.1, .bool (Land.root X i).2.2.2] ∧ Keep w w' := by
  refine Ret_body [] [] Try.func56 rfl rfl rfl (St.start w []) ?_
  refine G_seq ?_
  refine G_region ?_
  refine GL_box rfl rfl rfl (fun b1 => ?_)
  refine GL_step rfl (PS_assign rfl) ?_
  refine GL_step rfl (PS_assign rfl) ?_
  refine GL_step rfl (PS_assign rfl) ?_
  refine GL_step rfl (PS_assign rfl) ?_
  refine GL_nil ?_
  refine GQ_sub (.cons (k := 1) rfl (.cons (k := 2) rfl (.nil _))) ?_
  refine GQ_then ?_
  refine G_seq ?_
  refine G_region ?_
  refine GL_step rfl (PS_assign rfl) ?_
  refine GL_nil ?_
  refine GQ_then ?_
  refine G_seq ?_
  refine G_region ?_
  refine GL_makeMap rfl (fun b2 => ?_)
  refine GL_step rfl (PS_assign rfl) ?_
  refine GL_nil ?_
  refine GQ_sub (.cons (k := 1) rfl (.cons (k := 2) rfl (.cons (k := 6) rfl (.cons (k := 8) rfl (.nil _))))) ?_
  refine GQ_then ?_
  refine G_seq ?_
  refine G_block ?_
  refine G_subF (.cons (k := 1) rfl (.cons (k := 6) rfl (.cons (k := 2) rfl (.cons (k := 8) rfl (.nil _))))) ?_
  refine G_loop3_ (fun (j : Int) (o : Bool) (s : List Int) => Land.root X i = X.rootF (10 - s.length) j o ∧ X.SeenI s j) (fun (j : Int) (o : Bool) (s : List Int) => leftN s) (fun (j : Int) (o : Bool) (s : List Int) => [(1, .int .i64 j), (6, .bool o)]) (fun (j : Int) (o : Bool) (s : List Int) => [Res.imap b2 (kvOf s)]) (i) (true) ([]) ?_ rfl rfl (fun j o s hI1 => ?_)
  · exact ⟨rfl, Land.SeenI.start X i⟩
  obtain ⟨hI11, hI12⟩ := hI1
  refine G_seq ?_
  refine G_seq ?_
  refine G_region ?_
  refine GL_step rfl (PS_move rfl) ?_
  refine GL_step rfl (PS_geq rfl rfl) ?_
  refine GL_step rfl (PS_move rfl) ?_
  refine GL_gt (t := 13) rfl rfl rfl (fun q => PS_move rfl) ?_
  refine GL_gt (t := 13) rfl rfl rfl (fun q => PS_lss (cvE rfl q) rfl) ?_
  refine GL_step rfl (PS_and rfl rfl (fun h => h)) ?_
  refine GL_step rfl (PS_move rfl) ?_
  refine GL_gt (t := 17) rfl rfl rfl (fun q => PS_move rfl) ?_
  refine GL_gt (t := 17) rfl rfl rfl (fun q => PS_move rfl) ?_
  refine GL_gt (t := 17) rfl rfl rfl (fun q => PS_conv (PS_lookup1 Try.underlying83 Try.underlying3 zv4 (cvE rfl q) (cvE rfl q) (.head _)) (seen_eq _ _)) ?_
  refine GL_gt (t := 17) rfl rfl rfl (fun q => PS_not (cvE rfl q)) ?_
  refine GL_step rfl (PS_and rfl rfl (fun h => h)) ?_
  refine GL_nil ?_
  refine GQ_sub (.cons (k := 1) rfl (.cons (k := 2) rfl (.cons (k := 6) rfl (.cons (k := 8) rfl (.cons (k := 22) rfl (.nil _)))))) ?_
  refine GQ_then ?_
  refine G_cond rfl (fun c1 => ?_) (fun c1 => ?_)
  · skip
    have c1p := c1
    try simp only [decide_eq_true_eq, decide_eq_false_iff_not, Bool.not_eq_true', Bool.not_eq_false', Bool.or_eq_true, Bool.and_eq_true, Bool.or_eq_false_iff, Bool.and_eq_false_iff, Int.not_lt, Int.not_le] at c1p
    have hr : 0 ≤ j ∧ j < 9 ∧ j ∉ s := by simp at c1; exact ⟨c1.1.1, c1.1.2, c1.2⟩
    obtain ⟨hj0, hj9, hns⟩ := hr
    refine G_skip ?_
    refine GQ_sub (.cons (k := 1) rfl (.cons (k := 2) rfl (.cons (k := 6) rfl (.cons (k := 8) rfl (.nil _))))) ?_
    refine GQ_then ?_
    refine G_block ?_
    refine G_seq ?_
    refine G_region ?_
    refine GL_step rfl (PS_move rfl) ?_
    refine GL_step rfl (PS_move rfl) ?_
    refine GL_unit (PU_mapSet Try.underlying83 Try.underlying3 rfl rfl rfl (seen_none hns) .head).1 ?_
    refine GL_nil ?_
    refine GQ_sub (.cons (k := 1) rfl (.cons (k := 2) rfl (.cons (k := 6) rfl (.cons (k := 8) rfl (.nil _))))) ?_
    refine GQ_then ?_
    refine G_seq ?_
    refine G_region ?_
    refine GL_step rfl (PS_move rfl) ?_
    refine GL_step rfl (PS_fieldAddr fa54_1 rfl) ?_
    refine GL_step rfl (PS_indexAddr ia49 rfl rfl (by omega) (by omega)) ?_
    refine GL_step rfl (PS_loadA rfl tya48 (.tail _ (.head _)) (Land.l1.comp (Lens.arr (n := 9) Thing.fl (by omega) (by omega))) rfl) ?_
    refine GL_alloc rfl zv48 rfl (fun b3 => ?_)
    refine GL_unit (PU_store (Lens.id Thing.fl.len Thing.fl.one) rfl rfl rfl sz48 rfl .head) ?_
    refine GL_nil ?_
    refine GQ_sub (.cons (k := 2) rfl (.cons (k := 6) rfl (.cons (k := 8) rfl (.cons (k := 9) rfl (.nil _))))) ?_
    refine GQ_then ?_
    refine G_seq ?_
    refine G_seq ?_
    refine G_region ?_
    refine GL_step rfl (PS_fieldAddr fa48_2 rfl) ?_
    refine GL_step rfl (PS_load rfl tys3 (.head _) Thing.l2 rfl rfl) ?_
    refine GL_step rfl (PS_neq rfl rfl) ?_
    refine GL_nil ?_
    refine GQ_sub (.cons (k := 2) rfl (.cons (k := 6) rfl (.cons (k := 8) rfl (.cons (k := 9) rfl (.cons (k := 31) rfl (.nil _)))))) ?_
    refine GQ_then ?_
    refine G_cond rfl (fun c2 => ?_) (fun c2 => ?_)
    · skip
      have c2p := c2
      try simp only [decide_eq_true_eq, decide_eq_false_iff_not, Bool.not_eq_true', Bool.not_eq_false', Bool.or_eq_true, Bool.and_eq_true, Bool.or_eq_false_iff, Bool.and_eq_false_iff, Int.not_lt, Int.not_le] at c2p
      refine G_seq ?_
      refine G_planN (N := 17) [0, 1, 0, 4, 0, 0, 32, 96, 224, 480, 992, 2016, 4064, 483, 8687, 25087, 65535] mix (by kernel_rfl) rfl ?_
      refine Plan_float 0 rfl rfl (by kernel_rfl) (OK_s (EX_s (PS_fieldAddr fa48_2 rfl))) ?_
      refine Plan_float 1 rfl rfl (by kernel_rfl) (OK_s (EX_s (PS_load rfl tys3 (.head _) Thing.l2 rfl rfl))) ?_
      refine Plan_float 2 rfl rfl (by kernel_rfl) (OK_s (EX_s (PS_fieldAddr fa48_3 rfl))) ?_
      refine Plan_float 3 rfl rfl (by kernel_rfl) (OK_s (EX_s (PS_load rfl tys3 (.head _) Thing.l3 rfl rfl))) ?_
      refine Plan_float 4 rfl rfl (by kernel_rfl) (OK_s (EX_s (PS_move rfl))) ?_
      refine Plan_float 5 rfl rfl (by kernel_rfl) (OK_s (EX_s (PS_fieldAddr fa48_2 rfl))) ?_
      refine Plan_float 6 rfl rfl (by kernel_rfl) (OK_s (EX_s (PS_load rfl tys3 (.head _) Thing.l2 rfl rfl))) ?_
      refine Plan_float 7 rfl rfl (by kernel_rfl) (OK_s (EX_s (PS_eql rfl rfl))) ?_
      refine Plan_float 8 rfl rfl (by kernel_rfl) (OK_s (EX_s (PS_move rfl))) ?_
      refine Plan_float 9 rfl rfl (by kernel_rfl) (OK_gf (t := 40) rfl rfl (fun q => EX_s (PS_fieldAddr fa48_2 rfl))) ?_
      refine Plan_float 10 rfl rfl (by kernel_rfl) (OK_gf (t := 40) rfl rfl (fun q => EX_s (PS_load (cvE rfl (by rw [q]; rfl)) tys3 (.head _) Thing.l2 rfl rfl))) ?_
      refine Plan_float 11 rfl rfl (by kernel_rfl) (OK_gf (t := 40) rfl rfl (fun q => EX_s (PS_eql (cvE rfl (by rw [q]; rfl)) rfl))) ?_
      refine Plan_float 12 rfl rfl (by kernel_rfl) (OK_s (EX_s (PS_or rfl rfl (fun h => by rw [h]; rfl)))) ?_
      refine Plan_float 13 rfl rfl (by kernel_rfl) (OK_s (EX_s (PS_assign rfl))) ?_
      refine Plan_float 14 rfl rfl (by kernel_rfl) (OK_s (EX_s (PS_assign rfl))) ?_
      refine Plan_float 15 rfl rfl (by kernel_rfl) (OK_s (EX_s (PS_assign rfl))) ?_
      refine Plan_float 16 rfl rfl (by kernel_rfl) (OK_s (EX_s (PS_assign rfl))) ?_
      refine Plan_end (by kernel_rfl) ?_
      refine GQ_sub (.cons (k := 4) rfl (.cons (k := 5) rfl (.cons (k := 6) rfl (.cons (k := 7) rfl (.nil _))))) ?_
      refine GQ_then ?_
      refine G_ret ?_
      refine GQ_then_ret ?_
      refine GQ_block_ret ?_
      refine GQ_then_ret ?_
      refine GQ_block_ret ?_
      refine GQ_then_ret ?_
      refine GQ_ret rfl (.tmp rfl (.tmp rfl (.tmp rfl (.tmp rfl .nil)))) ?_
      intro w1 hS; refine ⟨?_, hS.toKeep⟩; rw [hI11, hI12.out hj0 hj9 c2]; rfl
    · skip
      have c2p := c2
      try simp only [decide_eq_true_eq, decide_eq_false_iff_not, Bool.not_eq_true', Bool.not_eq_false', Bool.or_eq_true, Bool.and_eq_true, Bool.or_eq_false_iff, Bool.and_eq_false_iff, Int.not_lt, Int.not_le] at c2p
      have hse := hI12.next hj0 hj9 hns (by simpa using c2)
      have hst := hI12.step (o := o) hse hj0 hj9 c2
      refine G_skip ?_
      refine GQ_sub (.cons (k := 2) rfl (.cons (k := 6) rfl (.cons (k := 8) rfl (.cons (k := 9) rfl (.nil _))))) ?_
      refine GQ_then ?_
      refine G_seq ?_
      refine G_region ?_
      refine GL_step rfl (PS_fieldAddr fa48_3 rfl) ?_
      refine GL_step rfl (PS_load rfl tys3 (.head _) Thing.l3 rfl rfl) ?_
      refine GL_step rfl (PS_assign rfl) ?_
      refine GL_nil ?_
      refine GQ_sub (.cons (k := 1) rfl (.cons (k := 2) rfl (.cons (k := 6) rfl (.cons (k := 8) rfl (.nil _))))) ?_
      refine GQ_then ?_
      refine G_seq ?_
      refine G_region ?_
      refine GL_step rfl (PS_move rfl) ?_
      refine GL_step rfl (PS_geq rfl rfl) ?_
      refine GL_step rfl (PS_move rfl) ?_
      refine GL_gt (t := 49) rfl rfl rfl (fun q => PS_move rfl) ?_
      refine GL_gt (t := 49) rfl rfl rfl (fun q => PS_lss (cvE rfl q) rfl) ?_
      refine GL_step rfl (PS_and rfl rfl (fun h => h)) ?_
      refine GL_nil ?_
      refine GQ_sub (.cons (k := 1) rfl (.cons (k := 2) rfl (.cons (k := 6) rfl (.cons (k := 8) rfl (.cons (k := 52) rfl (.nil _)))))) ?_
      refine GQ_then ?_
      refine G_cond rfl (fun c3 => ?_) (fun c3 => ?_)
      · skip
        have c3p := c3
        try simp only [decide_eq_true_eq, decide_eq_false_iff_not, Bool.not_eq_true', Bool.not_eq_false', Bool.or_eq_true, Bool.and_eq_true, Bool.or_eq_false_iff, Bool.and_eq_false_iff, Int.not_lt, Int.not_le] at c3p
        have hjr : 0 ≤ (X.things.at j).at_ ∧ (X.things.at j).at_ < 9 := by simp at c3; omega
        refine G_region ?_
        refine GL_step rfl (PS_move rfl) ?_
        refine GL_step rfl (PS_move rfl) ?_
        refine GL_gt (t := 54) rfl rfl rfl (fun q => PS_move rfl) ?_
        refine GL_gt (t := 54) rfl rfl rfl (fun q => PS_fieldAddr fa54_1 rfl) ?_
        refine GL_gt (t := 54) rfl rfl rfl (fun q => by have q1 := q; (try simp at q1); exact PS_indexAddr ia49 (cvE rfl q) (cvE rfl q) (by omega) (by omega)) ?_
        refine GL_gt (t := 54) rfl rfl rfl (fun q => PS_fieldAddr fa48_4 (cvE rfl q)) ?_
        refine GL_gt (t := 54) rfl rfl rfl (fun q => by have q1 := q; (try simp at q1); exact PS_load (cvE rfl q) tys4 (.tail _ (.tail _ (.head _))) ((Land.l1.comp (Lens.arr (n := 9) Thing.fl (by omega) (by omega))).comp Thing.l4) rfl rfl) ?_
        refine GL_step rfl (PS_and rfl rfl (fun h => h)) ?_
        refine GL_step rfl (PS_assign rfl) ?_
        refine GL_nil ?_
        refine GQ_sub (.cons (k := 1) rfl (.cons (k := 2) rfl (.cons (k := 6) rfl (.cons (k := 8) rfl (.nil _))))) ?_
        refine GQ_block ?_
        refine GQ_next3_ _ _ (s ++ [j]) ?_ ?_ (.cons (k := 1) rfl (.cons (k := 6) rfl (.cons (k := 2) rfl (.cons (k := 8) rfl (.nil _))))) (by rw [kvOf_snoc]; exact (.cons _ (.refl _)))
        · exact ⟨by rw [hI11, hst, if_pos c3], hse⟩
        · have := leftN_snoc hns hj0 hj9; omega
      · skip
        have c3p := c3
        try simp only [decide_eq_true_eq, decide_eq_false_iff_not, Bool.not_eq_true', Bool.not_eq_false', Bool.or_eq_true, Bool.and_eq_true, Bool.or_eq_false_iff, Bool.and_eq_false_iff, Int.not_lt, Int.not_le] at c3p
        refine G_skip ?_
        refine GQ_sub (.cons (k := 1) rfl (.cons (k := 2) rfl (.cons (k := 6) rfl (.cons (k := 8) rfl (.nil _))))) ?_
        refine GQ_block ?_
        refine GQ_next3_ _ _ (s ++ [j]) ?_ ?_ (.cons (k := 1) rfl (.cons (k := 6) rfl (.cons (k := 2) rfl (.cons (k := 8) rfl (.nil _))))) (by rw [kvOf_snoc]; exact (.cons _ (.refl _)))
        · exact ⟨by rw [hI11, hst, if_neg (by rw [c3]; decide)], hse⟩
        · have := leftN_snoc hns hj0 hj9; omega
  · skip
    have c1p := c1
    try simp only [decide_eq_true_eq, decide_eq_false_iff_not, Bool.not_eq_true', Bool.not_eq_false', Bool.or_eq_true, Bool.and_eq_true, Bool.or_eq_false_iff, Bool.and_eq_false_iff, Int.not_lt, Int.not_le] at c1p
    refine G_exit ?_
    refine GQ_then_exit ?_
    refine GQ_then_exit ?_
    refine GQ_block_exit ?_
    refine GQ_sub (.nil _) ?_
    refine GQ_then ?_
    refine G_seq ?_
    refine G_region ?_
    refine GL_step rfl (PS_assign rfl) ?_
    refine GL_step rfl (PS_assign rfl) ?_
    refine GL_step rfl (PS_assign rfl) ?_
    refine GL_step rfl (PS_assign rfl) ?_
    refine GL_nil ?_
    refine GQ_then ?_
    refine G_ret ?_
    refine GQ_ret rfl (.tmp rfl (.tmp rfl (.tmp rfl (.tmp rfl .nil)))) ?_
    intro w1 hS; refine ⟨?_, hS.toKeep⟩; rw [hI11, hI12.ends c1]; rfl
theorem ref_RoomOf_spec (X : Land) (i : Int) (w : World) : Ret Try.prog 31 #[.agg X.enc.toArray, .int .i64 i] w fun v w' => v = .tuple #[.int .i64 (X.room i).1, .bool (X.room i).2] ∧ Keep w w' := by
  refine Ret_body [] [] Try.func31 rfl rfl rfl (St.start w []) ?_
  refine G_seq ?_
  refine G_region ?_
  refine GL_box rfl rfl rfl (fun b1 => ?_)
  refine GL_step rfl (PS_assign rfl) ?_
  refine GL_step rfl (PS_assign rfl) ?_
  refine GL_nil ?_
  refine GQ_sub (.cons (k := 1) rfl (.cons (k := 2) rfl (.nil _))) ?_
  refine GQ_then ?_
  refine G_seq ?_
  refine G_region ?_
  refine GL_step rfl (PS_loadA rfl tya54 (.head _) (Lens.id Land.fl.len Land.fl.one) rfl) ?_
  refine GL_step rfl (PS_move rfl) ?_
  refine GL_pure rfl cf56 (.cons rfl (.cons rfl .nil)) (fun w hS => ref_root_spec _ _ w) ?_
  refine GL_step rfl (PS_move rfl) ?_
  refine GL_step rfl (PS_extract rfl rfl) ?_
  refine GL_step rfl (PS_extract rfl rfl) ?_
  refine GL_step rfl (PS_extract rfl rfl) ?_
  refine GL_step rfl (PS_extract rfl rfl) ?_
  refine GL_step rfl (PS_assign rfl) ?_
  refine GL_step rfl (PS_assign rfl) ?_
  refine GL_step rfl (PS_assign rfl) ?_
  refine GL_step rfl (PS_assign rfl) ?_
  refine GL_nil ?_
  refine GQ_sub (.cons (k := 2) rfl (.cons (k := 6) rfl (.cons (k := 7) rfl (.cons (k := 8) rfl (.cons (k := 9) rfl (.nil _)))))) ?_
  refine GQ_then ?_
  refine G_seq ?_
  refine G_seq ?_
  refine G_region ?_
  refine GL_step rfl (PS_move rfl) ?_
  refine GL_step rfl (PS_move rfl) ?_
  refine GL_gt (t := 19) rfl rfl rfl (fun q => PS_move rfl) ?_
  refine GL_gt (t := 19) rfl rfl rfl (fun q => PS_eql (cvE rfl q) rfl) ?_
  refine GL_step rfl (PS_and rfl rfl (fun h => h)) ?_
  refine GL_nil ?_
  refine GQ_sub (.cons (k := 2) rfl (.cons (k := 7) rfl (.cons (k := 8) rfl (.cons (k := 9) rfl (.cons (k := 22) rfl (.nil _)))))) ?_
  refine GQ_then ?_
  refine G_cond rfl (fun c1 => ?_) (fun c1 => ?_)
  · skip
    have c1p := c1
    try simp only [decide_eq_true_eq, decide_eq_false_iff_not, Bool.not_eq_true', Bool.not_eq_false', Bool.or_eq_true, Bool.and_eq_true, Bool.or_eq_false_iff, Bool.and_eq_false_iff, Int.not_lt, Int.not_le] at c1p
    refine G_seq ?_
    refine G_seq ?_
    refine G_region ?_
    refine GL_step rfl (PS_move rfl) ?_
    refine GL_step rfl (PS_lss rfl rfl) ?_
    refine GL_step rfl (PS_move rfl) ?_
    refine GL_gf (t := 25) rfl rfl rfl (fun q => PS_move rfl) ?_
    refine GL_gf (t := 25) rfl rfl rfl (fun q => PS_gtr (cvE rfl (by rw [q]; rfl)) rfl) ?_
    refine GL_step rfl (PS_or rfl rfl (fun h => by rw [h]; rfl)) ?_
    refine GL_nil ?_
    refine GQ_sub (.cons (k := 2) rfl (.cons (k := 7) rfl (.cons (k := 8) rfl (.cons (k := 28) rfl (.nil _))))) ?_
    refine GQ_then ?_
    refine G_cond rfl (fun c2 => ?_) (fun c2 => ?_)
    · skip
      have c2p := c2
      try simp only [decide_eq_true_eq, decide_eq_false_iff_not, Bool.not_eq_true', Bool.not_eq_false', Bool.or_eq_true, Bool.and_eq_true, Bool.or_eq_false_iff, Bool.and_eq_false_iff, Int.not_lt, Int.not_le] at c2p
      refine G_seq ?_
      refine G_region ?_
      refine GL_step rfl (PS_assign rfl) ?_
      refine GL_step rfl (PS_assign rfl) ?_
      refine GL_nil ?_
      refine GQ_sub (.cons (k := 4) rfl (.cons (k := 5) rfl (.nil _))) ?_
      refine GQ_then ?_
      refine G_ret ?_
      refine GQ_then_ret ?_
      refine GQ_then_ret ?_
      refine GQ_ret rfl (.tmp rfl (.tmp rfl .nil)) ?_
      intro w1 hS; refine ⟨?_, hS.toKeep⟩; rw [← Land.roomOf, show Land.conv X (Land.root X i) = _ from ((if_t c1).trans (if_t c2))]; rfl
    · skip
      have c2p := c2
      try simp only [decide_eq_true_eq, decide_eq_false_iff_not, Bool.not_eq_true', Bool.not_eq_false', Bool.or_eq_true, Bool.and_eq_true, Bool.or_eq_false_iff, Bool.and_eq_false_iff, Int.not_lt, Int.not_le] at c2p
      have hat : 0 ≤ (Land.root X i).2.1 ∧ (Land.root X i).2.1 ≤ 5 := by simp at c2; omega
      refine G_skip ?_
      refine GQ_sub (.cons (k := 2) rfl (.cons (k := 7) rfl (.cons (k := 8) rfl (.nil _)))) ?_
      refine GQ_then ?_
      refine G_seq ?_
      refine G_region ?_
      refine GL_step rfl (PS_move rfl) ?_
      refine GL_step rfl (PS_fieldAddr fa54_2 rfl) ?_
      refine GL_step rfl (PS_indexAddr ia52 rfl rfl (by omega) (by omega)) ?_
      refine GL_step rfl (PS_fieldAddr fa51_3 rfl) ?_
      refine GL_step rfl (PS_load rfl tys3 (.head _) ((Land.l2.comp (Lens.arr (n := 6) Being.fl (by omega) (by omega))).comp Being.l3) rfl rfl) ?_
      refine GL_step rfl (PS_move rfl) ?_
      refine GL_step rfl (PS_assign rfl) ?_
      refine GL_step rfl (PS_assign rfl) ?_
      refine GL_nil ?_
      refine GQ_sub (.cons (k := 4) rfl (.cons (k := 5) rfl (.nil _))) ?_
      refine GQ_then ?_
      refine G_ret ?_
      refine GQ_then_ret ?_
      refine GQ_ret rfl (.tmp rfl (.tmp rfl .nil)) ?_
      intro w1 hS; refine ⟨?_, hS.toKeep⟩; rw [← Land.roomOf, show Land.conv X (Land.root X i) = _ from ((if_t c1).trans (if_f c2))]; rfl
  · skip
    have c1p := c1
    try simp only [decide_eq_true_eq, decide_eq_false_iff_not, Bool.not_eq_true', Bool.not_eq_false', Bool.or_eq_true, Bool.and_eq_true, Bool.or_eq_false_iff, Bool.and_eq_false_iff, Int.not_lt, Int.not_le] at c1p
    refine G_skip ?_
    refine GQ_sub (.cons (k := 7) rfl (.cons (k := 8) rfl (.cons (k := 9) rfl (.nil _)))) ?_
    refine GQ_then ?_
    refine G_seq ?_
    refine G_seq ?_
    refine G_region ?_
    refine GL_step rfl (PS_move rfl) ?_
    refine GL_step rfl (PS_not rfl) ?_
    refine GL_nil ?_
    refine GQ_sub (.cons (k := 7) rfl (.cons (k := 8) rfl (.cons (k := 36) rfl (.nil _)))) ?_
    refine GQ_then ?_
    refine G_cond rfl (fun c3 => ?_) (fun c3 => ?_)
    · skip
      have c3p := c3
      try simp only [decide_eq_true_eq, decide_eq_false_iff_not, Bool.not_eq_true', Bool.not_eq_false', Bool.or_eq_true, Bool.and_eq_true, Bool.or_eq_false_iff, Bool.and_eq_false_iff, Int.not_lt, Int.not_le] at c3p
      refine G_seq ?_
      refine G_region ?_
      refine GL_step rfl (PS_assign rfl) ?_
      refine GL_step rfl (PS_assign rfl) ?_
      refine GL_nil ?_
      refine GQ_sub (.cons (k := 4) rfl (.cons (k := 5) rfl (.nil _))) ?_
      refine GQ_then ?_
      refine G_ret ?_
      refine GQ_then_ret ?_
      refine GQ_ret rfl (.tmp rfl (.tmp rfl .nil)) ?_
      intro w1 hS; refine ⟨?_, hS.toKeep⟩; rw [← Land.roomOf, show Land.conv X (Land.root X i) = _ from ((if_f c1).trans (if_t c3))]; rfl
    · skip
      have c3p := c3
      try simp only [decide_eq_true_eq, decide_eq_false_iff_not, Bool.not_eq_true', Bool.not_eq_false', Bool.or_eq_true, Bool.and_eq_true, Bool.or_eq_false_iff, Bool.and_eq_false_iff, Int.not_lt, Int.not_le] at c3p
      refine G_skip ?_
      refine GQ_sub (.cons (k := 7) rfl (.cons (k := 8) rfl (.nil _))) ?_
      refine GQ_then ?_
      refine G_seq ?_
      refine G_region ?_
      refine GL_step rfl (PS_move rfl) ?_
      refine GL_step rfl (PS_move rfl) ?_
      refine GL_step rfl (PS_assign rfl) ?_
      refine GL_step rfl (PS_assign rfl) ?_
      refine GL_nil ?_
      refine GQ_sub (.cons (k := 4) rfl (.cons (k := 5) rfl (.nil _))) ?_
      refine GQ_then ?_
      refine G_ret ?_
      refine GQ_ret rfl (.tmp rfl (.tmp rfl .nil)) ?_
      intro w1 hS; refine ⟨?_, hS.toKeep⟩; rw [← Land.roomOf, show Land.conv X (Land.root X i) = _ from ((if_f c1).trans (if_f c3))]; rfl
theorem land_goodThing_spec (X : Land) (i : Int) (h0 : 0 ≤ i) (h9 : i < 9) (w : World) : Ret Try.prog 55 #[.agg X.enc.toArray, .int .i64 i] w fun v w' => v = .bool (X.goodThing i) ∧ Keep w w' := by
  refine Ret_body [] [] Try.func55 rfl rfl rfl (St.start w []) ?_
  refine G_seq ?_
  refine G_region ?_
  refine GL_box rfl rfl rfl (fun b1 => ?_)
  refine GL_step rfl (PS_assign rfl) ?_
  refine GL_nil ?_
  refine GQ_sub (.cons (k := 1) rfl (.cons (k := 2) rfl (.nil _))) ?_
  refine GQ_then ?_
  refine G_seq ?_
  refine G_region ?_
  refine GL_step rfl (PS_move rfl) ?_
  refine GL_step rfl (PS_fieldAddr fa54_1 rfl) ?_
  refine GL_step rfl (PS_indexAddr ia49 rfl rfl (by omega) (by omega)) ?_
  refine GL_step rfl (PS_loadA rfl tya48 (.head _) (Land.l1.comp (Lens.arr (n := 9) Thing.fl (by omega) (by omega))) rfl) ?_
  refine GL_alloc rfl zv48 rfl (fun b2 => ?_)
  refine GL_unit (PU_store (Lens.id Thing.fl.len Thing.fl.one) rfl rfl rfl sz48 rfl .head) ?_
  refine GL_nil ?_
  refine GQ_sub (.cons (k := 2) rfl (.cons (k := 5) rfl (.nil _))) ?_
  refine GQ_then ?_
  refine G_seq ?_
  refine G_seq ?_
  refine G_region ?_
  refine GL_step rfl (PS_fieldAddr fa48_1 rfl) ?_
  refine GL_step rfl (PS_load rfl tys3 (.head _) Thing.l1 rfl rfl) ?_
  refine GL_step rfl (PS_lss rfl rfl) ?_
  refine GL_step rfl (PS_move rfl) ?_
  refine GL_gf (t := 15) rfl rfl rfl (fun q => PS_fieldAddr fa48_1 rfl) ?_
  refine GL_gf (t := 15) rfl rfl rfl (fun q => PS_load (cvE rfl (by rw [q]; rfl)) tys3 (.head _) Thing.l1 rfl rfl) ?_
  refine GL_gf (t := 15) rfl rfl rfl (fun q => PS_gtr (cvE rfl (by rw [q]; rfl)) rfl) ?_
  refine GL_step rfl (PS_or rfl rfl (fun h => by rw [h]; rfl)) ?_
  refine GL_step rfl (PS_move rfl) ?_
  refine GL_gf (t := 20) rfl rfl rfl (fun q => PS_fieldAddr fa48_1 rfl) ?_
  refine GL_gf (t := 20) rfl rfl rfl (fun q => PS_load (cvE rfl (by rw [q]; rfl)) tys3 (.head _) Thing.l1 rfl rfl) ?_
  refine GL_gf (t := 20) rfl rfl rfl (fun q => PS_eql (cvE rfl (by rw [q]; rfl)) rfl) ?_
  refine GL_gf (t := 20) rfl rfl rfl (fun q => PS_move (cvE rfl (by rw [q]; rfl))) ?_
  refine GL_gtc (t := 24) rfl rfl rfl (fun qc q => PS_fieldAddr fa48_4 rfl) ?_
  refine GL_gtc (t := 24) rfl rfl rfl (fun qc q => PS_load (cvE rfl (by rw [qc, q]; rfl)) tys4 (.head _) Thing.l4 rfl rfl) ?_
  refine GL_gf (t := 20) rfl rfl rfl (fun q => PS_and (cvE rfl (by rw [q]; rfl)) rfl (fun h => by rw [q, h]; rfl)) ?_
  refine GL_step rfl (PS_or rfl rfl (fun h => by rw [h]; rfl)) ?_
  refine GL_step rfl (PS_move rfl) ?_
  refine GL_gf (t := 29) rfl rfl rfl (fun q => PS_fieldAddr fa48_3 rfl) ?_
  refine GL_gf (t := 29) rfl rfl rfl (fun q => PS_load (cvE rfl (by rw [q]; rfl)) tys3 (.head _) Thing.l3 rfl rfl) ?_
  refine GL_gf (t := 29) rfl rfl rfl (fun q => PS_lss (cvE rfl (by rw [q]; rfl)) rfl) ?_
  refine GL_step rfl (PS_or rfl rfl (fun h => by rw [h]; rfl)) ?_
  refine GL_nil ?_
  refine GQ_sub (.cons (k := 2) rfl (.cons (k := 5) rfl (.cons (k := 33) rfl (.nil _)))) ?_
  refine GQ_then ?_
  refine G_cond rfl (fun c1 => ?_) (fun c1 => ?_)
  · skip
    have c1p := c1
    try simp only [decide_eq_true_eq, decide_eq_false_iff_not, Bool.not_eq_true', Bool.not_eq_false', Bool.or_eq_true, Bool.and_eq_true, Bool.or_eq_false_iff, Bool.and_eq_false_iff, Int.not_lt, Int.not_le] at c1p
    refine G_seq ?_
    refine G_region ?_
    refine GL_step rfl (PS_assign rfl) ?_
    refine GL_nil ?_
    refine GQ_sub (.cons (k := 4) rfl (.nil _)) ?_
    refine GQ_then ?_
    refine G_ret ?_
    refine GQ_then_ret ?_
    refine GQ_ret rfl (.tmp rfl .nil) ?_
    intro w1 hS; refine ⟨congrArg Value.bool ?_, hS.toKeep⟩; simp only [Land.goodThing, c1, ↓reduceIte, Bool.false_eq_true]
  · skip
    have c1p := c1
    try simp only [decide_eq_true_eq, decide_eq_false_iff_not, Bool.not_eq_true', Bool.not_eq_false', Bool.or_eq_true, Bool.and_eq_true, Bool.or_eq_false_iff, Bool.and_eq_false_iff, Int.not_lt, Int.not_le] at c1p
    refine G_skip ?_
    refine GQ_sub (.cons (k := 2) rfl (.cons (k := 5) rfl (.nil _))) ?_
    refine GQ_then ?_
    refine G_seq ?_
    refine G_region ?_
    refine GL_step rfl (PS_fieldAddr fa48_1 rfl) ?_
    refine GL_step rfl (PS_load rfl tys3 (.head _) Thing.l1 rfl rfl) ?_
    refine GL_step rfl (PS_eql rfl rfl) ?_
    refine GL_step rfl (PS_move rfl) ?_
    refine GL_gt (t := 37) rfl rfl rfl (fun q => PS_fieldAddr fa48_4 rfl) ?_
    refine GL_gt (t := 37) rfl rfl rfl (fun q => PS_load (cvE rfl q) tys4 (.head _) Thing.l4 rfl rfl) ?_
    refine GL_step rfl (PS_and rfl rfl (fun h => h)) ?_
    refine GL_step rfl (PS_assign rfl) ?_
    refine GL_nil ?_
    refine GQ_sub (.cons (k := 2) rfl (.cons (k := 5) rfl (.cons (k := 6) rfl (.nil _)))) ?_
    refine GQ_then ?_
    refine G_seq ?_
    refine G_seq ?_
    refine G_region ?_
    refine GL_step rfl (PS_fieldAddr fa48_2 rfl) ?_
    refine GL_step rfl (PS_load rfl tys3 (.head _) Thing.l2 rfl rfl) ?_
    refine GL_nil ?_
    refine GQ_sub (.cons (k := 2) rfl (.cons (k := 5) rfl (.cons (k := 6) rfl (.cons (k := 42) rfl (.nil _))))) ?_
    refine GQ_then ?_
    refine G_block ?_
    refine G_seq ?_
    refine G_region ?_
    refine GL_step rfl (PS_eql rfl rfl) ?_
    refine GL_step rfl (PS_assign rfl) ?_
    refine GL_nil ?_
    refine GQ_sub (.cons (k := 2) rfl (.cons (k := 5) rfl (.cons (k := 6) rfl (.cons (k := 42) rfl (.cons (k := 43) rfl (.nil _)))))) ?_
    refine GQ_then ?_
    refine G_cond rfl (fun c2 => ?_) (fun c2 => ?_)
    · skip
      have c2p := c2
      try simp only [decide_eq_true_eq, decide_eq_false_iff_not, Bool.not_eq_true', Bool.not_eq_false', Bool.or_eq_true, Bool.and_eq_true, Bool.or_eq_false_iff, Bool.and_eq_false_iff, Int.not_lt, Int.not_le] at c2p
      refine G_seq ?_
      refine G_region ?_
      refine GL_step rfl (PS_fieldAddr fa48_3 rfl) ?_
      refine GL_step rfl (PS_load rfl tys3 (.head _) Thing.l3 rfl rfl) ?_
      refine GL_step rfl (PS_lss rfl rfl) ?_
      refine GL_step rfl (PS_move rfl) ?_
      refine GL_gt (t := 48) rfl rfl rfl (fun q => PS_move rfl) ?_
      refine GL_gt (t := 48) rfl rfl rfl (fun q => PS_not (cvE rfl q)) ?_
      refine GL_step rfl (PS_and rfl rfl (fun h => h)) ?_
      refine GL_step rfl (PS_assign rfl) ?_
      refine GL_nil ?_
      refine GQ_sub (.cons (k := 4) rfl (.nil _)) ?_
      refine GQ_then ?_
      refine G_ret ?_
      refine GQ_block_ret ?_
      refine GQ_then_ret ?_
      refine GQ_ret rfl (.tmp rfl .nil) ?_
      intro w1 hS; refine ⟨congrArg Value.bool ?_, hS.toKeep⟩; simp only [Land.goodThing, c1, c2, ↓reduceIte, Bool.false_eq_true]
    · skip
      have c2p := c2
      try simp only [decide_eq_true_eq, decide_eq_false_iff_not, Bool.not_eq_true', Bool.not_eq_false', Bool.or_eq_true, Bool.and_eq_true, Bool.or_eq_false_iff, Bool.and_eq_false_iff, Int.not_lt, Int.not_le] at c2p
      refine G_seq ?_
      refine G_region ?_
      refine GL_step rfl (PS_eql rfl rfl) ?_
      refine GL_step rfl (PS_assign rfl) ?_
      refine GL_nil ?_
      refine GQ_sub (.cons (k := 2) rfl (.cons (k := 5) rfl (.cons (k := 6) rfl (.cons (k := 42) rfl (.cons (k := 52) rfl (.nil _)))))) ?_
      refine GQ_then ?_
      refine G_cond rfl (fun c3 => ?_) (fun c3 => ?_)
      · skip
        have c3p := c3
        try simp only [decide_eq_true_eq, decide_eq_false_iff_not, Bool.not_eq_true', Bool.not_eq_false', Bool.or_eq_true, Bool.and_eq_true, Bool.or_eq_false_iff, Bool.and_eq_false_iff, Int.not_lt, Int.not_le] at c3p
        refine G_seq ?_
        refine G_region ?_
        refine GL_step rfl (PS_fieldAddr fa48_3 rfl) ?_
        refine GL_step rfl (PS_load rfl tys3 (.head _) Thing.l3 rfl rfl) ?_
        refine GL_step rfl (PS_lss rfl rfl) ?_
        refine GL_step rfl (PS_move rfl) ?_
        refine GL_gt (t := 57) rfl rfl rfl (fun q => PS_fieldAddr fa48_3 rfl) ?_
        refine GL_gt (t := 57) rfl rfl rfl (fun q => PS_load (cvE rfl q) tys3 (.head _) Thing.l3 rfl rfl) ?_
        refine GL_gt (t := 57) rfl rfl rfl (fun q => PS_fieldAddr fa54_2 rfl) ?_
        refine GL_gt (t := 57) rfl rfl rfl (fun q => by have q1 := q; (try simp at q1); exact PS_indexAddr ia52 (cvE rfl q) (cvE rfl q) (by omega) (by omega)) ?_
        refine GL_gt (t := 57) rfl rfl rfl (fun q => PS_fieldAddr fa51_1 (cvE rfl q)) ?_
        refine GL_gt (t := 57) rfl rfl rfl (fun q => by have q1 := q; (try simp at q1); exact PS_load (cvE rfl q) tys4 (.tail _ (.head _)) ((Land.l2.comp (Lens.arr (n := 6) Being.fl (by omega) (by omega))).comp Being.l1) rfl rfl) ?_
        refine GL_step rfl (PS_and rfl rfl (fun h => h)) ?_
        refine GL_step rfl (PS_assign rfl) ?_
        refine GL_nil ?_
        refine GQ_sub (.cons (k := 4) rfl (.nil _)) ?_
        refine GQ_then ?_
        refine G_ret ?_
        refine GQ_block_ret ?_
        refine GQ_then_ret ?_
        refine GQ_ret rfl (.tmp rfl .nil) ?_
        intro w1 hS; refine ⟨congrArg Value.bool ?_, hS.toKeep⟩; simp only [Land.goodThing, c1, c2, c3, ↓reduceIte, Bool.false_eq_true]
      · skip
        have c3p := c3
        try simp only [decide_eq_true_eq, decide_eq_false_iff_not, Bool.not_eq_true', Bool.not_eq_false', Bool.or_eq_true, Bool.and_eq_true, Bool.or_eq_false_iff, Bool.and_eq_false_iff, Int.not_lt, Int.not_le] at c3p
        refine G_seq ?_
        refine G_region ?_
        refine GL_step rfl (PS_eql rfl rfl) ?_
        refine GL_step rfl (PS_assign rfl) ?_
        refine GL_nil ?_
        refine GQ_sub (.cons (k := 2) rfl (.cons (k := 5) rfl (.cons (k := 6) rfl (.cons (k := 65) rfl (.nil _))))) ?_
        refine GQ_then ?_
        refine G_cond rfl (fun c4 => ?_) (fun c4 => ?_)
        · skip
          have c4p := c4
          try simp only [decide_eq_true_eq, decide_eq_false_iff_not, Bool.not_eq_true', Bool.not_eq_false', Bool.or_eq_true, Bool.and_eq_true, Bool.or_eq_false_iff, Bool.and_eq_false_iff, Int.not_lt, Int.not_le] at c4p
          refine G_seq ?_
          refine G_seq ?_
          refine G_region ?_
          refine GL_step rfl (PS_fieldAddr fa48_3 rfl) ?_
          refine GL_step rfl (PS_load rfl tys3 (.head _) Thing.l3 rfl rfl) ?_
          refine GL_step rfl (PS_geq rfl rfl) ?_
          refine GL_step rfl (PS_move rfl) ?_
          refine GL_gf (t := 70) rfl rfl rfl (fun q => PS_fieldAddr fa48_3 rfl) ?_
          refine GL_gf (t := 70) rfl rfl rfl (fun q => PS_load (cvE rfl (by rw [q]; rfl)) tys3 (.head _) Thing.l3 rfl rfl) ?_
          refine GL_gf (t := 70) rfl rfl rfl (fun q => PS_fieldAddr fa54_1 rfl) ?_
          refine GL_gf (t := 70) rfl rfl rfl (fun q => by have q1 := q; (try simp at q1); exact PS_indexAddr ia49 (cvE rfl (by rw [q]; rfl)) (cvE rfl (by rw [q]; rfl)) (by omega) (by omega)) ?_
          refine GL_gf (t := 70) rfl rfl rfl (fun q => PS_fieldAddr fa48_1 (cvE rfl (by rw [q]; rfl))) ?_
          refine GL_gf (t := 70) rfl rfl rfl (fun q => by have q1 := q; (try simp at q1); exact PS_load (cvE rfl (by rw [q]; rfl)) tys3 (.tail _ (.head _)) ((Land.l1.comp (Lens.arr (n := 9) Thing.fl (by omega) (by omega))).comp Thing.l1) rfl rfl) ?_
          refine GL_gf (t := 70) rfl rfl rfl (fun q => PS_neq (cvE rfl (by rw [q]; rfl)) rfl) ?_
          refine GL_step rfl (PS_or rfl rfl (fun h => by rw [h]; rfl)) ?_
          refine GL_step rfl (PS_move rfl) ?_
          refine GL_gf (t := 79) rfl rfl rfl (fun q => PS_move rfl) ?_
          refine GL_step rfl (PS_or rfl rfl (fun h => by rw [h]; rfl)) ?_
          refine GL_nil ?_
          refine GQ_sub (.cons (k := 2) rfl (.cons (k := 5) rfl (.cons (k := 81) rfl (.nil _)))) ?_
          refine GQ_then ?_
          refine G_cond rfl (fun c5 => ?_) (fun c5 => ?_)
          · skip
            have c5p := c5
            try simp only [decide_eq_true_eq, decide_eq_false_iff_not, Bool.not_eq_true', Bool.not_eq_false', Bool.or_eq_true, Bool.and_eq_true, Bool.or_eq_false_iff, Bool.and_eq_false_iff, Int.not_lt, Int.not_le] at c5p
            refine G_seq ?_
            refine G_region ?_
            refine GL_step rfl (PS_assign rfl) ?_
            refine GL_nil ?_
            refine GQ_sub (.cons (k := 4) rfl (.nil _)) ?_
            refine GQ_then ?_
            refine G_ret ?_
            refine GQ_then_ret ?_
            refine GQ_block_ret ?_
            refine GQ_then_ret ?_
            refine GQ_ret rfl (.tmp rfl .nil) ?_
            intro w1 hS; refine ⟨congrArg Value.bool ?_, hS.toKeep⟩; simp only [Land.goodThing, c1, c2, c3, c4, c5, ↓reduceIte, Bool.false_eq_true]
          · skip
            have c5p := c5
            try simp only [decide_eq_true_eq, decide_eq_false_iff_not, Bool.not_eq_true', Bool.not_eq_false', Bool.or_eq_true, Bool.and_eq_true, Bool.or_eq_false_iff, Bool.and_eq_false_iff, Int.not_lt, Int.not_le] at c5p
            refine G_skip ?_
            refine GQ_sub (.cons (k := 2) rfl (.cons (k := 5) rfl (.nil _))) ?_
            refine GQ_then ?_
            refine G_seq ?_
            refine G_region ?_
            refine GL_step rfl (PS_move rfl) ?_
            refine GL_nil ?_
            refine GQ_then ?_
            refine G_block ?_
            refine G_subF (.cons (k := 82) rfl (.cons (k := 2) rfl (.cons (k := 5) rfl (.nil _)))) ?_
            refine G_loop2_ (fun (k : Int) (t : Thing) => 0 ≤ k ∧ k ≤ 10 ∧ X.goodThing i = X.climb (10 - k).toNat t) (fun (k : Int) (t : Thing) => (10 - k).toNat) (fun (k : Int) (t : Thing) => [(82, .int .i64 k)]) (fun (k : Int) (t : Thing) => [Res.box b2 48 (Thing.enc t)]) (0) (X.things.at i) ?_ rfl rfl (fun k t hI1 => ?_)
            · refine ⟨Int.le_refl _, by omega, ?_⟩; simp only [Land.goodThing, c1, c2, c3, c4, c5, ↓reduceIte, Bool.false_eq_true]; rfl
            obtain ⟨hI11, hI12, hI13⟩ := hI1
            refine G_seq ?_
            refine G_region ?_
            refine GL_step rfl (PS_lss rfl rfl) ?_
            refine GL_nil ?_
            refine GQ_then ?_
            refine G_seq ?_
            refine G_cond rfl (fun c6 => ?_) (fun c6 => ?_)
            · skip
              have c6p := c6
              try simp only [decide_eq_true_eq, decide_eq_false_iff_not, Bool.not_eq_true', Bool.not_eq_false', Bool.or_eq_true, Bool.and_eq_true, Bool.or_eq_false_iff, Bool.and_eq_false_iff, Int.not_lt, Int.not_le] at c6p
              rw [show (10 - k).toNat = (10 - (k + 1)).toNat + 1 from by omega, Land.climb, show decide ((10 - (k + 1)).toNat = 0) = decide (k = 9) from decide_eq_decide.2 ⟨by omega, by omega⟩] at hI13
              refine G_skip ?_
              refine GQ_sub (.cons (k := 2) rfl (.cons (k := 5) rfl (.cons (k := 82) rfl (.nil _)))) ?_
              refine GQ_then ?_
              refine G_seq ?_
              refine G_block ?_
              refine G_seq ?_
              refine G_region ?_
              refine GL_step rfl (PS_move rfl) ?_
              refine GL_step rfl (PS_assign rfl) ?_
              refine GL_nil ?_
              refine GQ_sub (.cons (k := 2) rfl (.cons (k := 5) rfl (.cons (k := 7) rfl (.cons (k := 82) rfl (.nil _))))) ?_
              refine GQ_then ?_
              refine G_seq ?_
              refine G_seq ?_
              refine G_region ?_
              refine GL_step rfl (PS_fieldAddr fa48_2 rfl) ?_
              refine GL_step rfl (PS_load rfl tys3 (.head _) Thing.l2 rfl rfl) ?_
              refine GL_step rfl (PS_neq rfl rfl) ?_
              refine GL_nil ?_
              refine GQ_sub (.cons (k := 2) rfl (.cons (k := 5) rfl (.cons (k := 7) rfl (.cons (k := 82) rfl (.cons (k := 87) rfl (.nil _)))))) ?_
              refine GQ_then ?_
              refine G_cond rfl (fun c7 => ?_) (fun c7 => ?_)
              · skip
                have c7p := c7
                try simp only [decide_eq_true_eq, decide_eq_false_iff_not, Bool.not_eq_true', Bool.not_eq_false', Bool.or_eq_true, Bool.and_eq_true, Bool.or_eq_false_iff, Bool.and_eq_false_iff, Int.not_lt, Int.not_le] at c7p
                refine G_seq ?_
                refine G_region ?_
                refine GL_step rfl (PS_assign rfl) ?_
                refine GL_nil ?_
                refine GQ_sub (.cons (k := 4) rfl (.nil _)) ?_
                refine GQ_then ?_
                refine G_ret ?_
                refine GQ_then_ret ?_
                refine GQ_block_ret ?_
                refine GQ_then_ret ?_
                refine GQ_then_ret ?_
                refine GQ_block_ret ?_
                refine GQ_block_ret ?_
                refine GQ_then_ret ?_
                refine GQ_ret rfl (.tmp rfl .nil) ?_
                intro w1 hS; refine ⟨congrArg Value.bool ?_, hS.toKeep⟩; rw [hI13]; simp only [c1, c2, c3, c4, c5, c6, c7, ↓reduceIte, Bool.false_eq_true]
              · skip
                have c7p := c7
                try simp only [decide_eq_true_eq, decide_eq_false_iff_not, Bool.not_eq_true', Bool.not_eq_false', Bool.or_eq_true, Bool.and_eq_true, Bool.or_eq_false_iff, Bool.and_eq_false_iff, Int.not_lt, Int.not_le] at c7p
                refine G_skip ?_
                refine GQ_sub (.cons (k := 2) rfl (.cons (k := 5) rfl (.cons (k := 7) rfl (.cons (k := 82) rfl (.nil _))))) ?_
                refine GQ_then ?_
                refine G_seq ?_
                refine G_seq ?_
                refine G_region ?_
                refine GL_step rfl (PS_move rfl) ?_
                refine GL_step rfl (PS_eql rfl rfl) ?_
                refine GL_step rfl (PS_move rfl) ?_
                refine GL_gf (t := 90) rfl rfl rfl (fun q => PS_fieldAddr fa48_3 rfl) ?_
                refine GL_gf (t := 90) rfl rfl rfl (fun q => PS_load (cvE rfl (by rw [q]; rfl)) tys3 (.head _) Thing.l3 rfl rfl) ?_
                refine GL_gf (t := 90) rfl rfl rfl (fun q => PS_lss (cvE rfl (by rw [q]; rfl)) rfl) ?_
                refine GL_step rfl (PS_or rfl rfl (fun h => by rw [h]; rfl)) ?_
                refine GL_step rfl (PS_move rfl) ?_
                refine GL_gf (t := 95) rfl rfl rfl (fun q => PS_fieldAddr fa48_3 rfl) ?_
                refine GL_gf (t := 95) rfl rfl rfl (fun q => PS_load (cvE rfl (by rw [q]; rfl)) tys3 (.head _) Thing.l3 rfl rfl) ?_
                refine GL_gf (t := 95) rfl rfl rfl (fun q => PS_geq (cvE rfl (by rw [q]; rfl)) rfl) ?_
                refine GL_step rfl (PS_or rfl rfl (fun h => by rw [h]; rfl)) ?_
                refine GL_nil ?_
                refine GQ_sub (.cons (k := 2) rfl (.cons (k := 5) rfl (.cons (k := 82) rfl (.cons (k := 99) rfl (.nil _))))) ?_
                refine GQ_then ?_
                refine G_cond rfl (fun c8 => ?_) (fun c8 => ?_)
                · skip
                  have c8p := c8
                  try simp only [decide_eq_true_eq, decide_eq_false_iff_not, Bool.not_eq_true', Bool.not_eq_false', Bool.or_eq_true, Bool.and_eq_true, Bool.or_eq_false_iff, Bool.and_eq_false_iff, Int.not_lt, Int.not_le] at c8p
                  refine G_seq ?_
                  refine G_region ?_
                  refine GL_step rfl (PS_assign rfl) ?_
                  refine GL_nil ?_
                  refine GQ_sub (.cons (k := 4) rfl (.nil _)) ?_
                  refine GQ_then ?_
                  refine G_ret ?_
                  refine GQ_then_ret ?_
                  refine GQ_block_ret ?_
                  refine GQ_then_ret ?_
                  refine GQ_then_ret ?_
                  refine GQ_block_ret ?_
                  refine GQ_block_ret ?_
                  refine GQ_then_ret ?_
                  refine GQ_ret rfl (.tmp rfl .nil) ?_
                  intro w1 hS; refine ⟨congrArg Value.bool ?_, hS.toKeep⟩; rw [hI13]; simp only [c1, c2, c3, c4, c5, c6, c7, c8, ↓reduceIte, Bool.false_eq_true]
                · skip
                  have c8p := c8
                  try simp only [decide_eq_true_eq, decide_eq_false_iff_not, Bool.not_eq_true', Bool.not_eq_false', Bool.or_eq_true, Bool.and_eq_true, Bool.or_eq_false_iff, Bool.and_eq_false_iff, Int.not_lt, Int.not_le] at c8p
                  refine G_skip ?_
                  refine GQ_sub (.cons (k := 2) rfl (.cons (k := 5) rfl (.cons (k := 82) rfl (.nil _)))) ?_
                  refine GQ_then ?_
                  refine G_region ?_
                  refine GL_step rfl (PS_fieldAddr fa48_3 rfl) ?_
                  refine GL_step rfl (PS_load rfl tys3 (.head _) Thing.l3 rfl rfl) ?_
                  refine GL_step rfl (PS_fieldAddr fa54_1 rfl) ?_
                  refine GL_step rfl (PS_indexAddr ia49 rfl rfl (by omega) (by omega)) ?_
                  refine GL_step rfl (PS_loadA rfl tya48 (.tail _ (.head _)) (Land.l1.comp (Lens.arr (n := 9) Thing.fl (by omega) (by omega))) rfl) ?_
                  refine GL_unit (PU_store (Lens.id Thing.fl.len Thing.fl.one) rfl rfl rfl sz48 rfl .head) ?_
                  refine GL_nil ?_
                  refine GQ_sub (.cons (k := 2) rfl (.cons (k := 5) rfl (.cons (k := 82) rfl (.nil _)))) ?_
                  refine GQ_block ?_
                  refine GQ_then ?_
                  refine G_region ?_
                  refine GL_step rfl (PS_add rfl rfl (IntWalk.i64_in _ (by omega))) ?_
                  refine GL_step rfl (PS_move rfl) ?_
                  refine GL_nil ?_
                  refine GQ_sub (.cons (k := 2) rfl (.cons (k := 5) rfl (.cons (k := 82) rfl (.nil _)))) ?_
                  refine GQ_next2_ (k + 1) (X.things.at t.at_) ?_ ?_ (.cons (k := 82) rfl (.cons (k := 2) rfl (.cons (k := 5) rfl (.nil _)))) (.refl _)
                  · exact ⟨by omega, by omega, by rw [hI13]; simp only [c1, c2, c3, c4, c5, c6, c7, c8, ↓reduceIte, Bool.false_eq_true]⟩
                  · omega
            · skip
              have c6p := c6
              try simp only [decide_eq_true_eq, decide_eq_false_iff_not, Bool.not_eq_true', Bool.not_eq_false', Bool.or_eq_true, Bool.and_eq_true, Bool.or_eq_false_iff, Bool.and_eq_false_iff, Int.not_lt, Int.not_le] at c6p
              obtain rfl : k = 10 := by omega
              refine G_exit ?_
              refine GQ_then_exit ?_
              refine GQ_then_exit ?_
              refine GQ_block_exit ?_
              refine GQ_sub (.nil _) ?_
              refine GQ_block ?_
              refine GQ_then ?_
              refine G_seq ?_
              refine G_region ?_
              refine GL_step rfl (PS_assign rfl) ?_
              refine GL_nil ?_
              refine GQ_then ?_
              refine G_ret ?_
              refine GQ_ret rfl (.tmp rfl .nil) ?_
              intro w1 hS; refine ⟨congrArg Value.bool ?_, hS.toKeep⟩; rw [hI13]; rfl
        · skip
          have c4p := c4
          try simp only [decide_eq_true_eq, decide_eq_false_iff_not, Bool.not_eq_true', Bool.not_eq_false', Bool.or_eq_true, Bool.and_eq_true, Bool.or_eq_false_iff, Bool.and_eq_false_iff, Int.not_lt, Int.not_le] at c4p
          refine G_skip ?_
          refine GQ_sub (.nil _) ?_
          refine GQ_block ?_
          refine GQ_then ?_
          refine G_seq ?_
          refine G_region ?_
          refine GL_step rfl (PS_assign rfl) ?_
          refine GL_nil ?_
          refine GQ_then ?_
          refine G_ret ?_
          refine GQ_ret rfl (.tmp rfl .nil) ?_
          intro w1 hS; refine ⟨congrArg Value.bool ?_, hS.toKeep⟩; simp only [Land.goodThing, c1, c2, c3, c4, ↓reduceIte, Bool.false_eq_true]
theorem land_Good_spec (X : Land) (w : World) : Ret Try.prog 27 #[.agg X.enc.toArray] w fun v w' => v = .bool X.good ∧ Keep w w' := by
  refine Ret_body [] [] Try.func27 rfl rfl rfl (St.start w []) ?_
  refine G_seq ?_
  refine G_region ?_
  refine GL_box rfl rfl rfl (fun b1 => ?_)
  refine GL_step rfl (PS_assign rfl) ?_
  refine GL_nil ?_
  refine GQ_sub (.cons (k := 1) rfl (.nil _)) ?_
  refine GQ_then ?_
  refine G_seq ?_
  refine G_seq ?_
  refine G_region ?_
  refine GL_step rfl (PS_fieldAddr fa54_0 rfl) ?_
  refine GL_step rfl (PS_loadA rfl tya46 (.head _) Land.l0 rfl) ?_
  refine GL_step rfl (PS_move rfl) ?_
  refine GL_nil ?_
  refine GQ_sub (.cons (k := 1) rfl (.cons (k := 11) rfl (.cons (k := 12) rfl (.nil _)))) ?_
  refine GQ_then ?_
  refine G_block ?_
  refine G_subF (.cons (k := 12) rfl (.cons (k := 1) rfl (.cons (k := 11) rfl (.nil _)))) ?_
  refine G_loop1_ (fun (k : Int) => 0 ≤ k ∧ k ≤ 6 ∧ X.good = (allFrom 6 X.goodRoom (6 - k).toNat && (allFrom 6 (fun k => !Land.badBeing (X.beings.at k)) 6 && allFrom 9 X.goodThing 9))) (fun (k : Int) => (6 - k).toNat) (fun (k : Int) => [(12, .int .i64 k)]) (fun (k : Int) => []) (0) ?_ rfl rfl (fun k hI1 => ?_)
  · exact ⟨Int.le_refl _, by omega, rfl⟩
  obtain ⟨hI11, hI12, hI13⟩ := hI1
  refine G_seq ?_
  refine G_region ?_
  refine GL_step rfl (PS_lss rfl rfl) ?_
  refine GL_nil ?_
  refine GQ_then ?_
  refine G_seq ?_
  refine G_cond rfl (fun c1 => ?_) (fun c1 => ?_)
  · skip
    have c1p := c1
    try simp only [decide_eq_true_eq, decide_eq_false_iff_not, Bool.not_eq_true', Bool.not_eq_false', Bool.or_eq_true, Bool.and_eq_true, Bool.or_eq_false_iff, Bool.and_eq_false_iff, Int.not_lt, Int.not_le] at c1p
    rw [allFrom_step _ (by omega)] at hI13
    refine G_skip ?_
    refine GQ_sub (.cons (k := 1) rfl (.cons (k := 11) rfl (.cons (k := 12) rfl (.nil _)))) ?_
    refine GQ_then ?_
    refine G_seq ?_
    refine G_block ?_
    refine G_seq ?_
    refine G_region ?_
    refine GL_step rfl (PS_indexAA Room.fl Try.underlying46 tya45 rfl rfl (by omega) (by omega)) ?_
    refine GL_alloc rfl zv45 rfl (fun b2 => ?_)
    refine GL_unit (PU_store (Lens.id Room.fl.len Room.fl.one) rfl rfl rfl sz45 rfl .head) ?_
    refine GL_nil ?_
    refine GQ_sub (.cons (k := 1) rfl (.cons (k := 4) rfl (.cons (k := 11) rfl (.cons (k := 12) rfl (.nil _))))) ?_
    refine GQ_then ?_
    refine G_seq ?_
    refine G_region ?_
    refine GL_step rfl (PS_fieldAddr fa45_2 rfl) ?_
    refine GL_step rfl (PS_loadA rfl tya42 (.head _) Room.l2 rfl) ?_
    refine GL_step rfl (PS_move rfl) ?_
    refine GL_nil ?_
    refine GQ_sub (.cons (k := 1) rfl (.cons (k := 4) rfl (.cons (k := 11) rfl (.cons (k := 12) rfl (.cons (k := 16) rfl (.cons (k := 17) rfl (.nil _))))))) ?_
    refine GQ_then ?_
    refine G_block ?_
    refine G_subF (.cons (k := 17) rfl (.cons (k := 1) rfl (.cons (k := 4) rfl (.cons (k := 11) rfl (.cons (k := 12) rfl (.cons (k := 16) rfl (.nil _))))))) ?_
    refine G_loop1_ (fun (d : Int) => 0 ≤ d ∧ d ≤ 6 ∧ X.goodRoom k = allFrom 6 (fun d => !Land.badExit (X.rooms.at k) d) (6 - d).toNat) (fun (d : Int) => (6 - d).toNat) (fun (d : Int) => [(17, .int .i64 d)]) (fun (d : Int) => []) (0) ?_ rfl rfl (fun d hI2 => ?_)
    · exact ⟨Int.le_refl _, by omega, rfl⟩
    obtain ⟨hI21, hI22, hI23⟩ := hI2
    refine G_seq ?_
    refine G_region ?_
    refine GL_step rfl (PS_lss rfl rfl) ?_
    refine GL_nil ?_
    refine GQ_then ?_
    refine G_seq ?_
    refine G_cond rfl (fun c2 => ?_) (fun c2 => ?_)
    · skip
      have c2p := c2
      try simp only [decide_eq_true_eq, decide_eq_false_iff_not, Bool.not_eq_true', Bool.not_eq_false', Bool.or_eq_true, Bool.and_eq_true, Bool.or_eq_false_iff, Bool.and_eq_false_iff, Int.not_lt, Int.not_le] at c2p
      rw [allFrom_step _ (by omega)] at hI23
      refine G_skip ?_
      refine GQ_sub (.cons (k := 1) rfl (.cons (k := 4) rfl (.cons (k := 11) rfl (.cons (k := 12) rfl (.cons (k := 16) rfl (.cons (k := 17) rfl (.nil _))))))) ?_
      refine GQ_then ?_
      refine G_seq ?_
      refine G_block ?_
      refine G_seq ?_
      refine G_region ?_
      refine GL_step rfl (PS_move rfl) ?_
      refine GL_step rfl (PS_indexA flI Try.underlying42 sz3 tys3 rfl rfl (by omega) (by omega) rfl) ?_
      refine GL_step rfl (PS_assign rfl) ?_
      refine GL_step rfl (PS_assign rfl) ?_
      refine GL_nil ?_
      refine GQ_sub (.cons (k := 1) rfl (.cons (k := 4) rfl (.cons (k := 5) rfl (.cons (k := 6) rfl (.cons (k := 11) rfl (.cons (k := 12) rfl (.cons (k := 16) rfl (.cons (k := 17) rfl (.nil _))))))))) ?_
      refine GQ_then ?_
      refine G_seq ?_
      refine G_region ?_
      refine GL_step rfl (PS_move rfl) ?_
      refine GL_step rfl (PS_lss rfl rfl) ?_
      refine GL_step rfl (PS_move rfl) ?_
      refine GL_gf (t := 23) rfl rfl rfl (fun q => PS_move rfl) ?_
      refine GL_gf (t := 23) rfl rfl rfl (fun q => PS_gtr (cvE rfl (by rw [q]; rfl)) rfl) ?_
      refine GL_step rfl (PS_or rfl rfl (fun h => by rw [h]; rfl)) ?_
      refine GL_step rfl (PS_move rfl) ?_
      refine GL_gf (t := 27) rfl rfl rfl (fun q => PS_move rfl) ?_
      refine GL_gf (t := 27) rfl rfl rfl (fun q => PS_eql (cvE rfl (by rw [q]; rfl)) rfl) ?_
      refine GL_gf (t := 27) rfl rfl rfl (fun q => PS_move (cvE rfl (by rw [q]; rfl))) ?_
      refine GL_gtc (t := 30) rfl rfl rfl (fun qc q => PS_move rfl) ?_
      refine GL_gtc (t := 30) rfl rfl rfl (fun qc q => PS_fieldAddr fa45_3 rfl) ?_
      refine GL_gtc (t := 30) rfl rfl rfl (fun qc q => by have q1 := q; have qc1 := qc; (try simp at q1 qc1); exact PS_indexAddr ia43 (cvE rfl (by rw [qc, q]; rfl)) (cvE rfl (by rw [qc, q]; rfl)) (by omega) (by omega)) ?_
      refine GL_gtc (t := 30) rfl rfl rfl (fun qc q => by have q1 := q; have qc1 := qc; (try simp at q1 qc1); exact PS_load (cvE rfl (by rw [qc, q]; rfl)) tys4 (.head _) (Room.l3.comp (Lens.arr (n := 6) flB (by omega) (by omega))) rfl rfl) ?_
      refine GL_gf (t := 27) rfl rfl rfl (fun q => PS_and (cvE rfl (by rw [q]; rfl)) rfl (fun h => by rw [q, h]; rfl)) ?_
      refine GL_step rfl (PS_or rfl rfl (fun h => by rw [h]; rfl)) ?_
      refine GL_nil ?_
      refine GQ_sub (.cons (k := 1) rfl (.cons (k := 4) rfl (.cons (k := 11) rfl (.cons (k := 12) rfl (.cons (k := 16) rfl (.cons (k := 17) rfl (.cons (k := 36) rfl (.nil _)))))))) ?_
      refine GQ_then ?_
      refine G_cond rfl (fun c3 => ?_) (fun c3 => ?_)
      · skip
        have c3p := c3
        try simp only [decide_eq_true_eq, decide_eq_false_iff_not, Bool.not_eq_true', Bool.not_eq_false', Bool.or_eq_true, Bool.and_eq_true, Bool.or_eq_false_iff, Bool.and_eq_false_iff, Int.not_lt, Int.not_le] at c3p
        refine G_seq ?_
        refine G_region ?_
        refine GL_step rfl (PS_assign rfl) ?_
        refine GL_nil ?_
        refine GQ_sub (.cons (k := 2) rfl (.nil _)) ?_
        refine GQ_then ?_
        refine G_ret ?_
        refine GQ_block_ret ?_
        refine GQ_then_ret ?_
        refine GQ_then_ret ?_
        refine GQ_block_ret ?_
        refine GQ_block_ret ?_
        refine GQ_then_ret ?_
        refine GQ_then_ret ?_
        refine GQ_block_ret ?_
        refine GQ_then_ret ?_
        refine GQ_ret rfl (.tmp rfl .nil) ?_
        intro w1 hS; refine ⟨congrArg Value.bool ?_, hS.toKeep⟩; rw [hI13, hI23, Land.badExit, c3]; rfl
      · skip
        have c3p := c3
        try simp only [decide_eq_true_eq, decide_eq_false_iff_not, Bool.not_eq_true', Bool.not_eq_false', Bool.or_eq_true, Bool.and_eq_true, Bool.or_eq_false_iff, Bool.and_eq_false_iff, Int.not_lt, Int.not_le] at c3p
        refine G_skip ?_
        refine GQ_sub (.cons (k := 1) rfl (.cons (k := 4) rfl (.cons (k := 11) rfl (.cons (k := 12) rfl (.cons (k := 16) rfl (.cons (k := 17) rfl (.nil _))))))) ?_
        refine GQ_block ?_
        refine GQ_then ?_
        refine G_region ?_
        refine GL_step rfl (PS_add rfl rfl (IntWalk.i64_in _ (by omega))) ?_
        refine GL_step rfl (PS_move rfl) ?_
        refine GL_nil ?_
        refine GQ_sub (.cons (k := 1) rfl (.cons (k := 4) rfl (.cons (k := 11) rfl (.cons (k := 12) rfl (.cons (k := 16) rfl (.cons (k := 17) rfl (.nil _))))))) ?_
        refine GQ_next1_ (d + 1) ?_ ?_ (.cons (k := 17) rfl (.cons (k := 1) rfl (.cons (k := 4) rfl (.cons (k := 11) rfl (.cons (k := 12) rfl (.cons (k := 16) rfl (.nil _))))))) (.refl _)
        · exact ⟨by omega, by omega, by rw [hI23, Land.badExit, c3]; rfl⟩
        · omega
    · skip
      have c2p := c2
      try simp only [decide_eq_true_eq, decide_eq_false_iff_not, Bool.not_eq_true', Bool.not_eq_false', Bool.or_eq_true, Bool.and_eq_true, Bool.or_eq_false_iff, Bool.and_eq_false_iff, Int.not_lt, Int.not_le] at c2p
      obtain rfl : d = 6 := by omega
      refine G_exit ?_
      refine GQ_then_exit ?_
      refine GQ_then_exit ?_
      refine GQ_block_exit ?_
      refine GQ_sub (.cons (k := 1) rfl (.cons (k := 11) rfl (.cons (k := 12) rfl (.nil _)))) ?_
      refine GQ_block ?_
      refine GQ_then ?_
      refine G_region ?_
      refine GL_step rfl (PS_add rfl rfl (IntWalk.i64_in _ (by omega))) ?_
      refine GL_step rfl (PS_move rfl) ?_
      refine GL_nil ?_
      refine GQ_sub (.cons (k := 1) rfl (.cons (k := 11) rfl (.cons (k := 12) rfl (.nil _)))) ?_
      refine GQ_next1_ (k + 1) ?_ ?_ (.cons (k := 12) rfl (.cons (k := 1) rfl (.cons (k := 11) rfl (.nil _)))) (.cons _ (.refl _))
      · exact ⟨by omega, by omega, by rw [hI13, hI23]; rfl⟩
      · omega
  · skip
    have c1p := c1
    try simp only [decide_eq_true_eq, decide_eq_false_iff_not, Bool.not_eq_true', Bool.not_eq_false', Bool.or_eq_true, Bool.and_eq_true, Bool.or_eq_false_iff, Bool.and_eq_false_iff, Int.not_lt, Int.not_le] at c1p
    obtain rfl : k = 6 := by omega
    refine G_exit ?_
    refine GQ_then_exit ?_
    refine GQ_then_exit ?_
    refine GQ_block_exit ?_
    refine GQ_sub (.cons (k := 1) rfl (.nil _)) ?_
    refine GQ_then ?_
    refine G_seq ?_
    refine G_seq ?_
    refine G_region ?_
    refine GL_step rfl (PS_fieldAddr fa54_2 rfl) ?_
    refine GL_step rfl (PS_loadA rfl tya52 (.head _) Land.l2 rfl) ?_
    refine GL_step rfl (PS_move rfl) ?_
    refine GL_nil ?_
    refine GQ_sub (.cons (k := 1) rfl (.cons (k := 40) rfl (.cons (k := 41) rfl (.nil _)))) ?_
    refine GQ_then ?_
    refine G_block ?_
    refine G_subF (.cons (k := 41) rfl (.cons (k := 1) rfl (.cons (k := 40) rfl (.nil _)))) ?_
    refine G_loop1_ (fun (b : Int) => 0 ≤ b ∧ b ≤ 6 ∧ X.good = (allFrom 6 (fun k => !Land.badBeing (X.beings.at k)) (6 - b).toNat && allFrom 9 X.goodThing 9)) (fun (b : Int) => (6 - b).toNat) (fun (b : Int) => [(41, .int .i64 b)]) (fun (b : Int) => []) (0) ?_ rfl rfl (fun b hI3 => ?_)
    · exact ⟨Int.le_refl _, by omega, hI13⟩
    obtain ⟨hI31, hI32, hI33⟩ := hI3
    refine G_seq ?_
    refine G_region ?_
    refine GL_step rfl (PS_lss rfl rfl) ?_
    refine GL_nil ?_
    refine GQ_then ?_
    refine G_seq ?_
    refine G_cond rfl (fun c4 => ?_) (fun c4 => ?_)
    · skip
      have c4p := c4
      try simp only [decide_eq_true_eq, decide_eq_false_iff_not, Bool.not_eq_true', Bool.not_eq_false', Bool.or_eq_true, Bool.and_eq_true, Bool.or_eq_false_iff, Bool.and_eq_false_iff, Int.not_lt, Int.not_le] at c4p
      rw [allFrom_step _ (by omega)] at hI33
      refine G_skip ?_
      refine GQ_sub (.cons (k := 1) rfl (.cons (k := 40) rfl (.cons (k := 41) rfl (.nil _)))) ?_
      refine GQ_then ?_
      refine G_seq ?_
      refine G_block ?_
      refine G_seq ?_
      refine G_region ?_
      refine GL_step rfl (PS_indexAA Being.fl Try.underlying52 tya51 rfl rfl (by omega) (by omega)) ?_
      refine GL_alloc rfl zv51 rfl (fun b3 => ?_)
      refine GL_unit (PU_store (Lens.id Being.fl.len Being.fl.one) rfl rfl rfl sz51 rfl .head) ?_
      refine GL_nil ?_
      refine GQ_sub (.cons (k := 1) rfl (.cons (k := 8) rfl (.cons (k := 40) rfl (.cons (k := 41) rfl (.nil _))))) ?_
      refine GQ_then ?_
      refine G_seq ?_
      refine G_region ?_
      refine GL_step rfl (PS_fieldAddr fa51_3 rfl) ?_
      refine GL_step rfl (PS_load rfl tys3 (.head _) Being.l3 rfl rfl) ?_
      refine GL_step rfl (PS_lss rfl rfl) ?_
      refine GL_step rfl (PS_move rfl) ?_
      refine GL_gf (t := 47) rfl rfl rfl (fun q => PS_fieldAddr fa51_3 rfl) ?_
      refine GL_gf (t := 47) rfl rfl rfl (fun q => PS_load (cvE rfl (by rw [q]; rfl)) tys3 (.head _) Being.l3 rfl rfl) ?_
      refine GL_gf (t := 47) rfl rfl rfl (fun q => PS_geq (cvE rfl (by rw [q]; rfl)) rfl) ?_
      refine GL_step rfl (PS_or rfl rfl (fun h => by rw [h]; rfl)) ?_
      refine GL_step rfl (PS_move rfl) ?_
      refine GL_gf (t := 52) rfl rfl rfl (fun q => PS_fieldAddr fa51_4 rfl) ?_
      refine GL_gf (t := 52) rfl rfl rfl (fun q => PS_load (cvE rfl (by rw [q]; rfl)) tys3 (.head _) Being.l4 rfl rfl) ?_
      refine GL_gf (t := 52) rfl rfl rfl (fun q => PS_lss (cvE rfl (by rw [q]; rfl)) rfl) ?_
      refine GL_step rfl (PS_or rfl rfl (fun h => by rw [h]; rfl)) ?_
      refine GL_step rfl (PS_move rfl) ?_
      refine GL_gf (t := 57) rfl rfl rfl (fun q => PS_fieldAddr fa51_4 rfl) ?_
      refine GL_gf (t := 57) rfl rfl rfl (fun q => PS_load (cvE rfl (by rw [q]; rfl)) tys3 (.head _) Being.l4 rfl rfl) ?_
      refine GL_gf (t := 57) rfl rfl rfl (fun q => PS_gtr (cvE rfl (by rw [q]; rfl)) rfl) ?_
      refine GL_step rfl (PS_or rfl rfl (fun h => by rw [h]; rfl)) ?_
      refine GL_step rfl (PS_move rfl) ?_
      refine GL_gf (t := 62) rfl rfl rfl (fun q => PS_fieldAddr fa51_5 rfl) ?_
      refine GL_gf (t := 62) rfl rfl rfl (fun q => PS_load (cvE rfl (by rw [q]; rfl)) tys3 (.head _) Being.l5 rfl rfl) ?_
      refine GL_gf (t := 62) rfl rfl rfl (fun q => PS_lss (cvE rfl (by rw [q]; rfl)) rfl) ?_
      refine GL_step rfl (PS_or rfl rfl (fun h => by rw [h]; rfl)) ?_
      refine GL_step rfl (PS_move rfl) ?_
      refine GL_gf (t := 67) rfl rfl rfl (fun q => PS_fieldAddr fa51_5 rfl) ?_
      refine GL_gf (t := 67) rfl rfl rfl (fun q => PS_load (cvE rfl (by rw [q]; rfl)) tys3 (.head _) Being.l5 rfl rfl) ?_
      refine GL_gf (t := 67) rfl rfl rfl (fun q => PS_gtr (cvE rfl (by rw [q]; rfl)) rfl) ?_
      refine GL_step rfl (PS_or rfl rfl (fun h => by rw [h]; rfl)) ?_
      refine GL_step rfl (PS_move rfl) ?_
      refine GL_gf (t := 72) rfl rfl rfl (fun q => PS_fieldAddr fa51_1 rfl) ?_
      refine GL_gf (t := 72) rfl rfl rfl (fun q => PS_load (cvE rfl (by rw [q]; rfl)) tys4 (.head _) Being.l1 rfl rfl) ?_
      refine GL_gf (t := 72) rfl rfl rfl (fun q => PS_not (cvE rfl (by rw [q]; rfl))) ?_
      refine GL_gf (t := 72) rfl rfl rfl (fun q => PS_move (cvE rfl (by rw [q]; rfl))) ?_
      refine GL_gtc (t := 76) rfl rfl rfl (fun qc q => PS_fieldAddr fa51_5 rfl) ?_
      refine GL_gtc (t := 76) rfl rfl rfl (fun qc q => PS_load (cvE rfl (by rw [qc, q]; rfl)) tys3 (.head _) Being.l5 rfl rfl) ?_
      refine GL_gtc (t := 76) rfl rfl rfl (fun qc q => PS_neq (cvE rfl (by rw [qc, q]; rfl)) rfl) ?_
      refine GL_gf (t := 72) rfl rfl rfl (fun q => PS_and (cvE rfl (by rw [q]; rfl)) rfl (fun h => by rw [q, h]; rfl)) ?_
      refine GL_step rfl (PS_or rfl rfl (fun h => by rw [h]; rfl)) ?_
      refine GL_step rfl (PS_move rfl) ?_
      refine GL_gf (t := 82) rfl rfl rfl (fun q => PS_fieldAddr fa51_1 rfl) ?_
      refine GL_gf (t := 82) rfl rfl rfl (fun q => PS_load (cvE rfl (by rw [q]; rfl)) tys4 (.head _) Being.l1 rfl rfl) ?_
      refine GL_gf (t := 82) rfl rfl rfl (fun q => PS_fieldAddr fa51_4 rfl) ?_
      refine GL_gf (t := 82) rfl rfl rfl (fun q => PS_load (cvE rfl (by rw [q]; rfl)) tys3 (.head _) Being.l4 rfl rfl) ?_
      refine GL_gf (t := 82) rfl rfl rfl (fun q => PS_gtr (cvE rfl (by rw [q]; rfl)) rfl) ?_
      refine GL_gf (t := 82) rfl rfl rfl (fun q => PS_neq_bool Try.underlying4 (cvE rfl (by rw [q]; rfl)) (cvE rfl (by rw [q]; rfl))) ?_
      refine GL_step rfl (PS_or rfl rfl (fun h => by rw [h]; rfl)) ?_
      refine GL_nil ?_
      refine GQ_sub (.cons (k := 1) rfl (.cons (k := 40) rfl (.cons (k := 41) rfl (.cons (k := 89) rfl (.nil _))))) ?_
      refine GQ_then ?_
      refine G_cond rfl (fun c5 => ?_) (fun c5 => ?_)
      · skip
        have c5p := c5
        try simp only [decide_eq_true_eq, decide_eq_false_iff_not, Bool.not_eq_true', Bool.not_eq_false', Bool.or_eq_true, Bool.and_eq_true, Bool.or_eq_false_iff, Bool.and_eq_false_iff, Int.not_lt, Int.not_le] at c5p
        refine G_seq ?_
        refine G_region ?_
        refine GL_step rfl (PS_assign rfl) ?_
        refine GL_nil ?_
        refine GQ_sub (.cons (k := 2) rfl (.nil _)) ?_
        refine GQ_then ?_
        refine G_ret ?_
        refine GQ_block_ret ?_
        refine GQ_then_ret ?_
        refine GQ_then_ret ?_
        refine GQ_block_ret ?_
        refine GQ_then_ret ?_
        refine GQ_ret rfl (.tmp rfl .nil) ?_
        intro w1 hS; refine ⟨congrArg Value.bool ?_, hS.toKeep⟩; rw [hI33, Land.badBeing, c5]; rfl
      · skip
        have c5p := c5
        try simp only [decide_eq_true_eq, decide_eq_false_iff_not, Bool.not_eq_true', Bool.not_eq_false', Bool.or_eq_true, Bool.and_eq_true, Bool.or_eq_false_iff, Bool.and_eq_false_iff, Int.not_lt, Int.not_le] at c5p
        refine G_skip ?_
        refine GQ_sub (.cons (k := 1) rfl (.cons (k := 40) rfl (.cons (k := 41) rfl (.nil _)))) ?_
        refine GQ_block ?_
        refine GQ_then ?_
        refine G_region ?_
        refine GL_step rfl (PS_add rfl rfl (IntWalk.i64_in _ (by omega))) ?_
        refine GL_step rfl (PS_move rfl) ?_
        refine GL_nil ?_
        refine GQ_sub (.cons (k := 1) rfl (.cons (k := 40) rfl (.cons (k := 41) rfl (.nil _)))) ?_
        refine GQ_next1_ (b + 1) ?_ ?_ (.cons (k := 41) rfl (.cons (k := 1) rfl (.cons (k := 40) rfl (.nil _)))) (.cons _ (.refl _))
        · exact ⟨by omega, by omega, by rw [hI33, Land.badBeing, c5]; rfl⟩
        · omega
    · skip
      have c4p := c4
      try simp only [decide_eq_true_eq, decide_eq_false_iff_not, Bool.not_eq_true', Bool.not_eq_false', Bool.or_eq_true, Bool.and_eq_true, Bool.or_eq_false_iff, Bool.and_eq_false_iff, Int.not_lt, Int.not_le] at c4p
      obtain rfl : b = 6 := by omega
      refine G_exit ?_
      refine GQ_then_exit ?_
      refine GQ_then_exit ?_
      refine GQ_block_exit ?_
      refine GQ_sub (.cons (k := 1) rfl (.nil _)) ?_
      refine GQ_then ?_
      refine G_seq ?_
      refine G_seq ?_
      refine G_region ?_
      refine GL_step rfl (PS_move rfl) ?_
      refine GL_nil ?_
      refine GQ_then ?_
      refine G_block ?_
      refine G_subF (.cons (k := 91) rfl (.cons (k := 1) rfl (.nil _))) ?_
      refine G_loop1_ (fun (t : Int) => 0 ≤ t ∧ t ≤ 9 ∧ X.good = allFrom 9 X.goodThing (9 - t).toNat) (fun (t : Int) => (9 - t).toNat) (fun (t : Int) => [(91, .int .i64 t)]) (fun (t : Int) => []) (0) ?_ rfl rfl (fun t hI4 => ?_)
      · exact ⟨Int.le_refl _, by omega, hI33⟩
      obtain ⟨hI41, hI42, hI43⟩ := hI4
      refine G_seq ?_
      refine G_region ?_
      refine GL_step rfl (PS_lss rfl rfl) ?_
      refine GL_nil ?_
      refine GQ_then ?_
      refine G_seq ?_
      refine G_cond rfl (fun c6 => ?_) (fun c6 => ?_)
      · skip
        have c6p := c6
        try simp only [decide_eq_true_eq, decide_eq_false_iff_not, Bool.not_eq_true', Bool.not_eq_false', Bool.or_eq_true, Bool.and_eq_true, Bool.or_eq_false_iff, Bool.and_eq_false_iff, Int.not_lt, Int.not_le] at c6p
        rw [allFrom_step _ (by omega)] at hI43
        refine G_skip ?_
        refine GQ_sub (.cons (k := 1) rfl (.cons (k := 91) rfl (.nil _))) ?_
        refine GQ_then ?_
        refine G_seq ?_
        refine G_block ?_
        refine G_seq ?_
        refine G_region ?_
        refine GL_step rfl (PS_move rfl) ?_
        refine GL_step rfl (PS_assign rfl) ?_
        refine GL_nil ?_
        refine GQ_sub (.cons (k := 1) rfl (.cons (k := 9) rfl (.cons (k := 91) rfl (.nil _)))) ?_
        refine GQ_then ?_
        refine G_seq ?_
        refine G_region ?_
        refine GL_step rfl (PS_loadA rfl tya54 (.head _) (Lens.id Land.fl.len Land.fl.one) rfl) ?_
        refine GL_step rfl (PS_move rfl) ?_
        refine GL_pure rfl cf55 (.cons rfl (.cons rfl .nil)) (fun w hS => land_goodThing_spec X _ (by omega) (by omega) w) ?_
        refine GL_step rfl (PS_not rfl) ?_
        refine GL_nil ?_
        refine GQ_sub (.cons (k := 1) rfl (.cons (k := 91) rfl (.cons (k := 97) rfl (.nil _)))) ?_
        refine GQ_then ?_
        refine G_cond rfl (fun c7 => ?_) (fun c7 => ?_)
        · skip
          have c7p := c7
          try simp only [decide_eq_true_eq, decide_eq_false_iff_not, Bool.not_eq_true', Bool.not_eq_false', Bool.or_eq_true, Bool.and_eq_true, Bool.or_eq_false_iff, Bool.and_eq_false_iff, Int.not_lt, Int.not_le] at c7p
          refine G_seq ?_
          refine G_region ?_
          refine GL_step rfl (PS_assign rfl) ?_
          refine GL_nil ?_
          refine GQ_sub (.cons (k := 2) rfl (.nil _)) ?_
          refine GQ_then ?_
          refine G_ret ?_
          refine GQ_block_ret ?_
          refine GQ_then_ret ?_
          refine GQ_then_ret ?_
          refine GQ_block_ret ?_
          refine GQ_then_ret ?_
          refine GQ_ret rfl (.tmp rfl .nil) ?_
          intro w1 hS; refine ⟨congrArg Value.bool ?_, hS.toKeep⟩; rw [hI43, show X.goodThing t = false by simpa using c7]; rfl
        · skip
          have c7p := c7
          try simp only [decide_eq_true_eq, decide_eq_false_iff_not, Bool.not_eq_true', Bool.not_eq_false', Bool.or_eq_true, Bool.and_eq_true, Bool.or_eq_false_iff, Bool.and_eq_false_iff, Int.not_lt, Int.not_le] at c7p
          refine G_skip ?_
          refine GQ_sub (.cons (k := 1) rfl (.cons (k := 91) rfl (.nil _))) ?_
          refine GQ_block ?_
          refine GQ_then ?_
          refine G_region ?_
          refine GL_step rfl (PS_add rfl rfl (IntWalk.i64_in _ (by omega))) ?_
          refine GL_step rfl (PS_move rfl) ?_
          refine GL_nil ?_
          refine GQ_sub (.cons (k := 1) rfl (.cons (k := 91) rfl (.nil _))) ?_
          refine GQ_next1_ (t + 1) ?_ ?_ (.cons (k := 91) rfl (.cons (k := 1) rfl (.nil _))) (.refl _)
          · exact ⟨by omega, by omega, by rw [hI43, show X.goodThing t = true by simpa using c7]; rfl⟩
          · omega
      · skip
        have c6p := c6
        try simp only [decide_eq_true_eq, decide_eq_false_iff_not, Bool.not_eq_true', Bool.not_eq_false', Bool.or_eq_true, Bool.and_eq_true, Bool.or_eq_false_iff, Bool.and_eq_false_iff, Int.not_lt, Int.not_le] at c6p
        obtain rfl : t = 9 := by omega
        refine G_exit ?_
        refine GQ_then_exit ?_
        refine GQ_then_exit ?_
        refine GQ_block_exit ?_
        refine GQ_sub (.nil _) ?_
        refine GQ_then ?_
        refine G_seq ?_
        refine G_region ?_
        refine GL_step rfl (PS_assign rfl) ?_
        refine GL_nil ?_
        refine GQ_then ?_
        refine G_ret ?_
        refine GQ_ret rfl (.tmp rfl .nil) ?_
        intro w1 hS; refine ⟨congrArg Value.bool ?_, hS.toKeep⟩; rw [hI43]; rfl
theorem ref_GoodLand_spec (X : Land) (w : World) : Ret Try.prog 32 #[.agg X.enc.toArray] w fun v w' => v = .bool X.refGood ∧ Keep w w' := by
  refine Ret_body [] [] Try.func32 rfl rfl rfl (St.start w []) ?_
  refine G_seq ?_
  refine G_region ?_
  refine GL_box rfl rfl rfl (fun b1 => ?_)
  refine GL_step rfl (PS_assign rfl) ?_
  refine GL_nil ?_
  refine GQ_sub (.cons (k := 1) rfl (.nil _)) ?_
  refine GQ_then ?_
  refine G_seq ?_
  refine G_seq ?_
  refine G_region ?_
  refine GL_step rfl (PS_fieldAddr fa54_0 rfl) ?_
  refine GL_step rfl (PS_loadA rfl tya46 (.head _) Land.l0 rfl) ?_
  refine GL_step rfl (PS_move rfl) ?_
  refine GL_nil ?_
  refine GQ_sub (.cons (k := 1) rfl (.cons (k := 15) rfl (.cons (k := 16) rfl (.nil _)))) ?_
  refine GQ_then ?_
  refine G_block ?_
  refine G_subF (.cons (k := 16) rfl (.cons (k := 1) rfl (.cons (k := 15) rfl (.nil _)))) ?_
  refine G_loop1_ (fun (k : Int) => 0 ≤ k ∧ k ≤ 6 ∧ X.refGood = (allFrom 6 X.refRoom (6 - k).toNat && (allFrom 6 (fun k => !Land.refBadBeing (X.beings.at k)) 6 && allFrom 9 X.refThing 9))) (fun (k : Int) => (6 - k).toNat) (fun (k : Int) => [(16, .int .i64 k)]) (fun (k : Int) => []) (0) ?_ rfl rfl (fun k hI1 => ?_)
  · exact ⟨Int.le_refl _, by omega, rfl⟩
  obtain ⟨hI11, hI12, hI13⟩ := hI1
  refine G_seq ?_
  refine G_region ?_
  refine GL_step rfl (PS_lss rfl rfl) ?_
  refine GL_nil ?_
  refine GQ_then ?_
  refine G_seq ?_
  refine G_cond rfl (fun c1 => ?_) (fun c1 => ?_)
  · skip
    have c1p := c1
    try simp only [decide_eq_true_eq, decide_eq_false_iff_not, Bool.not_eq_true', Bool.not_eq_false', Bool.or_eq_true, Bool.and_eq_true, Bool.or_eq_false_iff, Bool.and_eq_false_iff, Int.not_lt, Int.not_le] at c1p
    rw [allFrom_step _ (by omega)] at hI13
    refine G_skip ?_
    refine GQ_sub (.cons (k := 1) rfl (.cons (k := 15) rfl (.cons (k := 16) rfl (.nil _)))) ?_
    refine GQ_then ?_
    refine G_seq ?_
    refine G_block ?_
    refine G_seq ?_
    refine G_region ?_
    refine GL_step rfl (PS_indexAA Room.fl Try.underlying46 tya45 rfl rfl (by omega) (by omega)) ?_
    refine GL_alloc rfl zv45 rfl (fun b2 => ?_)
    refine GL_unit (PU_store (Lens.id Room.fl.len Room.fl.one) rfl rfl rfl sz45 rfl .head) ?_
    refine GL_nil ?_
    refine GQ_sub (.cons (k := 1) rfl (.cons (k := 4) rfl (.cons (k := 15) rfl (.cons (k := 16) rfl (.nil _))))) ?_
    refine GQ_then ?_
    refine G_seq ?_
    refine G_region ?_
    refine GL_step rfl (PS_move rfl) ?_
    refine GL_nil ?_
    refine GQ_then ?_
    refine G_block ?_
    refine G_subF (.cons (k := 19) rfl (.cons (k := 1) rfl (.cons (k := 4) rfl (.cons (k := 15) rfl (.cons (k := 16) rfl (.nil _)))))) ?_
    refine G_loop1_ (fun (d : Int) => 0 ≤ d ∧ d ≤ 6 ∧ X.refRoom k = allFrom 6 (fun d => !Land.refBadExit (X.rooms.at k) d) (6 - d).toNat) (fun (d : Int) => (6 - d).toNat) (fun (d : Int) => [(19, .int .i64 d)]) (fun (d : Int) => []) (0) ?_ rfl rfl (fun d hI2 => ?_)
    · exact ⟨Int.le_refl _, by omega, rfl⟩
    obtain ⟨hI21, hI22, hI23⟩ := hI2
    refine G_seq ?_
    refine G_region ?_
    refine GL_step rfl (PS_lss rfl rfl) ?_
    refine GL_nil ?_
    refine GQ_then ?_
    refine G_seq ?_
    refine G_cond rfl (fun c2 => ?_) (fun c2 => ?_)
    · skip
      have c2p := c2
      try simp only [decide_eq_true_eq, decide_eq_false_iff_not, Bool.not_eq_true', Bool.not_eq_false', Bool.or_eq_true, Bool.and_eq_true, Bool.or_eq_false_iff, Bool.and_eq_false_iff, Int.not_lt, Int.not_le] at c2p
      rw [allFrom_step _ (by omega)] at hI23
      refine G_skip ?_
      refine GQ_sub (.cons (k := 1) rfl (.cons (k := 4) rfl (.cons (k := 15) rfl (.cons (k := 16) rfl (.cons (k := 19) rfl (.nil _)))))) ?_
      refine GQ_then ?_
      refine G_seq ?_
      refine G_block ?_
      refine G_seq ?_
      refine G_region ?_
      refine GL_step rfl (PS_move rfl) ?_
      refine GL_step rfl (PS_assign rfl) ?_
      refine GL_nil ?_
      refine GQ_sub (.cons (k := 1) rfl (.cons (k := 4) rfl (.cons (k := 5) rfl (.cons (k := 15) rfl (.cons (k := 16) rfl (.cons (k := 19) rfl (.nil _))))))) ?_
      refine GQ_then ?_
      refine G_seq ?_
      refine G_region ?_
      refine GL_step rfl (PS_move rfl) ?_
      refine GL_step rfl (PS_fieldAddr fa45_2 rfl) ?_
      refine GL_step rfl (PS_indexAddr ia42 rfl rfl (by omega) (by omega)) ?_
      refine GL_step rfl (PS_load rfl tys3 (.head _) (Room.l2.comp (Lens.arr (n := 6) flI (by omega) (by omega))) rfl rfl) ?_
      refine GL_step rfl (PS_lss rfl rfl) ?_
      refine GL_step rfl (PS_move rfl) ?_
      refine GL_gf (t := 27) rfl rfl rfl (fun q => PS_move rfl) ?_
      refine GL_gf (t := 27) rfl rfl rfl (fun q => PS_fieldAddr fa45_2 rfl) ?_
      refine GL_gf (t := 27) rfl rfl rfl (fun q => by have q1 := q; (try simp at q1); exact PS_indexAddr ia42 (cvE rfl (by rw [q]; rfl)) (cvE rfl (by rw [q]; rfl)) (by omega) (by omega)) ?_
      refine GL_gf (t := 27) rfl rfl rfl (fun q => by have q1 := q; (try simp at q1); exact PS_load (cvE rfl (by rw [q]; rfl)) tys3 (.head _) (Room.l2.comp (Lens.arr (n := 6) flI (by omega) (by omega))) rfl rfl) ?_
      refine GL_gf (t := 27) rfl rfl rfl (fun q => PS_gtr (cvE rfl (by rw [q]; rfl)) rfl) ?_
      refine GL_step rfl (PS_or rfl rfl (fun h => by rw [h]; rfl)) ?_
      refine GL_step rfl (PS_move rfl) ?_
      refine GL_gf (t := 34) rfl rfl rfl (fun q => PS_move rfl) ?_
      refine GL_gf (t := 34) rfl rfl rfl (fun q => PS_fieldAddr fa45_3 rfl) ?_
      refine GL_gf (t := 34) rfl rfl rfl (fun q => by have q1 := q; (try simp at q1); exact PS_indexAddr ia43 (cvE rfl (by rw [q]; rfl)) (cvE rfl (by rw [q]; rfl)) (by omega) (by omega)) ?_
      refine GL_gf (t := 34) rfl rfl rfl (fun q => by have q1 := q; (try simp at q1); exact PS_load (cvE rfl (by rw [q]; rfl)) tys4 (.head _) (Room.l3.comp (Lens.arr (n := 6) flB (by omega) (by omega))) rfl rfl) ?_
      refine GL_gf (t := 34) rfl rfl rfl (fun q => PS_move (cvE rfl (by rw [q]; rfl))) ?_
      refine GL_gtc (t := 39) rfl rfl rfl (fun qc q => PS_move rfl) ?_
      refine GL_gtc (t := 39) rfl rfl rfl (fun qc q => PS_fieldAddr fa45_2 rfl) ?_
      refine GL_gtc (t := 39) rfl rfl rfl (fun qc q => by have q1 := q; have qc1 := qc; (try simp at q1 qc1); exact PS_indexAddr ia42 (cvE rfl (by rw [qc, q]; rfl)) (cvE rfl (by rw [qc, q]; rfl)) (by omega) (by omega)) ?_
      refine GL_gtc (t := 39) rfl rfl rfl (fun qc q => by have q1 := q; have qc1 := qc; (try simp at q1 qc1); exact PS_load (cvE rfl (by rw [qc, q]; rfl)) tys3 (.head _) (Room.l2.comp (Lens.arr (n := 6) flI (by omega) (by omega))) rfl rfl) ?_
      refine GL_gtc (t := 39) rfl rfl rfl (fun qc q => PS_eql (cvE rfl (by rw [qc, q]; rfl)) rfl) ?_
      refine GL_gf (t := 34) rfl rfl rfl (fun q => PS_and (cvE rfl (by rw [q]; rfl)) rfl (fun h => by rw [q, h]; rfl)) ?_
      refine GL_step rfl (PS_or rfl rfl (fun h => by rw [h]; rfl)) ?_
      refine GL_nil ?_
      refine GQ_sub (.cons (k := 1) rfl (.cons (k := 4) rfl (.cons (k := 15) rfl (.cons (k := 16) rfl (.cons (k := 19) rfl (.cons (k := 46) rfl (.nil _))))))) ?_
      refine GQ_then ?_
      refine G_cond rfl (fun c3 => ?_) (fun c3 => ?_)
      · skip
        have c3p := c3
        try simp only [decide_eq_true_eq, decide_eq_false_iff_not, Bool.not_eq_true', Bool.not_eq_false', Bool.or_eq_true, Bool.and_eq_true, Bool.or_eq_false_iff, Bool.and_eq_false_iff, Int.not_lt, Int.not_le] at c3p
        refine G_seq ?_
        refine G_region ?_
        refine GL_step rfl (PS_assign rfl) ?_
        refine GL_nil ?_
        refine GQ_sub (.cons (k := 2) rfl (.nil _)) ?_
        refine GQ_then ?_
        refine G_ret ?_
        refine GQ_block_ret ?_
        refine GQ_then_ret ?_
        refine GQ_then_ret ?_
        refine GQ_block_ret ?_
        refine GQ_block_ret ?_
        refine GQ_then_ret ?_
        refine GQ_then_ret ?_
        refine GQ_block_ret ?_
        refine GQ_then_ret ?_
        refine GQ_ret rfl (.tmp rfl .nil) ?_
        intro w1 hS; refine ⟨congrArg Value.bool ?_, hS.toKeep⟩; rw [hI13, hI23, Land.refBadExit, c3]; rfl
      · skip
        have c3p := c3
        try simp only [decide_eq_true_eq, decide_eq_false_iff_not, Bool.not_eq_true', Bool.not_eq_false', Bool.or_eq_true, Bool.and_eq_true, Bool.or_eq_false_iff, Bool.and_eq_false_iff, Int.not_lt, Int.not_le] at c3p
        refine G_skip ?_
        refine GQ_sub (.cons (k := 1) rfl (.cons (k := 4) rfl (.cons (k := 15) rfl (.cons (k := 16) rfl (.cons (k := 19) rfl (.nil _)))))) ?_
        refine GQ_block ?_
        refine GQ_then ?_
        refine G_region ?_
        refine GL_step rfl (PS_add rfl rfl (IntWalk.i64_in _ (by omega))) ?_
        refine GL_step rfl (PS_move rfl) ?_
        refine GL_nil ?_
        refine GQ_sub (.cons (k := 1) rfl (.cons (k := 4) rfl (.cons (k := 15) rfl (.cons (k := 16) rfl (.cons (k := 19) rfl (.nil _)))))) ?_
        refine GQ_next1_ (d + 1) ?_ ?_ (.cons (k := 19) rfl (.cons (k := 1) rfl (.cons (k := 4) rfl (.cons (k := 15) rfl (.cons (k := 16) rfl (.nil _)))))) (.refl _)
        · exact ⟨by omega, by omega, by rw [hI23, Land.refBadExit, c3]; rfl⟩
        · omega
    · skip
      have c2p := c2
      try simp only [decide_eq_true_eq, decide_eq_false_iff_not, Bool.not_eq_true', Bool.not_eq_false', Bool.or_eq_true, Bool.and_eq_true, Bool.or_eq_false_iff, Bool.and_eq_false_iff, Int.not_lt, Int.not_le] at c2p
      obtain rfl : d = 6 := by omega
      refine G_exit ?_
      refine GQ_then_exit ?_
      refine GQ_then_exit ?_
      refine GQ_block_exit ?_
      refine GQ_sub (.cons (k := 1) rfl (.cons (k := 15) rfl (.cons (k := 16) rfl (.nil _)))) ?_
      refine GQ_block ?_
      refine GQ_then ?_
      refine G_region ?_
      refine GL_step rfl (PS_add rfl rfl (IntWalk.i64_in _ (by omega))) ?_
      refine GL_step rfl (PS_move rfl) ?_
      refine GL_nil ?_
      refine GQ_sub (.cons (k := 1) rfl (.cons (k := 15) rfl (.cons (k := 16) rfl (.nil _)))) ?_
      refine GQ_next1_ (k + 1) ?_ ?_ (.cons (k := 16) rfl (.cons (k := 1) rfl (.cons (k := 15) rfl (.nil _)))) (.cons _ (.refl _))
      · exact ⟨by omega, by omega, by rw [hI13, hI23]; rfl⟩
      · omega
  · skip
    have c1p := c1
    try simp only [decide_eq_true_eq, decide_eq_false_iff_not, Bool.not_eq_true', Bool.not_eq_false', Bool.or_eq_true, Bool.and_eq_true, Bool.or_eq_false_iff, Bool.and_eq_false_iff, Int.not_lt, Int.not_le] at c1p
    obtain rfl : k = 6 := by omega
    refine G_exit ?_
    refine GQ_then_exit ?_
    refine GQ_then_exit ?_
    refine GQ_block_exit ?_
    refine GQ_sub (.cons (k := 1) rfl (.nil _)) ?_
    refine GQ_then ?_
    refine G_seq ?_
    refine G_seq ?_
    refine G_region ?_
    refine GL_step rfl (PS_fieldAddr fa54_2 rfl) ?_
    refine GL_step rfl (PS_loadA rfl tya52 (.head _) Land.l2 rfl) ?_
    refine GL_step rfl (PS_move rfl) ?_
    refine GL_nil ?_
    refine GQ_sub (.cons (k := 1) rfl (.cons (k := 50) rfl (.cons (k := 51) rfl (.nil _)))) ?_
    refine GQ_then ?_
    refine G_block ?_
    refine G_subF (.cons (k := 51) rfl (.cons (k := 1) rfl (.cons (k := 50) rfl (.nil _)))) ?_
    refine G_loop1_ (fun (b : Int) => 0 ≤ b ∧ b ≤ 6 ∧ X.refGood = (allFrom 6 (fun k => !Land.refBadBeing (X.beings.at k)) (6 - b).toNat && allFrom 9 X.refThing 9)) (fun (b : Int) => (6 - b).toNat) (fun (b : Int) => [(51, .int .i64 b)]) (fun (b : Int) => []) (0) ?_ rfl rfl (fun b hI3 => ?_)
    · exact ⟨Int.le_refl _, by omega, hI13⟩
    obtain ⟨hI31, hI32, hI33⟩ := hI3
    refine G_seq ?_
    refine G_region ?_
    refine GL_step rfl (PS_lss rfl rfl) ?_
    refine GL_nil ?_
    refine GQ_then ?_
    refine G_seq ?_
    refine G_cond rfl (fun c4 => ?_) (fun c4 => ?_)
    · skip
      have c4p := c4
      try simp only [decide_eq_true_eq, decide_eq_false_iff_not, Bool.not_eq_true', Bool.not_eq_false', Bool.or_eq_true, Bool.and_eq_true, Bool.or_eq_false_iff, Bool.and_eq_false_iff, Int.not_lt, Int.not_le] at c4p
      rw [allFrom_step _ (by omega)] at hI33
      refine G_skip ?_
      refine GQ_sub (.cons (k := 1) rfl (.cons (k := 50) rfl (.cons (k := 51) rfl (.nil _)))) ?_
      refine GQ_then ?_
      refine G_seq ?_
      refine G_block ?_
      refine G_seq ?_
      refine G_region ?_
      refine GL_step rfl (PS_indexAA Being.fl Try.underlying52 tya51 rfl rfl (by omega) (by omega)) ?_
      refine GL_alloc rfl zv51 rfl (fun b3 => ?_)
      refine GL_unit (PU_store (Lens.id Being.fl.len Being.fl.one) rfl rfl rfl sz51 rfl .head) ?_
      refine GL_nil ?_
      refine GQ_sub (.cons (k := 1) rfl (.cons (k := 7) rfl (.cons (k := 50) rfl (.cons (k := 51) rfl (.nil _))))) ?_
      refine GQ_then ?_
      refine G_seq ?_
      refine G_region ?_
      refine GL_step rfl (PS_fieldAddr fa51_3 rfl) ?_
      refine GL_step rfl (PS_load rfl tys3 (.head _) Being.l3 rfl rfl) ?_
      refine GL_step rfl (PS_lss rfl rfl) ?_
      refine GL_step rfl (PS_move rfl) ?_
      refine GL_gf (t := 57) rfl rfl rfl (fun q => PS_fieldAddr fa51_3 rfl) ?_
      refine GL_gf (t := 57) rfl rfl rfl (fun q => PS_load (cvE rfl (by rw [q]; rfl)) tys3 (.head _) Being.l3 rfl rfl) ?_
      refine GL_gf (t := 57) rfl rfl rfl (fun q => PS_gtr (cvE rfl (by rw [q]; rfl)) rfl) ?_
      refine GL_step rfl (PS_or rfl rfl (fun h => by rw [h]; rfl)) ?_
      refine GL_step rfl (PS_move rfl) ?_
      refine GL_gf (t := 62) rfl rfl rfl (fun q => PS_fieldAddr fa51_4 rfl) ?_
      refine GL_gf (t := 62) rfl rfl rfl (fun q => PS_load (cvE rfl (by rw [q]; rfl)) tys3 (.head _) Being.l4 rfl rfl) ?_
      refine GL_gf (t := 62) rfl rfl rfl (fun q => PS_lss (cvE rfl (by rw [q]; rfl)) rfl) ?_
      refine GL_step rfl (PS_or rfl rfl (fun h => by rw [h]; rfl)) ?_
      refine GL_step rfl (PS_move rfl) ?_
      refine GL_gf (t := 67) rfl rfl rfl (fun q => PS_fieldAddr fa51_4 rfl) ?_
      refine GL_gf (t := 67) rfl rfl rfl (fun q => PS_load (cvE rfl (by rw [q]; rfl)) tys3 (.head _) Being.l4 rfl rfl) ?_
      refine GL_gf (t := 67) rfl rfl rfl (fun q => PS_gtr (cvE rfl (by rw [q]; rfl)) rfl) ?_
      refine GL_step rfl (PS_or rfl rfl (fun h => by rw [h]; rfl)) ?_
      refine GL_step rfl (PS_move rfl) ?_
      refine GL_gf (t := 72) rfl rfl rfl (fun q => PS_fieldAddr fa51_5 rfl) ?_
      refine GL_gf (t := 72) rfl rfl rfl (fun q => PS_load (cvE rfl (by rw [q]; rfl)) tys3 (.head _) Being.l5 rfl rfl) ?_
      refine GL_gf (t := 72) rfl rfl rfl (fun q => PS_lss (cvE rfl (by rw [q]; rfl)) rfl) ?_
      refine GL_step rfl (PS_or rfl rfl (fun h => by rw [h]; rfl)) ?_
      refine GL_step rfl (PS_move rfl) ?_
      refine GL_gf (t := 77) rfl rfl rfl (fun q => PS_fieldAddr fa51_5 rfl) ?_
      refine GL_gf (t := 77) rfl rfl rfl (fun q => PS_load (cvE rfl (by rw [q]; rfl)) tys3 (.head _) Being.l5 rfl rfl) ?_
      refine GL_gf (t := 77) rfl rfl rfl (fun q => PS_gtr (cvE rfl (by rw [q]; rfl)) rfl) ?_
      refine GL_step rfl (PS_or rfl rfl (fun h => by rw [h]; rfl)) ?_
      refine GL_step rfl (PS_move rfl) ?_
      refine GL_gf (t := 82) rfl rfl rfl (fun q => PS_fieldAddr fa51_1 rfl) ?_
      refine GL_gf (t := 82) rfl rfl rfl (fun q => PS_load (cvE rfl (by rw [q]; rfl)) tys4 (.head _) Being.l1 rfl rfl) ?_
      refine GL_gf (t := 82) rfl rfl rfl (fun q => PS_fieldAddr fa51_4 rfl) ?_
      refine GL_gf (t := 82) rfl rfl rfl (fun q => PS_load (cvE rfl (by rw [q]; rfl)) tys3 (.head _) Being.l4 rfl rfl) ?_
      refine GL_gf (t := 82) rfl rfl rfl (fun q => PS_neq (cvE rfl (by rw [q]; rfl)) rfl) ?_
      refine GL_gf (t := 82) rfl rfl rfl (fun q => PS_neq_bool Try.underlying4 (cvE rfl (by rw [q]; rfl)) (cvE rfl (by rw [q]; rfl))) ?_
      refine GL_step rfl (PS_or rfl rfl (fun h => by rw [h]; rfl)) ?_
      refine GL_step rfl (PS_move rfl) ?_
      refine GL_gf (t := 90) rfl rfl rfl (fun q => PS_fieldAddr fa51_1 rfl) ?_
      refine GL_gf (t := 90) rfl rfl rfl (fun q => PS_load (cvE rfl (by rw [q]; rfl)) tys4 (.head _) Being.l1 rfl rfl) ?_
      refine GL_gf (t := 90) rfl rfl rfl (fun q => PS_not (cvE rfl (by rw [q]; rfl))) ?_
      refine GL_gf (t := 90) rfl rfl rfl (fun q => PS_move (cvE rfl (by rw [q]; rfl))) ?_
      refine GL_gtc (t := 94) rfl rfl rfl (fun qc q => PS_fieldAddr fa51_5 rfl) ?_
      refine GL_gtc (t := 94) rfl rfl rfl (fun qc q => PS_load (cvE rfl (by rw [qc, q]; rfl)) tys3 (.head _) Being.l5 rfl rfl) ?_
      refine GL_gtc (t := 94) rfl rfl rfl (fun qc q => PS_neq (cvE rfl (by rw [qc, q]; rfl)) rfl) ?_
      refine GL_gf (t := 90) rfl rfl rfl (fun q => PS_and (cvE rfl (by rw [q]; rfl)) rfl (fun h => by rw [q, h]; rfl)) ?_
      refine GL_step rfl (PS_or rfl rfl (fun h => by rw [h]; rfl)) ?_
      refine GL_nil ?_
      refine GQ_sub (.cons (k := 1) rfl (.cons (k := 50) rfl (.cons (k := 51) rfl (.cons (k := 99) rfl (.nil _))))) ?_
      refine GQ_then ?_
      refine G_cond rfl (fun c5 => ?_) (fun c5 => ?_)
      · skip
        have c5p := c5
        try simp only [decide_eq_true_eq, decide_eq_false_iff_not, Bool.not_eq_true', Bool.not_eq_false', Bool.or_eq_true, Bool.and_eq_true, Bool.or_eq_false_iff, Bool.and_eq_false_iff, Int.not_lt, Int.not_le] at c5p
        refine G_seq ?_
        refine G_region ?_
        refine GL_step rfl (PS_assign rfl) ?_
        refine GL_nil ?_
        refine GQ_sub (.cons (k := 2) rfl (.nil _)) ?_
        refine GQ_then ?_
        refine G_ret ?_
        refine GQ_block_ret ?_
        refine GQ_then_ret ?_
        refine GQ_then_ret ?_
        refine GQ_block_ret ?_
        refine GQ_then_ret ?_
        refine GQ_ret rfl (.tmp rfl .nil) ?_
        intro w1 hS; refine ⟨congrArg Value.bool ?_, hS.toKeep⟩; rw [hI33, Land.refBadBeing, c5]; rfl
      · skip
        have c5p := c5
        try simp only [decide_eq_true_eq, decide_eq_false_iff_not, Bool.not_eq_true', Bool.not_eq_false', Bool.or_eq_true, Bool.and_eq_true, Bool.or_eq_false_iff, Bool.and_eq_false_iff, Int.not_lt, Int.not_le] at c5p
        refine G_skip ?_
        refine GQ_sub (.cons (k := 1) rfl (.cons (k := 50) rfl (.cons (k := 51) rfl (.nil _)))) ?_
        refine GQ_block ?_
        refine GQ_then ?_
        refine G_region ?_
        refine GL_step rfl (PS_add rfl rfl (IntWalk.i64_in _ (by omega))) ?_
        refine GL_step rfl (PS_move rfl) ?_
        refine GL_nil ?_
        refine GQ_sub (.cons (k := 1) rfl (.cons (k := 50) rfl (.cons (k := 51) rfl (.nil _)))) ?_
        refine GQ_next1_ (b + 1) ?_ ?_ (.cons (k := 51) rfl (.cons (k := 1) rfl (.cons (k := 50) rfl (.nil _)))) (.cons _ (.refl _))
        · exact ⟨by omega, by omega, by rw [hI33, Land.refBadBeing, c5]; rfl⟩
        · omega
    · skip
      have c4p := c4
      try simp only [decide_eq_true_eq, decide_eq_false_iff_not, Bool.not_eq_true', Bool.not_eq_false', Bool.or_eq_true, Bool.and_eq_true, Bool.or_eq_false_iff, Bool.and_eq_false_iff, Int.not_lt, Int.not_le] at c4p
      obtain rfl : b = 6 := by omega
      refine G_exit ?_
      refine GQ_then_exit ?_
      refine GQ_then_exit ?_
      refine GQ_block_exit ?_
      refine GQ_sub (.cons (k := 1) rfl (.nil _)) ?_
      refine GQ_then ?_
      refine G_seq ?_
      refine G_seq ?_
      refine G_region ?_
      refine GL_step rfl (PS_fieldAddr fa54_1 rfl) ?_
      refine GL_step rfl (PS_loadA rfl tya49 (.head _) Land.l1 rfl) ?_
      refine GL_step rfl (PS_move rfl) ?_
      refine GL_nil ?_
      refine GQ_sub (.cons (k := 1) rfl (.cons (k := 102) rfl (.cons (k := 103) rfl (.nil _)))) ?_
      refine GQ_then ?_
      refine G_block ?_
      refine G_subF (.cons (k := 103) rfl (.cons (k := 1) rfl (.cons (k := 102) rfl (.nil _)))) ?_
      refine G_loop1_ (fun (t : Int) => 0 ≤ t ∧ t ≤ 9 ∧ X.refGood = allFrom 9 X.refThing (9 - t).toNat) (fun (t : Int) => (9 - t).toNat) (fun (t : Int) => [(103, .int .i64 t)]) (fun (t : Int) => []) (0) ?_ rfl rfl (fun t hI4 => ?_)
      · exact ⟨Int.le_refl _, by omega, hI33⟩
      obtain ⟨hI41, hI42, hI43⟩ := hI4
      refine G_seq ?_
      refine G_region ?_
      refine GL_step rfl (PS_lss rfl rfl) ?_
      refine GL_nil ?_
      refine GQ_then ?_
      refine G_seq ?_
      refine G_cond rfl (fun c6 => ?_) (fun c6 => ?_)
      · skip
        have c6p := c6
        try simp only [decide_eq_true_eq, decide_eq_false_iff_not, Bool.not_eq_true', Bool.not_eq_false', Bool.or_eq_true, Bool.and_eq_true, Bool.or_eq_false_iff, Bool.and_eq_false_iff, Int.not_lt, Int.not_le] at c6p
        rw [allFrom_step _ (by omega)] at hI43
        refine G_skip ?_
        refine GQ_sub (.cons (k := 1) rfl (.cons (k := 102) rfl (.cons (k := 103) rfl (.nil _)))) ?_
        refine GQ_then ?_
        refine G_seq ?_
        refine G_block ?_
        refine G_seq ?_
        refine G_region ?_
        refine GL_step rfl (PS_move rfl) ?_
        refine GL_step rfl (PS_indexAA Thing.fl Try.underlying49 tya48 rfl rfl (by omega) (by omega)) ?_
        refine GL_alloc rfl zv48 rfl (fun b4 => ?_)
        refine GL_step rfl (PS_assign rfl) ?_
        refine GL_unit (PU_store (Lens.id Thing.fl.len Thing.fl.one) rfl rfl rfl sz48 rfl .head) ?_
        refine GL_nil ?_
        refine GQ_sub (.cons (k := 1) rfl (.cons (k := 8) rfl (.cons (k := 9) rfl (.cons (k := 102) rfl (.cons (k := 103) rfl (.nil _)))))) ?_
        refine GQ_then ?_
        refine G_seq ?_
        refine G_seq ?_
        refine G_region ?_
        refine GL_step rfl (PS_fieldAddr fa48_1 rfl) ?_
        refine GL_step rfl (PS_load rfl tys3 (.head _) Thing.l1 rfl rfl) ?_
        refine GL_step rfl (PS_lss rfl rfl) ?_
        refine GL_step rfl (PS_move rfl) ?_
        refine GL_gf (t := 110) rfl rfl rfl (fun q => PS_fieldAddr fa48_1 rfl) ?_
        refine GL_gf (t := 110) rfl rfl rfl (fun q => PS_load (cvE rfl (by rw [q]; rfl)) tys3 (.head _) Thing.l1 rfl rfl) ?_
        refine GL_gf (t := 110) rfl rfl rfl (fun q => PS_gtr (cvE rfl (by rw [q]; rfl)) rfl) ?_
        refine GL_step rfl (PS_or rfl rfl (fun h => by rw [h]; rfl)) ?_
        refine GL_step rfl (PS_move rfl) ?_
        refine GL_gf (t := 115) rfl rfl rfl (fun q => PS_fieldAddr fa48_1 rfl) ?_
        refine GL_gf (t := 115) rfl rfl rfl (fun q => PS_load (cvE rfl (by rw [q]; rfl)) tys3 (.head _) Thing.l1 rfl rfl) ?_
        refine GL_gf (t := 115) rfl rfl rfl (fun q => PS_eql (cvE rfl (by rw [q]; rfl)) rfl) ?_
        refine GL_gf (t := 115) rfl rfl rfl (fun q => PS_move (cvE rfl (by rw [q]; rfl))) ?_
        refine GL_gtc (t := 119) rfl rfl rfl (fun qc q => PS_fieldAddr fa48_4 rfl) ?_
        refine GL_gtc (t := 119) rfl rfl rfl (fun qc q => PS_load (cvE rfl (by rw [qc, q]; rfl)) tys4 (.head _) Thing.l4 rfl rfl) ?_
        refine GL_gf (t := 115) rfl rfl rfl (fun q => PS_and (cvE rfl (by rw [q]; rfl)) rfl (fun h => by rw [q, h]; rfl)) ?_
        refine GL_step rfl (PS_or rfl rfl (fun h => by rw [h]; rfl)) ?_
        refine GL_step rfl (PS_move rfl) ?_
        refine GL_gf (t := 124) rfl rfl rfl (fun q => PS_fieldAddr fa48_1 rfl) ?_
        refine GL_gf (t := 124) rfl rfl rfl (fun q => PS_load (cvE rfl (by rw [q]; rfl)) tys3 (.head _) Thing.l1 rfl rfl) ?_
        refine GL_gf (t := 124) rfl rfl rfl (fun q => PS_eql (cvE rfl (by rw [q]; rfl)) rfl) ?_
        refine GL_gf (t := 124) rfl rfl rfl (fun q => PS_move (cvE rfl (by rw [q]; rfl))) ?_
        refine GL_gtc (t := 128) rfl rfl rfl (fun qc q => PS_fieldAddr fa48_4 rfl) ?_
        refine GL_gtc (t := 128) rfl rfl rfl (fun qc q => PS_load (cvE rfl (by rw [qc, q]; rfl)) tys4 (.head _) Thing.l4 rfl rfl) ?_
        refine GL_gf (t := 124) rfl rfl rfl (fun q => PS_and (cvE rfl (by rw [q]; rfl)) rfl (fun h => by rw [q, h]; rfl)) ?_
        refine GL_gf (t := 124) rfl rfl rfl (fun q => PS_move (cvE rfl (by rw [q]; rfl))) ?_
        refine GL_gtc (t := 132) rfl rfl rfl (fun qc q => PS_fieldAddr fa48_2 rfl) ?_
        refine GL_gtc (t := 132) rfl rfl rfl (fun qc q => PS_load (cvE rfl (by rw [qc, q]; rfl)) tys3 (.head _) Thing.l2 rfl rfl) ?_
        refine GL_gtc (t := 132) rfl rfl rfl (fun qc q => PS_neq (cvE rfl (by rw [qc, q]; rfl)) rfl) ?_
        refine GL_gf (t := 124) rfl rfl rfl (fun q => PS_and (cvE rfl (by rw [q]; rfl)) rfl (fun h => by rw [q, h]; rfl)) ?_
        refine GL_step rfl (PS_or rfl rfl (fun h => by rw [h]; rfl)) ?_
        refine GL_step rfl (PS_move rfl) ?_
        refine GL_gf (t := 138) rfl rfl rfl (fun q => PS_fieldAddr fa48_2 rfl) ?_
        refine GL_gf (t := 138) rfl rfl rfl (fun q => PS_load (cvE rfl (by rw [q]; rfl)) tys3 (.head _) Thing.l2 rfl rfl) ?_
        refine GL_gf (t := 138) rfl rfl rfl (fun q => PS_eql (cvE rfl (by rw [q]; rfl)) rfl) ?_
        refine GL_gf (t := 138) rfl rfl rfl (fun q => PS_move (cvE rfl (by rw [q]; rfl))) ?_
        refine GL_gtc (t := 142) rfl rfl rfl (fun qc q => PS_fieldAddr fa48_3 rfl) ?_
        refine GL_gtc (t := 142) rfl rfl rfl (fun qc q => PS_load (cvE rfl (by rw [qc, q]; rfl)) tys3 (.head _) Thing.l3 rfl rfl) ?_
        refine GL_gtc (t := 142) rfl rfl rfl (fun qc q => PS_lss (cvE rfl (by rw [qc, q]; rfl)) rfl) ?_
        refine GL_gtc (t := 142) rfl rfl rfl (fun qc q => PS_move (cvE rfl (by rw [qc, q]; rfl))) ?_
        refine GL_gfc (t := 146) rfl rfl rfl (fun qc q => PS_fieldAddr fa48_3 rfl) ?_
        refine GL_gfc (t := 146) rfl rfl rfl (fun qc q => PS_load (cvE rfl (by rw [qc, q]; rfl)) tys3 (.head _) Thing.l3 rfl rfl) ?_
        refine GL_gfc (t := 146) rfl rfl rfl (fun qc q => PS_gtr (cvE rfl (by rw [qc, q]; rfl)) rfl) ?_
        refine GL_gtc (t := 142) rfl rfl rfl (fun qc q => PS_or (cvE rfl (by rw [qc, q]; rfl)) rfl (fun h => by rw [qc, q, h]; rfl)) ?_
        refine GL_gtc (t := 142) rfl rfl rfl (fun qc q => PS_move (cvE rfl (by rw [qc, q]; rfl))) ?_
        refine GL_gfc (t := 151) rfl rfl rfl (fun qc q => PS_fieldAddr fa48_3 rfl) ?_
        refine GL_gfc (t := 151) rfl rfl rfl (fun qc q => PS_load (cvE rfl (by rw [qc, q]; rfl)) tys3 (.head _) Thing.l3 rfl rfl) ?_
        refine GL_gfc (t := 151) rfl rfl rfl (fun qc q => PS_fieldAddr fa54_1 rfl) ?_
        refine GL_gfc (t := 151) rfl rfl rfl (fun qc q => by have q1 := q; have qc1 := qc; (try simp at q1 qc1); exact PS_indexAddr ia49 (cvE rfl (by rw [qc, q]; rfl)) (cvE rfl (by rw [qc, q]; rfl)) (by omega) (by omega)) ?_
        refine GL_gfc (t := 151) rfl rfl rfl (fun qc q => PS_fieldAddr fa48_1 (cvE rfl (by rw [qc, q]; rfl))) ?_
        refine GL_gfc (t := 151) rfl rfl rfl (fun qc q => by have q1 := q; have qc1 := qc; (try simp at q1 qc1); exact PS_load (cvE rfl (by rw [qc, q]; rfl)) tys3 (.tail _ (.head _)) ((Land.l1.comp (Lens.arr (n := 9) Thing.fl (by omega) (by omega))).comp Thing.l1) rfl rfl) ?_
        refine GL_gfc (t := 151) rfl rfl rfl (fun qc q => PS_neq (cvE rfl (by rw [qc, q]; rfl)) rfl) ?_
        refine GL_gtc (t := 142) rfl rfl rfl (fun qc q => PS_or (cvE rfl (by rw [qc, q]; rfl)) rfl (fun h => by rw [qc, q, h]; rfl)) ?_
        refine GL_gf (t := 138) rfl rfl rfl (fun q => PS_and (cvE rfl (by rw [q]; rfl)) rfl (fun h => by rw [q, h]; rfl)) ?_
        refine GL_step rfl (PS_or rfl rfl (fun h => by rw [h]; rfl)) ?_
        refine GL_nil ?_
        refine GQ_sub (.cons (k := 1) rfl (.cons (k := 8) rfl (.cons (k := 102) rfl (.cons (k := 103) rfl (.cons (k := 161) rfl (.nil _)))))) ?_
        refine GQ_then ?_
        refine G_cond rfl (fun c7 => ?_) (fun c7 => ?_)
        · skip
          have c7p := c7
          try simp only [decide_eq_true_eq, decide_eq_false_iff_not, Bool.not_eq_true', Bool.not_eq_false', Bool.or_eq_true, Bool.and_eq_true, Bool.or_eq_false_iff, Bool.and_eq_false_iff, Int.not_lt, Int.not_le] at c7p
          refine G_seq ?_
          refine G_region ?_
          refine GL_step rfl (PS_assign rfl) ?_
          refine GL_nil ?_
          refine GQ_sub (.cons (k := 2) rfl (.nil _)) ?_
          refine GQ_then ?_
          refine G_ret ?_
          refine GQ_then_ret ?_
          refine GQ_block_ret ?_
          refine GQ_then_ret ?_
          refine GQ_then_ret ?_
          refine GQ_block_ret ?_
          refine GQ_then_ret ?_
          refine GQ_ret rfl (.tmp rfl .nil) ?_
          intro w1 hS; refine ⟨congrArg Value.bool ?_, hS.toKeep⟩; rw [hI43, Land.refThing, show X.refBadA (X.things.at t) = true from c7]; rfl
        · skip
          have c7p := c7
          try simp only [decide_eq_true_eq, decide_eq_false_iff_not, Bool.not_eq_true', Bool.not_eq_false', Bool.or_eq_true, Bool.and_eq_true, Bool.or_eq_false_iff, Bool.and_eq_false_iff, Int.not_lt, Int.not_le] at c7p
          refine G_skip ?_
          refine GQ_sub (.cons (k := 1) rfl (.cons (k := 8) rfl (.cons (k := 102) rfl (.cons (k := 103) rfl (.nil _))))) ?_
          refine GQ_then ?_
          refine G_seq ?_
          refine G_region ?_
          refine GL_step rfl (PS_loadA rfl tya54 (.tail _ (.head _)) (Lens.id Land.fl.len Land.fl.one) rfl) ?_
          refine GL_step rfl (PS_move rfl) ?_
          refine GL_pure rfl cf56 (.cons rfl (.cons rfl .nil)) (fun w hS => ref_root_spec _ _ w) ?_
          refine GL_step rfl (PS_move rfl) ?_
          refine GL_step rfl (PS_extract rfl rfl) ?_
          refine GL_step rfl (PS_extract rfl rfl) ?_
          refine GL_step rfl (PS_extract rfl rfl) ?_
          refine GL_step rfl (PS_extract rfl rfl) ?_
          refine GL_step rfl (PS_assign rfl) ?_
          refine GL_step rfl (PS_assign rfl) ?_
          refine GL_step rfl (PS_assign rfl) ?_
          refine GL_step rfl (PS_assign rfl) ?_
          refine GL_nil ?_
          refine GQ_sub (.cons (k := 1) rfl (.cons (k := 10) rfl (.cons (k := 11) rfl (.cons (k := 13) rfl (.cons (k := 102) rfl (.cons (k := 103) rfl (.nil _))))))) ?_
          refine GQ_then ?_
          refine G_seq ?_
          refine G_region ?_
          refine GL_step rfl (PS_move rfl) ?_
          refine GL_step rfl (PS_not rfl) ?_
          refine GL_step rfl (PS_move rfl) ?_
          refine GL_gf (t := 172) rfl rfl rfl (fun q => PS_move rfl) ?_
          refine GL_gf (t := 172) rfl rfl rfl (fun q => PS_eql (cvE rfl (by rw [q]; rfl)) rfl) ?_
          refine GL_gf (t := 172) rfl rfl rfl (fun q => PS_move (cvE rfl (by rw [q]; rfl))) ?_
          refine GL_gtc (t := 175) rfl rfl rfl (fun qc q => PS_move rfl) ?_
          refine GL_gtc (t := 175) rfl rfl rfl (fun qc q => PS_lss (cvE rfl (by rw [qc, q]; rfl)) rfl) ?_
          refine GL_gtc (t := 175) rfl rfl rfl (fun qc q => PS_move (cvE rfl (by rw [qc, q]; rfl))) ?_
          refine GL_gfc (t := 178) rfl rfl rfl (fun qc q => PS_move rfl) ?_
          refine GL_gfc (t := 178) rfl rfl rfl (fun qc q => PS_gtr (cvE rfl (by rw [qc, q]; rfl)) rfl) ?_
          refine GL_gtc (t := 175) rfl rfl rfl (fun qc q => PS_or (cvE rfl (by rw [qc, q]; rfl)) rfl (fun h => by rw [qc, q, h]; rfl)) ?_
          refine GL_gf (t := 172) rfl rfl rfl (fun q => PS_and (cvE rfl (by rw [q]; rfl)) rfl (fun h => by rw [q, h]; rfl)) ?_
          refine GL_step rfl (PS_or rfl rfl (fun h => by rw [h]; rfl)) ?_
          refine GL_step rfl (PS_move rfl) ?_
          refine GL_gf (t := 184) rfl rfl rfl (fun q => PS_move rfl) ?_
          refine GL_gf (t := 184) rfl rfl rfl (fun q => PS_eql (cvE rfl (by rw [q]; rfl)) rfl) ?_
          refine GL_gf (t := 184) rfl rfl rfl (fun q => PS_move (cvE rfl (by rw [q]; rfl))) ?_
          refine GL_gtc (t := 187) rfl rfl rfl (fun qc q => PS_move rfl) ?_
          refine GL_gtc (t := 187) rfl rfl rfl (fun qc q => PS_lss (cvE rfl (by rw [qc, q]; rfl)) rfl) ?_
          refine GL_gtc (t := 187) rfl rfl rfl (fun qc q => PS_move (cvE rfl (by rw [qc, q]; rfl))) ?_
          refine GL_gfc (t := 190) rfl rfl rfl (fun qc q => PS_move rfl) ?_
          refine GL_gfc (t := 190) rfl rfl rfl (fun qc q => PS_gtr (cvE rfl (by rw [qc, q]; rfl)) rfl) ?_
          refine GL_gtc (t := 187) rfl rfl rfl (fun qc q => PS_or (cvE rfl (by rw [qc, q]; rfl)) rfl (fun h => by rw [qc, q, h]; rfl)) ?_
          refine GL_gtc (t := 187) rfl rfl rfl (fun qc q => PS_move (cvE rfl (by rw [qc, q]; rfl))) ?_
          refine GL_gfc (t := 194) rfl rfl rfl (fun qc q => PS_move rfl) ?_
          refine GL_gfc (t := 194) rfl rfl rfl (fun qc q => PS_fieldAddr fa54_2 rfl) ?_
          refine GL_gfc (t := 194) rfl rfl rfl (fun qc q => by have q1 := q; have qc1 := qc; (try simp at q1 qc1); exact PS_indexAddr ia52 (cvE rfl (by rw [qc, q]; rfl)) (cvE rfl (by rw [qc, q]; rfl)) (by omega) (by omega)) ?_
          refine GL_gfc (t := 194) rfl rfl rfl (fun qc q => PS_fieldAddr fa51_1 (cvE rfl (by rw [qc, q]; rfl))) ?_
          refine GL_gfc (t := 194) rfl rfl rfl (fun qc q => by have q1 := q; have qc1 := qc; (try simp at q1 qc1); exact PS_load (cvE rfl (by rw [qc, q]; rfl)) tys4 (.tail _ (.head _)) ((Land.l2.comp (Lens.arr (n := 6) Being.fl (by omega) (by omega))).comp Being.l1) rfl rfl) ?_
          refine GL_gfc (t := 194) rfl rfl rfl (fun qc q => PS_not (cvE rfl (by rw [qc, q]; rfl))) ?_
          refine GL_gtc (t := 187) rfl rfl rfl (fun qc q => PS_or (cvE rfl (by rw [qc, q]; rfl)) rfl (fun h => by rw [qc, q, h]; rfl)) ?_
          refine GL_gf (t := 184) rfl rfl rfl (fun q => PS_and (cvE rfl (by rw [q]; rfl)) rfl (fun h => by rw [q, h]; rfl)) ?_
          refine GL_step rfl (PS_or rfl rfl (fun h => by rw [h]; rfl)) ?_
          refine GL_nil ?_
          refine GQ_sub (.cons (k := 1) rfl (.cons (k := 102) rfl (.cons (k := 103) rfl (.cons (k := 203) rfl (.nil _))))) ?_
          refine GQ_then ?_
          refine G_cond rfl (fun c8 => ?_) (fun c8 => ?_)
          · skip
            have c8p := c8
            try simp only [decide_eq_true_eq, decide_eq_false_iff_not, Bool.not_eq_true', Bool.not_eq_false', Bool.or_eq_true, Bool.and_eq_true, Bool.or_eq_false_iff, Bool.and_eq_false_iff, Int.not_lt, Int.not_le] at c8p
            refine G_seq ?_
            refine G_region ?_
            refine GL_step rfl (PS_assign rfl) ?_
            refine GL_nil ?_
            refine GQ_sub (.cons (k := 2) rfl (.nil _)) ?_
            refine GQ_then ?_
            refine G_ret ?_
            refine GQ_block_ret ?_
            refine GQ_then_ret ?_
            refine GQ_then_ret ?_
            refine GQ_block_ret ?_
            refine GQ_then_ret ?_
            refine GQ_ret rfl (.tmp rfl .nil) ?_
            intro w1 hS; refine ⟨congrArg Value.bool ?_, hS.toKeep⟩; rw [hI43, Land.refThing, show X.refBadB (X.root t) = true from c8, Bool.not_true, Bool.and_false]; rfl
          · skip
            have c8p := c8
            try simp only [decide_eq_true_eq, decide_eq_false_iff_not, Bool.not_eq_true', Bool.not_eq_false', Bool.or_eq_true, Bool.and_eq_true, Bool.or_eq_false_iff, Bool.and_eq_false_iff, Int.not_lt, Int.not_le] at c8p
            refine G_skip ?_
            refine GQ_sub (.cons (k := 1) rfl (.cons (k := 102) rfl (.cons (k := 103) rfl (.nil _)))) ?_
            refine GQ_block ?_
            refine GQ_then ?_
            refine G_region ?_
            refine GL_step rfl (PS_add rfl rfl (IntWalk.i64_in _ (by omega))) ?_
            refine GL_step rfl (PS_move rfl) ?_
            refine GL_nil ?_
            refine GQ_sub (.cons (k := 1) rfl (.cons (k := 102) rfl (.cons (k := 103) rfl (.nil _)))) ?_
            refine GQ_next1_ (t + 1) ?_ ?_ (.cons (k := 103) rfl (.cons (k := 1) rfl (.cons (k := 102) rfl (.nil _)))) (.cons _ (.refl _))
            · exact ⟨by omega, by omega, by rw [hI43, Land.refThing, show X.refBadA (X.things.at t) = false from c7, show X.refBadB (X.root t) = false from c8]; rfl⟩
            · omega
      · skip
        have c6p := c6
        try simp only [decide_eq_true_eq, decide_eq_false_iff_not, Bool.not_eq_true', Bool.not_eq_false', Bool.or_eq_true, Bool.and_eq_true, Bool.or_eq_false_iff, Bool.and_eq_false_iff, Int.not_lt, Int.not_le] at c6p
        obtain rfl : t = 9 := by omega
        refine G_exit ?_
        refine GQ_then_exit ?_
        refine GQ_then_exit ?_
        refine GQ_block_exit ?_
        refine GQ_sub (.nil _) ?_
        refine GQ_then ?_
        refine G_seq ?_
        refine G_region ?_
        refine GL_step rfl (PS_assign rfl) ?_
        refine GL_nil ?_
        refine GQ_then ?_
        refine G_ret ?_
        refine GQ_ret rfl (.tmp rfl .nil) ?_
        intro w1 hS; refine ⟨congrArg Value.bool ?_, hS.toKeep⟩; rw [hI43]; rfl
theorem land_Has_spec (X : Land) (whr at_ : Int) : Ctr Try.prog 34 #[.agg X.enc.toArray, .int .i64 whr, .int .i64 at_] [] (fun v B => ∃ h' : Hd, v = h'.val ∧ h'.len = (X.has whr at_).length ∧ B = [Res.own h' 3 1 ((X.has whr at_).flatMap encI)]) := by
  intro w hS0
  refine Ret_body _ _ Try.func34 rfl rfl rfl (hS0) ?_
  refine G_seq ?_
  refine G_region ?_
  refine GL_box rfl rfl rfl (fun b1 => ?_)
  refine GL_step rfl (PS_assign rfl) ?_
  refine GL_nil ?_
  refine GQ_sub (.cons (k := 1) rfl (.cons (k := 2) rfl (.cons (k := 3) rfl (.nil _)))) ?_
  refine GQ_then ?_
  refine G_seq ?_
  refine G_region ?_
  refine GL_step rfl (PS_assign rfl) ?_
  refine GL_nil ?_
  refine GQ_then ?_
  refine G_seq ?_
  refine G_seq ?_
  refine G_region ?_
  refine GL_step rfl (PS_fieldAddr fa54_1 rfl) ?_
  refine GL_step rfl (PS_loadA rfl tya49 (.head _) Land.l1 rfl) ?_
  refine GL_step rfl (PS_move rfl) ?_
  refine GL_nil ?_
  refine GQ_sub (.cons (k := 1) rfl (.cons (k := 2) rfl (.cons (k := 7) rfl (.cons (k := 11) rfl (.cons (k := 12) rfl (.nil _)))))) ?_
  refine GQ_then ?_
  refine G_block ?_
  refine G_subF (.cons (k := 7) rfl (.cons (k := 12) rfl (.cons (k := 1) rfl (.cons (k := 2) rfl (.cons (k := 11) rfl (.nil _)))))) ?_
  refine G_nilF encI 3 1 ?_
  refine G_loop3_ (fun (k : Int) (xs : List Int) (g : Hd) => 0 ≤ k ∧ k ≤ 9 ∧ xs = X.hasL whr at_ k.toNat ∧ g.len = xs.length) (fun (k : Int) (xs : List Int) (g : Hd) => (9 - k).toNat) (fun (k : Int) (xs : List Int) (g : Hd) => [(7, g.val), (12, .int .i64 k)]) (fun (k : Int) (xs : List Int) (g : Hd) => [Res.own g 3 1 (xs.flatMap encI)]) (0) ([]) (_) ?_ rfl rfl (fun k xs g hI1 => ?_)
  · exact ⟨by omega, by omega, rfl, rfl⟩
  obtain ⟨hI11, hI12, hI13, hI14⟩ := hI1
  refine G_seq ?_
  refine G_region ?_
  refine GL_step rfl (PS_lss rfl rfl) ?_
  refine GL_nil ?_
  refine GQ_then ?_
  refine G_seq ?_
  refine G_cond rfl (fun c1 => ?_) (fun c1 => ?_)
  · skip
    have c1p := c1
    try simp only [decide_eq_true_eq, decide_eq_false_iff_not, Bool.not_eq_true', Bool.not_eq_false', Bool.or_eq_true, Bool.and_eq_true, Bool.or_eq_false_iff, Bool.and_eq_false_iff, Int.not_lt, Int.not_le] at c1p
    have hxl := Land.hasL_len X whr at_ k.toNat
    rw [← hI13] at hxl
    refine G_skip ?_
    refine GQ_sub (.cons (k := 1) rfl (.cons (k := 2) rfl (.cons (k := 7) rfl (.cons (k := 11) rfl (.cons (k := 12) rfl (.nil _)))))) ?_
    refine GQ_then ?_
    refine G_seq ?_
    refine G_block ?_
    refine G_seq ?_
    refine G_region ?_
    refine GL_step rfl (PS_move rfl) ?_
    refine GL_step rfl (PS_indexAA Thing.fl Try.underlying49 tya48 rfl rfl (by omega) (by omega)) ?_
    refine GL_alloc rfl zv48 rfl (fun b2 => ?_)
    refine GL_step rfl (PS_assign rfl) ?_
    refine GL_unit (PU_store (Lens.id Thing.fl.len Thing.fl.one) rfl rfl rfl sz48 rfl .head) ?_
    refine GL_nil ?_
    refine GQ_sub (.cons (k := 1) rfl (.cons (k := 2) rfl (.cons (k := 7) rfl (.cons (k := 8) rfl (.cons (k := 9) rfl (.cons (k := 11) rfl (.cons (k := 12) rfl (.nil _)))))))) ?_
    refine GQ_then ?_
    refine G_seq ?_
    refine G_region ?_
    refine GL_step rfl (PS_fieldAddr fa48_2 rfl) ?_
    refine GL_step rfl (PS_load rfl tys3 (.head _) Thing.l2 rfl rfl) ?_
    refine GL_step rfl (PS_move rfl) ?_
    refine GL_step rfl (PS_eql rfl rfl) ?_
    refine GL_step rfl (PS_move rfl) ?_
    refine GL_gt (t := 20) rfl rfl rfl (fun q => PS_fieldAddr fa48_3 rfl) ?_
    refine GL_gt (t := 20) rfl rfl rfl (fun q => PS_load (cvE rfl q) tys3 (.head _) Thing.l3 rfl rfl) ?_
    refine GL_gt (t := 20) rfl rfl rfl (fun q => PS_move rfl) ?_
    refine GL_gt (t := 20) rfl rfl rfl (fun q => PS_eql (cvE rfl q) (cvE rfl q)) ?_
    refine GL_step rfl (PS_and rfl rfl (fun h => h)) ?_
    refine GL_nil ?_
    refine GQ_sub (.cons (k := 1) rfl (.cons (k := 2) rfl (.cons (k := 7) rfl (.cons (k := 8) rfl (.cons (k := 11) rfl (.cons (k := 12) rfl (.cons (k := 25) rfl (.nil _)))))))) ?_
    refine GQ_then ?_
    refine G_cond rfl (fun c2 => ?_) (fun c2 => ?_)
    · skip
      have c2p := c2
      try simp only [decide_eq_true_eq, decide_eq_false_iff_not, Bool.not_eq_true', Bool.not_eq_false', Bool.or_eq_true, Bool.and_eq_true, Bool.or_eq_false_iff, Bool.and_eq_false_iff, Int.not_lt, Int.not_le] at c2p
      refine G_region ?_
      refine GL_step rfl (PS_move rfl) ?_
      refine GL_step rfl (PS_move rfl) ?_
      refine GL_bs1F encI flI rfl Try.underlying60 sz3 zv3 rfl (by decide) (by decide) rfl rfl (fun b3 => ?_)
      refine GL_appendF flI rfl Try.underlying60 sz3 zv3 rfl by3 (by decide) (by decide) rfl rfl (fun w hS => Src.sliceT Try.underlying60 ((Kn.own (.head _)) w hS)) (by (try dsimp only); omega) (fun _ => (.tail (.tail .head))) (fun h1 h1l h1z => ?_)
      refine GL_step rfl (PS_assign rfl) ?_
      refine GL_nil ?_
      refine GQ_sub (.cons (k := 1) rfl (.cons (k := 2) rfl (.cons (k := 7) rfl (.cons (k := 11) rfl (.cons (k := 12) rfl (.nil _)))))) ?_
      refine GQ_block ?_
      refine GQ_then ?_
      refine G_region ?_
      refine GL_step rfl (PS_add rfl rfl (IntWalk.i64_in _ (by omega))) ?_
      refine GL_step rfl (PS_move rfl) ?_
      refine GL_nil ?_
      refine GQ_sub (.cons (k := 1) rfl (.cons (k := 2) rfl (.cons (k := 7) rfl (.cons (k := 11) rfl (.cons (k := 12) rfl (.nil _)))))) ?_
      refine GQ_next3_ (k + 1) _ _ ?_ ?_ (.cons (k := 7) rfl (.cons (k := 12) rfl (.cons (k := 1) rfl (.cons (k := 2) rfl (.cons (k := 11) rfl (.nil _)))))) (.cons _ (.cons _ (.refl _)))
      · exact ⟨by omega, by omega, by rw [Land.hasL_t hI11 c2, ← hI13], (by (try dsimp only at *) <;> (try simp only [List.length_append, List.length_cons, List.length_nil]) <;> omega)⟩
      · omega
    · skip
      have c2p := c2
      try simp only [decide_eq_true_eq, decide_eq_false_iff_not, Bool.not_eq_true', Bool.not_eq_false', Bool.or_eq_true, Bool.and_eq_true, Bool.or_eq_false_iff, Bool.and_eq_false_iff, Int.not_lt, Int.not_le] at c2p
      refine G_skip ?_
      refine GQ_sub (.cons (k := 1) rfl (.cons (k := 2) rfl (.cons (k := 7) rfl (.cons (k := 11) rfl (.cons (k := 12) rfl (.nil _)))))) ?_
      refine GQ_block ?_
      refine GQ_then ?_
      refine G_region ?_
      refine GL_step rfl (PS_add rfl rfl (IntWalk.i64_in _ (by omega))) ?_
      refine GL_step rfl (PS_move rfl) ?_
      refine GL_nil ?_
      refine GQ_sub (.cons (k := 1) rfl (.cons (k := 2) rfl (.cons (k := 7) rfl (.cons (k := 11) rfl (.cons (k := 12) rfl (.nil _)))))) ?_
      refine GQ_next3_ (k + 1) _ _ ?_ ?_ (.cons (k := 7) rfl (.cons (k := 12) rfl (.cons (k := 1) rfl (.cons (k := 2) rfl (.cons (k := 11) rfl (.nil _)))))) (.cons _ (.refl _))
      · exact ⟨by omega, by omega, by rw [Land.hasL_f hI11 c2, ← hI13], (by (try dsimp only at *) <;> (try simp only [List.length_append, List.length_cons, List.length_nil]) <;> omega)⟩
      · omega
  · skip
    have c1p := c1
    try simp only [decide_eq_true_eq, decide_eq_false_iff_not, Bool.not_eq_true', Bool.not_eq_false', Bool.or_eq_true, Bool.and_eq_true, Bool.or_eq_false_iff, Bool.and_eq_false_iff, Int.not_lt, Int.not_le] at c1p
    obtain rfl : k = 9 := by omega
    refine G_exit ?_
    refine GQ_then_exit ?_
    refine GQ_then_exit ?_
    refine GQ_block_exit ?_
    refine GQ_sub (.cons (k := 7) rfl (.nil _)) ?_
    refine GQ_then ?_
    refine G_seq ?_
    refine G_region ?_
    refine GL_step rfl (PS_move rfl) ?_
    refine GL_step rfl (PS_assign rfl) ?_
    refine GL_nil ?_
    refine GQ_sub (.cons (k := 6) rfl (.nil _)) ?_
    refine GQ_then ?_
    refine G_ret ?_
    refine GQ_ret rfl (.tmp rfl .nil) ?_
    intro w1 hS
    have hS := (hS.perm (Pulls.perm (.cons .head .nil))).headL
    exact ⟨_, ⟨_, rfl, by rw [Land.has_eq, ← hI13]; assumption, by rw [Land.has_eq, ← hI13]⟩, hS⟩
theorem ref_HasAt_spec (X : Land) (whr at_ : Int) : Ctr Try.prog 35 #[.agg X.enc.toArray, .int .i64 whr, .int .i64 at_] [] (fun v B => ∃ h' : Hd, v = h'.val ∧ h'.len = (X.has whr at_).length ∧ B = [Res.own h' 3 1 ((X.has whr at_).flatMap encI)]) := by
  intro w hS0
  refine Ret_body _ _ Try.func35 rfl rfl rfl (hS0) ?_
  refine G_seq ?_
  refine G_region ?_
  refine GL_box rfl rfl rfl (fun b1 => ?_)
  refine GL_step rfl (PS_assign rfl) ?_
  refine GL_nil ?_
  refine GQ_sub (.cons (k := 1) rfl (.cons (k := 2) rfl (.cons (k := 3) rfl (.nil _)))) ?_
  refine GQ_then ?_
  refine G_seq ?_
  refine G_region ?_
  refine GL_step rfl (PS_assign rfl) ?_
  refine GL_nil ?_
  refine GQ_then ?_
  refine G_seq ?_
  refine G_seq ?_
  refine G_region ?_
  refine GL_step rfl (PS_move rfl) ?_
  refine GL_nil ?_
  refine GQ_then ?_
  refine G_block ?_
  refine G_subF (.cons (k := 7) rfl (.cons (k := 9) rfl (.cons (k := 1) rfl (.cons (k := 2) rfl (.cons (k := 3) rfl (.nil _)))))) ?_
  refine G_nilF encI 3 1 ?_
  refine G_loop3_ (fun (k : Int) (xs : List Int) (g : Hd) => 0 ≤ k ∧ k ≤ 9 ∧ xs = X.hasL whr at_ k.toNat ∧ g.len = xs.length) (fun (k : Int) (xs : List Int) (g : Hd) => (9 - k).toNat) (fun (k : Int) (xs : List Int) (g : Hd) => [(7, g.val), (9, .int .i64 k)]) (fun (k : Int) (xs : List Int) (g : Hd) => [Res.own g 3 1 (xs.flatMap encI)]) (0) ([]) (_) ?_ rfl rfl (fun k xs g hI1 => ?_)
  · exact ⟨by omega, by omega, rfl, rfl⟩
  obtain ⟨hI11, hI12, hI13, hI14⟩ := hI1
  refine G_seq ?_
  refine G_region ?_
  refine GL_step rfl (PS_lss rfl rfl) ?_
  refine GL_nil ?_
  refine GQ_then ?_
  refine G_seq ?_
  refine G_cond rfl (fun c1 => ?_) (fun c1 => ?_)
  · skip
    have c1p := c1
    try simp only [decide_eq_true_eq, decide_eq_false_iff_not, Bool.not_eq_true', Bool.not_eq_false', Bool.or_eq_true, Bool.and_eq_true, Bool.or_eq_false_iff, Bool.and_eq_false_iff, Int.not_lt, Int.not_le] at c1p
    have hxl := Land.hasL_len X whr at_ k.toNat
    rw [← hI13] at hxl
    refine G_skip ?_
    refine GQ_sub (.cons (k := 1) rfl (.cons (k := 2) rfl (.cons (k := 3) rfl (.cons (k := 7) rfl (.cons (k := 9) rfl (.nil _)))))) ?_
    refine GQ_then ?_
    refine G_seq ?_
    refine G_block ?_
    refine G_seq ?_
    refine G_region ?_
    refine GL_step rfl (PS_move rfl) ?_
    refine GL_step rfl (PS_assign rfl) ?_
    refine GL_nil ?_
    refine GQ_sub (.cons (k := 1) rfl (.cons (k := 2) rfl (.cons (k := 3) rfl (.cons (k := 7) rfl (.cons (k := 8) rfl (.cons (k := 9) rfl (.nil _))))))) ?_
    refine GQ_then ?_
    refine G_seq ?_
    refine G_region ?_
    refine GL_step rfl (PS_move rfl) ?_
    refine GL_step rfl (PS_fieldAddr fa54_1 rfl) ?_
    refine GL_step rfl (PS_indexAddr ia49 rfl rfl (by omega) (by omega)) ?_
    refine GL_step rfl (PS_fieldAddr fa48_3 rfl) ?_
    refine GL_step rfl (PS_load rfl tys3 (.tail _ (.head _)) ((Land.l1.comp (Lens.arr (n := 9) Thing.fl (by omega) (by omega))).comp Thing.l3) rfl rfl) ?_
    refine GL_step rfl (PS_move rfl) ?_
    refine GL_step rfl (PS_eql rfl rfl) ?_
    refine GL_step rfl (PS_move rfl) ?_
    refine GL_gt (t := 19) rfl rfl rfl (fun q => PS_move rfl) ?_
    refine GL_gt (t := 19) rfl rfl rfl (fun q => PS_fieldAddr fa54_1 rfl) ?_
    refine GL_gt (t := 19) rfl rfl rfl (fun q => by have q1 := q; (try simp at q1); exact PS_indexAddr ia49 (cvE rfl q) (cvE rfl q) (by omega) (by omega)) ?_
    refine GL_gt (t := 19) rfl rfl rfl (fun q => PS_fieldAddr fa48_2 (cvE rfl q)) ?_
    refine GL_gt (t := 19) rfl rfl rfl (fun q => by have q1 := q; (try simp at q1); exact PS_load (cvE rfl q) tys3 (.tail _ (.head _)) ((Land.l1.comp (Lens.arr (n := 9) Thing.fl (by omega) (by omega))).comp Thing.l2) rfl rfl) ?_
    refine GL_gt (t := 19) rfl rfl rfl (fun q => PS_move rfl) ?_
    refine GL_gt (t := 19) rfl rfl rfl (fun q => PS_eql (cvE rfl q) (cvE rfl q)) ?_
    refine GL_step rfl (PS_and rfl rfl (fun h => h)) ?_
    refine GL_nil ?_
    refine GQ_sub (.cons (k := 1) rfl (.cons (k := 2) rfl (.cons (k := 3) rfl (.cons (k := 7) rfl (.cons (k := 8) rfl (.cons (k := 9) rfl (.cons (k := 27) rfl (.nil _)))))))) ?_
    refine GQ_then ?_
    refine G_cond rfl (fun c2 => ?_) (fun c2 => ?_)
    · skip
      have c2p := c2
      try simp only [decide_eq_true_eq, decide_eq_false_iff_not, Bool.not_eq_true', Bool.not_eq_false', Bool.or_eq_true, Bool.and_eq_true, Bool.or_eq_false_iff, Bool.and_eq_false_iff, Int.not_lt, Int.not_le] at c2p
      refine G_region ?_
      refine GL_step rfl (PS_move rfl) ?_
      refine GL_step rfl (PS_move rfl) ?_
      refine GL_bs1F encI flI rfl Try.underlying60 sz3 zv3 rfl (by decide) (by decide) rfl rfl (fun b2 => ?_)
      refine GL_appendF flI rfl Try.underlying60 sz3 zv3 rfl by3 (by decide) (by decide) rfl rfl (fun w hS => Src.sliceT Try.underlying60 ((Kn.own (.head _)) w hS)) (by (try dsimp only); omega) (fun _ => (.tail .head)) (fun h1 h1l h1z => ?_)
      refine GL_step rfl (PS_assign rfl) ?_
      refine GL_nil ?_
      refine GQ_sub (.cons (k := 1) rfl (.cons (k := 2) rfl (.cons (k := 3) rfl (.cons (k := 7) rfl (.cons (k := 9) rfl (.nil _)))))) ?_
      refine GQ_block ?_
      refine GQ_then ?_
      refine G_region ?_
      refine GL_step rfl (PS_add rfl rfl (IntWalk.i64_in _ (by omega))) ?_
      refine GL_step rfl (PS_move rfl) ?_
      refine GL_nil ?_
      refine GQ_sub (.cons (k := 1) rfl (.cons (k := 2) rfl (.cons (k := 3) rfl (.cons (k := 7) rfl (.cons (k := 9) rfl (.nil _)))))) ?_
      refine GQ_next3_ (k + 1) _ _ ?_ ?_ (.cons (k := 7) rfl (.cons (k := 9) rfl (.cons (k := 1) rfl (.cons (k := 2) rfl (.cons (k := 3) rfl (.nil _)))))) (.cons _ (.refl _))
      · exact ⟨by omega, by omega, by rw [Land.hasL_t hI11 ((Bool.and_comm _ _).trans c2), ← hI13], (by (try dsimp only at *) <;> (try simp only [List.length_append, List.length_cons, List.length_nil]) <;> omega)⟩
      · omega
    · skip
      have c2p := c2
      try simp only [decide_eq_true_eq, decide_eq_false_iff_not, Bool.not_eq_true', Bool.not_eq_false', Bool.or_eq_true, Bool.and_eq_true, Bool.or_eq_false_iff, Bool.and_eq_false_iff, Int.not_lt, Int.not_le] at c2p
      refine G_skip ?_
      refine GQ_sub (.cons (k := 1) rfl (.cons (k := 2) rfl (.cons (k := 3) rfl (.cons (k := 7) rfl (.cons (k := 9) rfl (.nil _)))))) ?_
      refine GQ_block ?_
      refine GQ_then ?_
      refine G_region ?_
      refine GL_step rfl (PS_add rfl rfl (IntWalk.i64_in _ (by omega))) ?_
      refine GL_step rfl (PS_move rfl) ?_
      refine GL_nil ?_
      refine GQ_sub (.cons (k := 1) rfl (.cons (k := 2) rfl (.cons (k := 3) rfl (.cons (k := 7) rfl (.cons (k := 9) rfl (.nil _)))))) ?_
      refine GQ_next3_ (k + 1) _ _ ?_ ?_ (.cons (k := 7) rfl (.cons (k := 9) rfl (.cons (k := 1) rfl (.cons (k := 2) rfl (.cons (k := 3) rfl (.nil _)))))) (.refl _)
      · exact ⟨by omega, by omega, by rw [Land.hasL_f hI11 ((Bool.and_comm _ _).trans c2), ← hI13], (by (try dsimp only at *) <;> (try simp only [List.length_append, List.length_cons, List.length_nil]) <;> omega)⟩
      · omega
  · skip
    have c1p := c1
    try simp only [decide_eq_true_eq, decide_eq_false_iff_not, Bool.not_eq_true', Bool.not_eq_false', Bool.or_eq_true, Bool.and_eq_true, Bool.or_eq_false_iff, Bool.and_eq_false_iff, Int.not_lt, Int.not_le] at c1p
    obtain rfl : k = 9 := by omega
    refine G_exit ?_
    refine GQ_then_exit ?_
    refine GQ_then_exit ?_
    refine GQ_block_exit ?_
    refine GQ_sub (.cons (k := 7) rfl (.nil _)) ?_
    refine GQ_then ?_
    refine G_seq ?_
    refine G_region ?_
    refine GL_step rfl (PS_move rfl) ?_
    refine GL_step rfl (PS_assign rfl) ?_
    refine GL_nil ?_
    refine GQ_sub (.cons (k := 6) rfl (.nil _)) ?_
    refine GQ_then ?_
    refine G_ret ?_
    refine GQ_ret rfl (.tmp rfl .nil) ?_
    intro w1 hS
    have hS := (hS.perm (Pulls.perm (.cons .head .nil))).headL
    exact ⟨_, ⟨_, rfl, by rw [Land.has_eq, ← hI13]; assumption, by rw [Land.has_eq, ← hI13]⟩, hS⟩
theorem law_sameNumbers_spec {t0 t1 : Nat} (f g : Hd) (xs ys : List Int) (hx : xs.length ≤ 9223372036854775807) (w : World) (r0 : Rd w f t0 1 (xs.flatMap encI)) (r1 : Rd w g t1 1 (ys.flatMap encI)) : Ret Try.prog 33 #[f.val, g.val] w fun v w' => v = .bool (decide (xs = ys)) ∧ Keep w w' := by
  have hf := r0.len1 flI (by decide)
  have hg := r1.len1 flI (by decide)
  refine Ret_body [] [] Try.func33 rfl rfl rfl (St.start w []) ?_
  refine G_seq ?_
  refine G_region ?_
  refine GL_step rfl (PS_assign rfl) ?_
  refine GL_nil ?_
  refine GQ_sub (.cons (k := 0) rfl (.cons (k := 1) rfl (.nil _))) ?_
  refine GQ_then ?_
  refine G_seq ?_
  refine G_seq ?_
  refine G_region ?_
  refine GL_step rfl (PS_move rfl) ?_
  refine GL_step rfl (PS_len_slice rfl Try.underlying60 rfl) ?_
  refine GL_step rfl (PS_move rfl) ?_
  refine GL_step rfl (PS_len_slice rfl Try.underlying60 rfl) ?_
  refine GL_step rfl (PS_neq rfl rfl) ?_
  refine GL_nil ?_
  refine GQ_sub (.cons (k := 0) rfl (.cons (k := 1) rfl (.cons (k := 10) rfl (.nil _)))) ?_
  refine GQ_then ?_
  refine G_cond rfl (fun c1 => ?_) (fun c1 => ?_)
  · skip
    have c1p := c1
    try simp only [decide_eq_true_eq, decide_eq_false_iff_not, Bool.not_eq_true', Bool.not_eq_false', Bool.or_eq_true, Bool.and_eq_true, Bool.or_eq_false_iff, Bool.and_eq_false_iff, Int.not_lt, Int.not_le] at c1p
    refine G_seq ?_
    refine G_region ?_
    refine GL_step rfl (PS_assign rfl) ?_
    refine GL_nil ?_
    refine GQ_sub (.cons (k := 4) rfl (.nil _)) ?_
    refine GQ_then ?_
    refine G_ret ?_
    refine GQ_then_ret ?_
    refine GQ_ret rfl (.tmp rfl .nil) ?_
    intro w1 hS; refine ⟨congrArg Value.bool ?_, hS.toKeep⟩; have : xs ≠ ys := fun e => by subst e; simp at c1; omega
    simp [this]
  · skip
    have c1p := c1
    try simp only [decide_eq_true_eq, decide_eq_false_iff_not, Bool.not_eq_true', Bool.not_eq_false', Bool.or_eq_true, Bool.and_eq_true, Bool.or_eq_false_iff, Bool.and_eq_false_iff, Int.not_lt, Int.not_le] at c1p
    refine G_skip ?_
    refine GQ_sub (.cons (k := 0) rfl (.cons (k := 1) rfl (.nil _))) ?_
    refine GQ_then ?_
    refine G_seq ?_
    refine G_seq ?_
    refine G_region ?_
    refine GL_step rfl (PS_move rfl) ?_
    refine GL_step rfl (PS_len_slice rfl Try.underlying60 rfl) ?_
    refine GL_step rfl (PS_move rfl) ?_
    refine GL_nil ?_
    refine GQ_sub (.cons (k := 0) rfl (.cons (k := 1) rfl (.cons (k := 12) rfl (.cons (k := 13) rfl (.nil _))))) ?_
    refine GQ_then ?_
    refine G_block ?_
    refine G_subF (.cons (k := 13) rfl (.cons (k := 0) rfl (.cons (k := 1) rfl (.cons (k := 12) rfl (.nil _))))) ?_
    refine G_loop1_ (fun (i : Int) => 0 ≤ i ∧ i ≤ xs.length ∧ xs.length = ys.length ∧ xs.take i.toNat = ys.take i.toNat) (fun (i : Int) => ((xs.length : Int) - i).toNat) (fun (i : Int) => [(13, .int .i64 i)]) (fun (i : Int) => []) (0) ?_ rfl rfl (fun i hI1 => ?_)
    · exact ⟨by omega, by omega, by simp at c1; omega, rfl⟩
    obtain ⟨hI11, hI12, hI13, hI14⟩ := hI1
    refine G_seq ?_
    refine G_region ?_
    refine GL_step rfl (PS_lss rfl rfl) ?_
    refine GL_nil ?_
    refine GQ_then ?_
    refine G_seq ?_
    refine G_cond rfl (fun c2 => ?_) (fun c2 => ?_)
    · skip
      have c2p := c2
      try simp only [decide_eq_true_eq, decide_eq_false_iff_not, Bool.not_eq_true', Bool.not_eq_false', Bool.or_eq_true, Bool.and_eq_true, Bool.or_eq_false_iff, Bool.and_eq_false_iff, Int.not_lt, Int.not_le] at c2p
      refine G_skip ?_
      refine GQ_sub (.cons (k := 0) rfl (.cons (k := 1) rfl (.cons (k := 12) rfl (.cons (k := 13) rfl (.nil _))))) ?_
      refine GQ_then ?_
      refine G_seq ?_
      refine G_block ?_
      refine G_seq ?_
      refine G_region ?_
      refine GL_step rfl (PS_move rfl) ?_
      refine GL_step rfl (PS_assign rfl) ?_
      refine GL_nil ?_
      refine GQ_sub (.cons (k := 0) rfl (.cons (k := 1) rfl (.cons (k := 5) rfl (.cons (k := 12) rfl (.cons (k := 13) rfl (.nil _)))))) ?_
      refine GQ_then ?_
      refine G_seq ?_
      refine G_planN (N := 9) [0, 0, 3, 7, 0, 0, 48, 112, 255] mix (by kernel_rfl) rfl ?_
      refine Plan_float 0 rfl rfl (by kernel_rfl) (OK_s (EX_s (PS_move rfl))) ?_
      refine Plan_float 1 rfl rfl (by kernel_rfl) (OK_s (EX_s (PS_move rfl))) ?_
      refine Plan_float 2 rfl rfl (by kernel_rfl) (OK_s (EX_s (PS_idxS is60 (by decide) (Kn.old r0) rfl rfl (by omega) (by omega)))) ?_
      refine Plan_float 3 rfl rfl (by kernel_rfl) (OK_s (EX_s (PS_ldInt rfl tys3 (Kn.old r0) (by omega)))) ?_
      refine Plan_float 4 rfl rfl (by kernel_rfl) (OK_s (EX_s (PS_move rfl))) ?_
      refine Plan_float 5 rfl rfl (by kernel_rfl) (OK_s (EX_s (PS_move rfl))) ?_
      refine Plan_float 6 rfl rfl (by kernel_rfl) (OK_s (EX_s (PS_idxS is60 (by decide) (Kn.old r1) rfl rfl (by omega) (by omega)))) ?_
      refine Plan_float 7 rfl rfl (by kernel_rfl) (OK_s (EX_s (PS_ldInt rfl tys3 (Kn.old r1) (by omega)))) ?_
      refine Plan_float 8 rfl rfl (by kernel_rfl) (OK_s (EX_s (PS_neq rfl rfl))) ?_
      refine Plan_end (by kernel_rfl) ?_
      refine GQ_sub (.cons (k := 0) rfl (.cons (k := 1) rfl (.cons (k := 12) rfl (.cons (k := 13) rfl (.cons (k := 24) rfl (.nil _)))))) ?_
      refine GQ_then ?_
      refine G_cond rfl (fun c3 => ?_) (fun c3 => ?_)
      · skip
        have c3p := c3
        try simp only [decide_eq_true_eq, decide_eq_false_iff_not, Bool.not_eq_true', Bool.not_eq_false', Bool.or_eq_true, Bool.and_eq_true, Bool.or_eq_false_iff, Bool.and_eq_false_iff, Int.not_lt, Int.not_le] at c3p
        refine G_seq ?_
        refine G_region ?_
        refine GL_step rfl (PS_assign rfl) ?_
        refine GL_nil ?_
        refine GQ_sub (.cons (k := 4) rfl (.nil _)) ?_
        refine GQ_then ?_
        refine G_ret ?_
        refine GQ_block_ret ?_
        refine GQ_then_ret ?_
        refine GQ_then_ret ?_
        refine GQ_block_ret ?_
        refine GQ_then_ret ?_
        refine GQ_ret rfl (.tmp rfl .nil) ?_
        intro w1 hS; refine ⟨congrArg Value.bool ?_, hS.toKeep⟩; have := Line.ne_of_getD (d := 0) (xs := xs) (ys := ys) (i := i.toNat) (by simpa using c3)
        simp [this]
      · skip
        have c3p := c3
        try simp only [decide_eq_true_eq, decide_eq_false_iff_not, Bool.not_eq_true', Bool.not_eq_false', Bool.or_eq_true, Bool.and_eq_true, Bool.or_eq_false_iff, Bool.and_eq_false_iff, Int.not_lt, Int.not_le] at c3p
        refine G_skip ?_
        refine GQ_sub (.cons (k := 0) rfl (.cons (k := 1) rfl (.cons (k := 12) rfl (.cons (k := 13) rfl (.nil _))))) ?_
        refine GQ_block ?_
        refine GQ_then ?_
        refine G_region ?_
        refine GL_step rfl (PS_add rfl rfl (IntWalk.i64_in _ (by omega))) ?_
        refine GL_step rfl (PS_move rfl) ?_
        refine GL_nil ?_
        refine GQ_sub (.cons (k := 0) rfl (.cons (k := 1) rfl (.cons (k := 12) rfl (.cons (k := 13) rfl (.nil _))))) ?_
        refine GQ_next1_ (i + 1) ?_ ?_ (.cons (k := 13) rfl (.cons (k := 0) rfl (.cons (k := 1) rfl (.cons (k := 12) rfl (.nil _))))) (.refl _)
        · exact ⟨by omega, by omega, hI13, Line.take_next (d := 0) hI11 hI13 (by omega) hI14 (by simpa using c3)⟩
        · omega
    · skip
      have c2p := c2
      try simp only [decide_eq_true_eq, decide_eq_false_iff_not, Bool.not_eq_true', Bool.not_eq_false', Bool.or_eq_true, Bool.and_eq_true, Bool.or_eq_false_iff, Bool.and_eq_false_iff, Int.not_lt, Int.not_le] at c2p
      refine G_exit ?_
      refine GQ_then_exit ?_
      refine GQ_then_exit ?_
      refine GQ_block_exit ?_
      refine GQ_sub (.nil _) ?_
      refine GQ_then ?_
      refine G_seq ?_
      refine G_region ?_
      refine GL_step rfl (PS_assign rfl) ?_
      refine GL_nil ?_
      refine GQ_then ?_
      refine G_ret ?_
      refine GQ_ret rfl (.tmp rfl .nil) ?_
      intro w1 hS; refine ⟨congrArg Value.bool ?_, hS.toKeep⟩; have := Line.pickE (xs := xs) (ys := ys) hI13 hI14 (by omega)
      simp [this]
theorem land_Inside_spec (X : Land) (i box : Int) (w : World) : Ret Try.prog 30 #[.agg X.enc.toArray, .int .i64 i, .int .i64 box] w fun v w' => v = .bool (X.isIn i box) ∧ Keep w w' := by
  refine Ret_body [] [] Try.func30 rfl rfl rfl (St.start w []) ?_
  refine G_seq ?_
  refine G_region ?_
  refine GL_box rfl rfl rfl (fun b1 => ?_)
  refine GL_step rfl (PS_assign rfl) ?_
  refine GL_nil ?_
  refine GQ_sub (.cons (k := 1) rfl (.cons (k := 2) rfl (.cons (k := 3) rfl (.nil _)))) ?_
  refine GQ_then ?_
  refine G_seq ?_
  refine G_seq ?_
  refine G_region ?_
  refine GL_step rfl (PS_move rfl) ?_
  refine GL_nil ?_
  refine GQ_then ?_
  refine G_block ?_
  refine G_subF (.cons (k := 1) rfl (.cons (k := 7) rfl (.cons (k := 2) rfl (.cons (k := 3) rfl (.nil _))))) ?_
  refine G_loop2_ (fun (k : Int) (j : Int) => 0 ≤ k ∧ k ≤ 10 ∧ X.isIn i box = X.inside box (10 - k).toNat j) (fun (k : Int) (j : Int) => (10 - k).toNat) (fun (k : Int) (j : Int) => [(1, .int .i64 j), (7, .int .i64 k)]) (fun (k : Int) (j : Int) => []) (0) (i) ?_ rfl rfl (fun k j hI1 => ?_)
  · exact ⟨Int.le_refl _, by omega, rfl⟩
  obtain ⟨hI11, hI12, hI13⟩ := hI1
  refine G_seq ?_
  refine G_region ?_
  refine GL_step rfl (PS_lss rfl rfl) ?_
  refine GL_nil ?_
  refine GQ_then ?_
  refine G_seq ?_
  refine G_cond rfl (fun c1 => ?_) (fun c1 => ?_)
  · skip
    have c1p := c1
    try simp only [decide_eq_true_eq, decide_eq_false_iff_not, Bool.not_eq_true', Bool.not_eq_false', Bool.or_eq_true, Bool.and_eq_true, Bool.or_eq_false_iff, Bool.and_eq_false_iff, Int.not_lt, Int.not_le] at c1p
    rw [show (10 - k).toNat = (10 - (k + 1)).toNat + 1 from by omega, Land.inside] at hI13
    refine G_skip ?_
    refine GQ_sub (.cons (k := 1) rfl (.cons (k := 2) rfl (.cons (k := 3) rfl (.cons (k := 7) rfl (.nil _))))) ?_
    refine GQ_then ?_
    refine G_seq ?_
    refine G_block ?_
    refine G_seq ?_
    refine G_seq ?_
    refine G_region ?_
    refine GL_step rfl (PS_move rfl) ?_
    refine GL_step rfl (PS_move rfl) ?_
    refine GL_step rfl (PS_eql rfl rfl) ?_
    refine GL_nil ?_
    refine GQ_sub (.cons (k := 1) rfl (.cons (k := 2) rfl (.cons (k := 3) rfl (.cons (k := 7) rfl (.cons (k := 11) rfl (.nil _)))))) ?_
    refine GQ_then ?_
    refine G_cond rfl (fun c2 => ?_) (fun c2 => ?_)
    · skip
      have c2p := c2
      try simp only [decide_eq_true_eq, decide_eq_false_iff_not, Bool.not_eq_true', Bool.not_eq_false', Bool.or_eq_true, Bool.and_eq_true, Bool.or_eq_false_iff, Bool.and_eq_false_iff, Int.not_lt, Int.not_le] at c2p
      refine G_seq ?_
      refine G_region ?_
      refine GL_step rfl (PS_assign rfl) ?_
      refine GL_nil ?_
      refine GQ_sub (.cons (k := 6) rfl (.nil _)) ?_
      refine GQ_then ?_
      refine G_ret ?_
      refine GQ_then_ret ?_
      refine GQ_block_ret ?_
      refine GQ_then_ret ?_
      refine GQ_then_ret ?_
      refine GQ_block_ret ?_
      refine GQ_then_ret ?_
      refine GQ_ret rfl (.tmp rfl .nil) ?_
      intro w1 hS; refine ⟨congrArg Value.bool ?_, hS.toKeep⟩; rw [hI13]; simp only [c1, c2, ↓reduceIte, Bool.false_eq_true]
    · skip
      have c2p := c2
      try simp only [decide_eq_true_eq, decide_eq_false_iff_not, Bool.not_eq_true', Bool.not_eq_false', Bool.or_eq_true, Bool.and_eq_true, Bool.or_eq_false_iff, Bool.and_eq_false_iff, Int.not_lt, Int.not_le] at c2p
      refine G_skip ?_
      refine GQ_sub (.cons (k := 1) rfl (.cons (k := 2) rfl (.cons (k := 3) rfl (.cons (k := 7) rfl (.nil _))))) ?_
      refine GQ_then ?_
      refine G_seq ?_
      refine G_seq ?_
      refine G_region ?_
      refine GL_step rfl (PS_move rfl) ?_
      refine GL_step rfl (PS_lss rfl rfl) ?_
      refine GL_step rfl (PS_move rfl) ?_
      refine GL_gf (t := 14) rfl rfl rfl (fun q => PS_move rfl) ?_
      refine GL_gf (t := 14) rfl rfl rfl (fun q => PS_geq (cvE rfl (by rw [q]; rfl)) rfl) ?_
      refine GL_step rfl (PS_or rfl rfl (fun h => by rw [h]; rfl)) ?_
      refine GL_step rfl (PS_move rfl) ?_
      refine GL_gf (t := 18) rfl rfl rfl (fun q => PS_move rfl) ?_
      refine GL_gf (t := 18) rfl rfl rfl (fun q => PS_fieldAddr fa54_1 rfl) ?_
      refine GL_gf (t := 18) rfl rfl rfl (fun q => by have q1 := q; (try simp at q1); exact PS_indexAddr ia49 (cvE rfl (by rw [q]; rfl)) (cvE rfl (by rw [q]; rfl)) (by omega) (by omega)) ?_
      refine GL_gf (t := 18) rfl rfl rfl (fun q => PS_fieldAddr fa48_2 (cvE rfl (by rw [q]; rfl))) ?_
      refine GL_gf (t := 18) rfl rfl rfl (fun q => by have q1 := q; (try simp at q1); exact PS_load (cvE rfl (by rw [q]; rfl)) tys3 (.head _) ((Land.l1.comp (Lens.arr (n := 9) Thing.fl (by omega) (by omega))).comp Thing.l2) rfl rfl) ?_
      refine GL_gf (t := 18) rfl rfl rfl (fun q => PS_neq (cvE rfl (by rw [q]; rfl)) rfl) ?_
      refine GL_step rfl (PS_or rfl rfl (fun h => by rw [h]; rfl)) ?_
      refine GL_nil ?_
      refine GQ_sub (.cons (k := 1) rfl (.cons (k := 2) rfl (.cons (k := 3) rfl (.cons (k := 7) rfl (.cons (k := 25) rfl (.nil _)))))) ?_
      refine GQ_then ?_
      refine G_cond rfl (fun c3 => ?_) (fun c3 => ?_)
      · skip
        have c3p := c3
        try simp only [decide_eq_true_eq, decide_eq_false_iff_not, Bool.not_eq_true', Bool.not_eq_false', Bool.or_eq_true, Bool.and_eq_true, Bool.or_eq_false_iff, Bool.and_eq_false_iff, Int.not_lt, Int.not_le] at c3p
        refine G_seq ?_
        refine G_region ?_
        refine GL_step rfl (PS_assign rfl) ?_
        refine GL_nil ?_
        refine GQ_sub (.cons (k := 6) rfl (.nil _)) ?_
        refine GQ_then ?_
        refine G_ret ?_
        refine GQ_then_ret ?_
        refine GQ_block_ret ?_
        refine GQ_then_ret ?_
        refine GQ_then_ret ?_
        refine GQ_block_ret ?_
        refine GQ_then_ret ?_
        refine GQ_ret rfl (.tmp rfl .nil) ?_
        intro w1 hS; refine ⟨congrArg Value.bool ?_, hS.toKeep⟩; rw [hI13]; simp only [c1, c2, c3, ↓reduceIte, Bool.false_eq_true]
      · skip
        have c3p := c3
        try simp only [decide_eq_true_eq, decide_eq_false_iff_not, Bool.not_eq_true', Bool.not_eq_false', Bool.or_eq_true, Bool.and_eq_true, Bool.or_eq_false_iff, Bool.and_eq_false_iff, Int.not_lt, Int.not_le] at c3p
        have h9 : 0 ≤ j ∧ j < 9 := by simp at c3; omega
        refine G_skip ?_
        refine GQ_sub (.cons (k := 1) rfl (.cons (k := 2) rfl (.cons (k := 3) rfl (.cons (k := 7) rfl (.nil _))))) ?_
        refine GQ_then ?_
        refine G_region ?_
        refine GL_step rfl (PS_move rfl) ?_
        refine GL_step rfl (PS_fieldAddr fa54_1 rfl) ?_
        refine GL_step rfl (PS_indexAddr ia49 rfl rfl (by omega) (by omega)) ?_
        refine GL_step rfl (PS_fieldAddr fa48_3 rfl) ?_
        refine GL_step rfl (PS_load rfl tys3 (.head _) ((Land.l1.comp (Lens.arr (n := 9) Thing.fl (by omega) (by omega))).comp Thing.l3) rfl rfl) ?_
        refine GL_step rfl (PS_assign rfl) ?_
        refine GL_nil ?_
        refine GQ_sub (.cons (k := 1) rfl (.cons (k := 2) rfl (.cons (k := 3) rfl (.cons (k := 7) rfl (.nil _))))) ?_
        refine GQ_block ?_
        refine GQ_then ?_
        refine G_region ?_
        refine GL_step rfl (PS_add rfl rfl (IntWalk.i64_in _ (by omega))) ?_
        refine GL_step rfl (PS_move rfl) ?_
        refine GL_nil ?_
        refine GQ_sub (.cons (k := 1) rfl (.cons (k := 2) rfl (.cons (k := 3) rfl (.cons (k := 7) rfl (.nil _))))) ?_
        refine GQ_next2_ (k + 1) ((X.things.at j).at_) ?_ ?_ (.cons (k := 1) rfl (.cons (k := 7) rfl (.cons (k := 2) rfl (.cons (k := 3) rfl (.nil _))))) (.refl _)
        · exact ⟨by omega, by omega, by rw [hI13]; simp only [c1, c2, c3, ↓reduceIte, Bool.false_eq_true]⟩
        · omega
  · skip
    have c1p := c1
    try simp only [decide_eq_true_eq, decide_eq_false_iff_not, Bool.not_eq_true', Bool.not_eq_false', Bool.or_eq_true, Bool.and_eq_true, Bool.or_eq_false_iff, Bool.and_eq_false_iff, Int.not_lt, Int.not_le] at c1p
    obtain rfl : k = 10 := by omega
    refine G_exit ?_
    refine GQ_then_exit ?_
    refine GQ_then_exit ?_
    refine GQ_block_exit ?_
    refine GQ_sub (.nil _) ?_
    refine GQ_then ?_
    refine G_seq ?_
    refine G_region ?_
    refine GL_step rfl (PS_assign rfl) ?_
    refine GL_nil ?_
    refine GQ_then ?_
    refine G_ret ?_
    refine GQ_ret rfl (.tmp rfl .nil) ?_
    intro w1 hS; refine ⟨congrArg Value.bool ?_, hS.toKeep⟩; rw [hI13]; rfl
theorem ref_IsInside_spec (X : Land) (i box : Int) (w : World) : Ret Try.prog 36 #[.agg X.enc.toArray, .int .i64 i, .int .i64 box] w fun v w' => v = .bool (X.isIn i box) ∧ Keep w w' := by
  refine Ret_body [] [] Try.func36 rfl rfl rfl (St.start w []) ?_
  refine G_seq ?_
  refine G_region ?_
  refine GL_box rfl rfl rfl (fun b1 => ?_)
  refine GL_step rfl (PS_assign rfl) ?_
  refine GL_nil ?_
  refine GQ_sub (.cons (k := 1) rfl (.cons (k := 2) rfl (.cons (k := 3) rfl (.nil _)))) ?_
  refine GQ_then ?_
  refine G_seq ?_
  refine G_region ?_
  refine GL_makeMap rfl (fun b2 => ?_)
  refine GL_step rfl (PS_assign rfl) ?_
  refine GL_nil ?_
  refine GQ_sub (.cons (k := 1) rfl (.cons (k := 2) rfl (.cons (k := 3) rfl (.cons (k := 7) rfl (.nil _))))) ?_
  refine GQ_then ?_
  refine G_seq ?_
  refine G_block ?_
  refine G_subF (.cons (k := 1) rfl (.cons (k := 2) rfl (.cons (k := 3) rfl (.cons (k := 7) rfl (.nil _))))) ?_
  refine G_loop2_ (fun (j : Int) (s : List Int) => X.isIn i box = Land.inside X box (10 - s.length) j ∧ X.SeenI s j ∧ box ∉ s) (fun (j : Int) (s : List Int) => leftN s) (fun (j : Int) (s : List Int) => [(1, .int .i64 j)]) (fun (j : Int) (s : List Int) => [Res.imap b2 (kvOf s)]) (i) ([]) ?_ rfl rfl (fun j s hI1 => ?_)
  · exact ⟨rfl, Land.SeenI.start X i, by simp⟩
  obtain ⟨hI11, hI12, hI13⟩ := hI1
  refine G_seq ?_
  refine G_seq ?_
  refine G_region ?_
  refine GL_step rfl (PS_move rfl) ?_
  refine GL_step rfl (PS_move rfl) ?_
  refine GL_step rfl (PS_conv (PS_lookup1 Try.underlying83 Try.underlying3 zv4 rfl rfl (.head _)) (seen_eq _ _)) ?_
  refine GL_step rfl (PS_not rfl) ?_
  refine GL_nil ?_
  refine GQ_sub (.cons (k := 1) rfl (.cons (k := 2) rfl (.cons (k := 3) rfl (.cons (k := 7) rfl (.cons (k := 12) rfl (.nil _)))))) ?_
  refine GQ_then ?_
  refine G_cond rfl (fun c1 => ?_) (fun c1 => ?_)
  · skip
    have c1p := c1
    try simp only [decide_eq_true_eq, decide_eq_false_iff_not, Bool.not_eq_true', Bool.not_eq_false', Bool.or_eq_true, Bool.and_eq_true, Bool.or_eq_false_iff, Bool.and_eq_false_iff, Int.not_lt, Int.not_le] at c1p
    have hns : j ∉ s := by simpa using c1
    refine G_skip ?_
    refine GQ_sub (.cons (k := 1) rfl (.cons (k := 2) rfl (.cons (k := 3) rfl (.cons (k := 7) rfl (.nil _))))) ?_
    refine GQ_then ?_
    refine G_block ?_
    refine G_seq ?_
    refine G_seq ?_
    refine G_region ?_
    refine GL_step rfl (PS_move rfl) ?_
    refine GL_step rfl (PS_move rfl) ?_
    refine GL_step rfl (PS_eql rfl rfl) ?_
    refine GL_nil ?_
    refine GQ_sub (.cons (k := 1) rfl (.cons (k := 2) rfl (.cons (k := 3) rfl (.cons (k := 7) rfl (.cons (k := 15) rfl (.nil _)))))) ?_
    refine GQ_then ?_
    refine G_cond rfl (fun c2 => ?_) (fun c2 => ?_)
    · skip
      have c2p := c2
      try simp only [decide_eq_true_eq, decide_eq_false_iff_not, Bool.not_eq_true', Bool.not_eq_false', Bool.or_eq_true, Bool.and_eq_true, Bool.or_eq_false_iff, Bool.and_eq_false_iff, Int.not_lt, Int.not_le] at c2p
      refine G_seq ?_
      refine G_region ?_
      refine GL_step rfl (PS_assign rfl) ?_
      refine GL_nil ?_
      refine GQ_sub (.cons (k := 6) rfl (.nil _)) ?_
      refine GQ_then ?_
      refine G_ret ?_
      refine GQ_then_ret ?_
      refine GQ_block_ret ?_
      refine GQ_then_ret ?_
      refine GQ_block_ret ?_
      refine GQ_then_ret ?_
      refine GQ_ret rfl (.tmp rfl .nil) ?_
      intro w1 hS; refine ⟨congrArg Value.bool ?_, hS.toKeep⟩; rw [hI11, hI12.inside1 c2]
    · skip
      have c2p := c2
      try simp only [decide_eq_true_eq, decide_eq_false_iff_not, Bool.not_eq_true', Bool.not_eq_false', Bool.or_eq_true, Bool.and_eq_true, Bool.or_eq_false_iff, Bool.and_eq_false_iff, Int.not_lt, Int.not_le] at c2p
      refine G_skip ?_
      refine GQ_sub (.cons (k := 1) rfl (.cons (k := 2) rfl (.cons (k := 3) rfl (.cons (k := 7) rfl (.nil _))))) ?_
      refine GQ_then ?_
      refine G_seq ?_
      refine G_region ?_
      refine GL_step rfl (PS_move rfl) ?_
      refine GL_step rfl (PS_move rfl) ?_
      refine GL_unit (PU_mapSet Try.underlying83 Try.underlying3 rfl rfl rfl (seen_none hns) .head).1 ?_
      refine GL_nil ?_
      refine GQ_sub (.cons (k := 1) rfl (.cons (k := 2) rfl (.cons (k := 3) rfl (.cons (k := 7) rfl (.nil _))))) ?_
      refine GQ_then ?_
      refine G_seq ?_
      refine G_seq ?_
      refine G_region ?_
      refine GL_step rfl (PS_move rfl) ?_
      refine GL_step rfl (PS_lss rfl rfl) ?_
      refine GL_step rfl (PS_move rfl) ?_
      refine GL_gf (t := 20) rfl rfl rfl (fun q => PS_move rfl) ?_
      refine GL_gf (t := 20) rfl rfl rfl (fun q => PS_gtr (cvE rfl (by rw [q]; rfl)) rfl) ?_
      refine GL_step rfl (PS_or rfl rfl (fun h => by rw [h]; rfl)) ?_
      refine GL_step rfl (PS_move rfl) ?_
      refine GL_gf (t := 24) rfl rfl rfl (fun q => PS_move rfl) ?_
      refine GL_gf (t := 24) rfl rfl rfl (fun q => PS_fieldAddr fa54_1 rfl) ?_
      refine GL_gf (t := 24) rfl rfl rfl (fun q => by have q1 := q; (try simp at q1); exact PS_indexAddr ia49 (cvE rfl (by rw [q]; rfl)) (cvE rfl (by rw [q]; rfl)) (by omega) (by omega)) ?_
      refine GL_gf (t := 24) rfl rfl rfl (fun q => PS_fieldAddr fa48_2 (cvE rfl (by rw [q]; rfl))) ?_
      refine GL_gf (t := 24) rfl rfl rfl (fun q => by have q1 := q; (try simp at q1); exact PS_load (cvE rfl (by rw [q]; rfl)) tys3 (.tail _ (.head _)) ((Land.l1.comp (Lens.arr (n := 9) Thing.fl (by omega) (by omega))).comp Thing.l2) rfl rfl) ?_
      refine GL_gf (t := 24) rfl rfl rfl (fun q => PS_neq (cvE rfl (by rw [q]; rfl)) rfl) ?_
      refine GL_step rfl (PS_or rfl rfl (fun h => by rw [h]; rfl)) ?_
      refine GL_nil ?_
      refine GQ_sub (.cons (k := 1) rfl (.cons (k := 2) rfl (.cons (k := 3) rfl (.cons (k := 7) rfl (.cons (k := 31) rfl (.nil _)))))) ?_
      refine GQ_then ?_
      refine G_cond rfl (fun c3 => ?_) (fun c3 => ?_)
      · skip
        have c3p := c3
        try simp only [decide_eq_true_eq, decide_eq_false_iff_not, Bool.not_eq_true', Bool.not_eq_false', Bool.or_eq_true, Bool.and_eq_true, Bool.or_eq_false_iff, Bool.and_eq_false_iff, Int.not_lt, Int.not_le] at c3p
        refine G_seq ?_
        refine G_region ?_
        refine GL_step rfl (PS_assign rfl) ?_
        refine GL_nil ?_
        refine GQ_sub (.cons (k := 6) rfl (.nil _)) ?_
        refine GQ_then ?_
        refine G_ret ?_
        refine GQ_then_ret ?_
        refine GQ_block_ret ?_
        refine GQ_then_ret ?_
        refine GQ_block_ret ?_
        refine GQ_then_ret ?_
        refine GQ_ret rfl (.tmp rfl .nil) ?_
        intro w1 hS; refine ⟨congrArg Value.bool ?_, hS.toKeep⟩; rw [hI11, hI12.inside2 c2 c3]
      · skip
        have c3p := c3
        try simp only [decide_eq_true_eq, decide_eq_false_iff_not, Bool.not_eq_true', Bool.not_eq_false', Bool.or_eq_true, Bool.and_eq_true, Bool.or_eq_false_iff, Bool.and_eq_false_iff, Int.not_lt, Int.not_le] at c3p
        have hjr : 0 ≤ j ∧ j < 9 ∧ (X.things.at j).whr = 2 := by simp at c3; omega
        have hse := hI12.next hjr.1 hjr.2.1 hns hjr.2.2
        refine G_skip ?_
        refine GQ_sub (.cons (k := 1) rfl (.cons (k := 2) rfl (.cons (k := 3) rfl (.cons (k := 7) rfl (.nil _))))) ?_
        refine GQ_then ?_
        refine G_region ?_
        refine GL_step rfl (PS_move rfl) ?_
        refine GL_step rfl (PS_fieldAddr fa54_1 rfl) ?_
        refine GL_step rfl (PS_indexAddr ia49 rfl rfl (by omega) (by omega)) ?_
        refine GL_step rfl (PS_fieldAddr fa48_3 rfl) ?_
        refine GL_step rfl (PS_load rfl tys3 (.tail _ (.head _)) ((Land.l1.comp (Lens.arr (n := 9) Thing.fl (by omega) (by omega))).comp Thing.l3) rfl rfl) ?_
        refine GL_step rfl (PS_assign rfl) ?_
        refine GL_nil ?_
        refine GQ_sub (.cons (k := 1) rfl (.cons (k := 2) rfl (.cons (k := 3) rfl (.cons (k := 7) rfl (.nil _))))) ?_
        refine GQ_block ?_
        refine GQ_next2_ _ (s ++ [j]) ?_ ?_ (.cons (k := 1) rfl (.cons (k := 2) rfl (.cons (k := 3) rfl (.cons (k := 7) rfl (.nil _))))) (by rw [kvOf_snoc]; exact (.refl _))
        · exact ⟨by rw [hI11, Land.SeenI.inside3 hse c2 c3], hse, by have hbx := of_decide_eq_false c2; simp [hI13]; exact fun e => hbx e.symm⟩
        · have := leftN_snoc hns hjr.1 hjr.2.1; omega
  · skip
    have c1p := c1
    try simp only [decide_eq_true_eq, decide_eq_false_iff_not, Bool.not_eq_true', Bool.not_eq_false', Bool.or_eq_true, Bool.and_eq_true, Bool.or_eq_false_iff, Bool.and_eq_false_iff, Int.not_lt, Int.not_le] at c1p
    have his : j ∈ s := by simpa using c1
    refine G_exit ?_
    refine GQ_then_exit ?_
    refine GQ_then_exit ?_
    refine GQ_block_exit ?_
    refine GQ_sub (.nil _) ?_
    refine GQ_then ?_
    refine G_seq ?_
    refine G_region ?_
    refine GL_step rfl (PS_assign rfl) ?_
    refine GL_nil ?_
    refine GQ_then ?_
    refine G_ret ?_
    refine GQ_ret rfl (.tmp rfl .nil) ?_
    intro w1 hS; refine ⟨congrArg Value.bool ?_, hS.toKeep⟩; rw [hI11, hI12.inside4 his hI13]
theorem land_New_spec  (w : World) : Ret Try.prog 37 #[] w fun v w' => v = .agg Land.new.enc.toArray ∧ Keep w w' := by
  refine Ret_body [] [] Try.func37 rfl rfl rfl (St.start w []) ?_
  refine G_seq ?_
  refine G_region ?_
  refine GL_alloc rfl zv54 rfl (fun b1 => ?_)
  refine GL_nil ?_
  refine GQ_then ?_
  refine G_seq ?_
  refine G_region ?_
  refine GL_alloc rfl zv54 rfl (fun b2 => ?_)
  refine GL_nil ?_
  refine GQ_then ?_
  refine G_seq ?_
  refine G_seq ?_
  refine G_region ?_
  refine GL_step rfl (PS_buildA Try.underlying42 sz3 zv42 rfl (.cons (Lens.arr (n := 6) (i := 0) flI (by decide) (by decide)) rfl rfl rfl (.cons (Lens.arr (n := 6) (i := 1) flI (by decide) (by decide)) rfl rfl rfl (.cons (Lens.arr (n := 6) (i := 2) flI (by decide) (by decide)) rfl rfl rfl (.cons (Lens.arr (n := 6) (i := 3) flI (by decide) (by decide)) rfl rfl rfl (.cons (Lens.arr (n := 6) (i := 4) flI (by decide) (by decide)) rfl rfl rfl (.cons (Lens.arr (n := 6) (i := 5) flI (by decide) (by decide)) rfl rfl rfl .nil))))))) ?_
  refine GL_step rfl (PS_buildA Try.underlying43 sz4 zv43 rfl (.cons (Lens.arr (n := 6) (i := 5) flB (by decide) (by decide)) rfl rfl rfl .nil)) ?_
  refine GL_step rfl (PS_build pl45 zv45 rfl (.cons Room.l0 rfl rfl rfl (.cons Room.l2 rfl rfl rfl (.cons Room.l3 rfl rfl rfl .nil)))) ?_
  refine GL_step rfl (PS_buildA Try.underlying42 sz3 zv42 rfl (.cons (Lens.arr (n := 6) (i := 0) flI (by decide) (by decide)) rfl rfl rfl (.cons (Lens.arr (n := 6) (i := 1) flI (by decide) (by decide)) rfl rfl rfl (.cons (Lens.arr (n := 6) (i := 2) flI (by decide) (by decide)) rfl rfl rfl (.cons (Lens.arr (n := 6) (i := 3) flI (by decide) (by decide)) rfl rfl rfl (.cons (Lens.arr (n := 6) (i := 4) flI (by decide) (by decide)) rfl rfl rfl (.cons (Lens.arr (n := 6) (i := 5) flI (by decide) (by decide)) rfl rfl rfl .nil))))))) ?_
  refine GL_step rfl (PS_build pl45 zv45 rfl (.cons Room.l0 rfl rfl rfl (.cons Room.l2 rfl rfl rfl .nil))) ?_
  refine GL_step rfl (PS_buildA Try.underlying42 sz3 zv42 rfl (.cons (Lens.arr (n := 6) (i := 0) flI (by decide) (by decide)) rfl rfl rfl (.cons (Lens.arr (n := 6) (i := 1) flI (by decide) (by decide)) rfl rfl rfl (.cons (Lens.arr (n := 6) (i := 2) flI (by decide) (by decide)) rfl rfl rfl (.cons (Lens.arr (n := 6) (i := 3) flI (by decide) (by decide)) rfl rfl rfl (.cons (Lens.arr (n := 6) (i := 4) flI (by decide) (by decide)) rfl rfl rfl (.cons (Lens.arr (n := 6) (i := 5) flI (by decide) (by decide)) rfl rfl rfl .nil))))))) ?_
  refine GL_step rfl (PS_build pl45 zv45 rfl (.cons Room.l0 rfl rfl rfl (.cons Room.l2 rfl rfl rfl (.cons Room.l1 rfl rfl rfl .nil)))) ?_
  refine GL_step rfl (PS_buildA Try.underlying42 sz3 zv42 rfl (.cons (Lens.arr (n := 6) (i := 0) flI (by decide) (by decide)) rfl rfl rfl (.cons (Lens.arr (n := 6) (i := 1) flI (by decide) (by decide)) rfl rfl rfl (.cons (Lens.arr (n := 6) (i := 2) flI (by decide) (by decide)) rfl rfl rfl (.cons (Lens.arr (n := 6) (i := 3) flI (by decide) (by decide)) rfl rfl rfl (.cons (Lens.arr (n := 6) (i := 4) flI (by decide) (by decide)) rfl rfl rfl (.cons (Lens.arr (n := 6) (i := 5) flI (by decide) (by decide)) rfl rfl rfl .nil))))))) ?_
  refine GL_step rfl (PS_build pl45 zv45 rfl (.cons Room.l0 rfl rfl rfl (.cons Room.l2 rfl rfl rfl (.cons Room.l1 rfl rfl rfl .nil)))) ?_
  refine GL_step rfl (PS_buildA Try.underlying42 sz3 zv42 rfl (.cons (Lens.arr (n := 6) (i := 0) flI (by decide) (by decide)) rfl rfl rfl (.cons (Lens.arr (n := 6) (i := 1) flI (by decide) (by decide)) rfl rfl rfl (.cons (Lens.arr (n := 6) (i := 2) flI (by decide) (by decide)) rfl rfl rfl (.cons (Lens.arr (n := 6) (i := 3) flI (by decide) (by decide)) rfl rfl rfl (.cons (Lens.arr (n := 6) (i := 4) flI (by decide) (by decide)) rfl rfl rfl (.cons (Lens.arr (n := 6) (i := 5) flI (by decide) (by decide)) rfl rfl rfl .nil))))))) ?_
  refine GL_step rfl (PS_buildA Try.underlying43 sz4 zv43 rfl (.cons (Lens.arr (n := 6) (i := 2) flB (by decide) (by decide)) rfl rfl rfl .nil)) ?_
  refine GL_step rfl (PS_build pl45 zv45 rfl (.cons Room.l0 rfl rfl rfl (.cons Room.l2 rfl rfl rfl (.cons Room.l3 rfl rfl rfl (.cons Room.l1 rfl rfl rfl .nil))))) ?_
  refine GL_step rfl (PS_buildA Try.underlying42 sz3 zv42 rfl (.cons (Lens.arr (n := 6) (i := 0) flI (by decide) (by decide)) rfl rfl rfl (.cons (Lens.arr (n := 6) (i := 1) flI (by decide) (by decide)) rfl rfl rfl (.cons (Lens.arr (n := 6) (i := 2) flI (by decide) (by decide)) rfl rfl rfl (.cons (Lens.arr (n := 6) (i := 3) flI (by decide) (by decide)) rfl rfl rfl (.cons (Lens.arr (n := 6) (i := 4) flI (by decide) (by decide)) rfl rfl rfl (.cons (Lens.arr (n := 6) (i := 5) flI (by decide) (by decide)) rfl rfl rfl .nil))))))) ?_
  refine GL_step rfl (PS_build pl45 zv45 rfl (.cons Room.l0 rfl rfl rfl (.cons Room.l2 rfl rfl rfl .nil))) ?_
  refine GL_bs (cs := encA (n := 6) Room.enc (Vector.replicate 6 default)) (cs' := encA (n := 6) Room.enc Land.roomsV) rfl Try.underlying84 sz45 zv45 (by decide) (by decide) (by kernel_rfl) (.cons (Lens.arr (n := 6) (i := 0) Room.fl (by decide) (by decide)) rfl rfl rfl (.cons (Lens.arr (n := 6) (i := 1) Room.fl (by decide) (by decide)) rfl rfl rfl (.cons (Lens.arr (n := 6) (i := 2) Room.fl (by decide) (by decide)) rfl rfl rfl (.cons (Lens.arr (n := 6) (i := 3) Room.fl (by decide) (by decide)) rfl rfl rfl (.cons (Lens.arr (n := 6) (i := 4) Room.fl (by decide) (by decide)) rfl rfl rfl (.cons (Lens.arr (n := 6) (i := 5) Room.fl (by decide) (by decide)) rfl rfl rfl .nil)))))) ((flA Room.fl).len _) (fun b3 => ?_)
  refine GL_step rfl (PS_len_slice rfl Try.underlying84 rfl) ?_
  refine GL_step rfl (PS_move rfl) ?_
  refine GL_nil ?_
  refine GQ_sub (.cons (k := 0) rfl (.cons (k := 1) rfl (.cons (k := 20) rfl (.cons (k := 21) rfl (.cons (k := 22) rfl (.nil _)))))) ?_
  refine GQ_then ?_
  refine G_block ?_
  refine G_subF (.cons (k := 22) rfl (.cons (k := 0) rfl (.cons (k := 1) rfl (.cons (k := 20) rfl (.cons (k := 21) rfl (.nil _)))))) ?_
  refine G_pull (.tail .head) ?_
  refine G_loop1_ (fun (k : Int) => 0 ≤ k ∧ k ≤ 6) (fun (k : Int) => (6 - k).toNat) (fun (k : Int) => [(22, .int .i64 k)]) (fun (k : Int) => [Res.box b2 54 (Land.enc (Land.newA k.toNat))]) (0) ?_ rfl rfl (fun k hI1 => ?_)
  · exact ⟨Int.le_refl _, by omega⟩
  obtain ⟨hI11, hI12⟩ := hI1
  refine G_seq ?_
  refine G_region ?_
  refine GL_step rfl (PS_lss rfl rfl) ?_
  refine GL_nil ?_
  refine GQ_then ?_
  refine G_seq ?_
  refine G_cond rfl (fun c1 => ?_) (fun c1 => ?_)
  · skip
    have c1p := c1
    try simp only [decide_eq_true_eq, decide_eq_false_iff_not, Bool.not_eq_true', Bool.not_eq_false', Bool.or_eq_true, Bool.and_eq_true, Bool.or_eq_false_iff, Bool.and_eq_false_iff, Int.not_lt, Int.not_le] at c1p
    refine G_skip ?_
    refine GQ_sub (.cons (k := 0) rfl (.cons (k := 1) rfl (.cons (k := 20) rfl (.cons (k := 21) rfl (.cons (k := 22) rfl (.nil _)))))) ?_
    refine GQ_then ?_
    refine G_seq ?_
    refine G_block ?_
    refine G_seq ?_
    refine G_region ?_
    refine GL_step rfl (PS_move rfl) ?_
    refine GL_step rfl (PS_idxS is84 (by decide) (Kn.own (.tail _ (.head _))) rfl rfl (by omega) (by dsimp only; omega)) ?_
    refine GL_step rfl (PS_ldG rfl tya45 (by decide) Room.fl (Kn.own (.tail _ (.head _))) (by simp; omega)) ?_
    refine GL_alloc rfl zv45 rfl (fun b4 => ?_)
    refine GL_step rfl (PS_assign rfl) ?_
    refine GL_unit (PU_store (Lens.id Room.fl.len Room.fl.one) rfl rfl rfl sz45 rfl .head) ?_
    refine GL_nil ?_
    refine GQ_sub (.cons (k := 0) rfl (.cons (k := 1) rfl (.cons (k := 2) rfl (.cons (k := 3) rfl (.cons (k := 20) rfl (.cons (k := 21) rfl (.cons (k := 22) rfl (.nil _)))))))) ?_
    refine GQ_then ?_
    refine G_region ?_
    refine GL_step rfl (PS_move rfl) ?_
    refine GL_step rfl (PS_loadA rfl tya45 (.head _) (Lens.id Room.fl.len Room.fl.one) rfl) ?_
    refine GL_step rfl (PS_fieldAddr fa54_0 rfl) ?_
    refine GL_step rfl (PS_indexAddr ia46 rfl rfl (by omega) (by omega)) ?_
    refine GL_unit (PU_store (Land.l0.comp (Lens.arr (n := 6) Room.fl (by omega) (by omega))) rfl rfl rfl sz45 rfl (.tail .head)) ?_
    refine GL_nil ?_
    refine GQ_sub (.cons (k := 0) rfl (.cons (k := 1) rfl (.cons (k := 20) rfl (.cons (k := 21) rfl (.cons (k := 22) rfl (.nil _)))))) ?_
    refine GQ_block ?_
    refine GQ_then ?_
    refine G_region ?_
    refine GL_step rfl (PS_add rfl rfl (IntWalk.i64_in _ (by omega))) ?_
    refine GL_step rfl (PS_move rfl) ?_
    refine GL_nil ?_
    refine GQ_sub (.cons (k := 0) rfl (.cons (k := 1) rfl (.cons (k := 20) rfl (.cons (k := 21) rfl (.cons (k := 22) rfl (.nil _)))))) ?_
    refine GQ_next1_ (k + 1) ?_ ?_ (.cons (k := 22) rfl (.cons (k := 0) rfl (.cons (k := 1) rfl (.cons (k := 20) rfl (.cons (k := 21) rfl (.nil _)))))) (by rw [Land.newA_step (by omega)]; exact (.cons _ (.refl _)))
    · exact ⟨by omega, by omega⟩
    · omega
  · skip
    have c1p := c1
    try simp only [decide_eq_true_eq, decide_eq_false_iff_not, Bool.not_eq_true', Bool.not_eq_false', Bool.or_eq_true, Bool.and_eq_true, Bool.or_eq_false_iff, Bool.and_eq_false_iff, Int.not_lt, Int.not_le] at c1p
    obtain rfl : k = 6 := by omega
    refine G_exit ?_
    refine GQ_then_exit ?_
    refine GQ_then_exit ?_
    refine GQ_block_exit ?_
    refine GQ_sub (.cons (k := 0) rfl (.cons (k := 1) rfl (.nil _))) ?_
    refine GQ_then ?_
    refine G_seq ?_
    refine G_seq ?_
    refine G_region ?_
    refine GL_step rfl (PS_build pl48 zv48 rfl (.cons Thing.l0 rfl rfl rfl (.cons Thing.l1 rfl rfl rfl .nil))) ?_
    refine GL_step rfl (PS_build pl48 zv48 rfl (.cons Thing.l0 rfl rfl rfl (.cons Thing.l1 rfl rfl rfl (.cons Thing.l3 rfl rfl rfl .nil)))) ?_
    refine GL_step rfl (PS_build pl48 zv48 rfl (.cons Thing.l0 rfl rfl rfl (.cons Thing.l1 rfl rfl rfl .nil))) ?_
    refine GL_step rfl (PS_build pl48 zv48 rfl (.cons Thing.l0 rfl rfl rfl (.cons Thing.l1 rfl rfl rfl (.cons Thing.l3 rfl rfl rfl .nil)))) ?_
    refine GL_step rfl (PS_build pl48 zv48 rfl (.cons Thing.l0 rfl rfl rfl (.cons Thing.l2 rfl rfl rfl (.cons Thing.l3 rfl rfl rfl .nil)))) ?_
    refine GL_step rfl (PS_build pl48 zv48 rfl (.cons Thing.l0 rfl rfl rfl (.cons Thing.l3 rfl rfl rfl .nil))) ?_
    refine GL_step rfl (PS_build pl48 zv48 rfl (.cons Thing.l0 rfl rfl rfl .nil)) ?_
    refine GL_step rfl (PS_build pl48 zv48 rfl (.cons Thing.l0 rfl rfl rfl (.cons Thing.l1 rfl rfl rfl (.cons Thing.l4 rfl rfl rfl .nil)))) ?_
    refine GL_step rfl (PS_build pl48 zv48 rfl (.cons Thing.l0 rfl rfl rfl (.cons Thing.l2 rfl rfl rfl (.cons Thing.l3 rfl rfl rfl .nil)))) ?_
    refine GL_bs (cs := encA (n := 9) Thing.enc (Vector.replicate 9 default)) (cs' := encA (n := 9) Thing.enc Land.thingsV) rfl Try.underlying85 sz48 zv48 (by decide) (by decide) (by kernel_rfl) (.cons (Lens.arr (n := 9) (i := 0) Thing.fl (by decide) (by decide)) rfl rfl rfl (.cons (Lens.arr (n := 9) (i := 1) Thing.fl (by decide) (by decide)) rfl rfl rfl (.cons (Lens.arr (n := 9) (i := 2) Thing.fl (by decide) (by decide)) rfl rfl rfl (.cons (Lens.arr (n := 9) (i := 3) Thing.fl (by decide) (by decide)) rfl rfl rfl (.cons (Lens.arr (n := 9) (i := 4) Thing.fl (by decide) (by decide)) rfl rfl rfl (.cons (Lens.arr (n := 9) (i := 5) Thing.fl (by decide) (by decide)) rfl rfl rfl (.cons (Lens.arr (n := 9) (i := 6) Thing.fl (by decide) (by decide)) rfl rfl rfl (.cons (Lens.arr (n := 9) (i := 7) Thing.fl (by decide) (by decide)) rfl rfl rfl (.cons (Lens.arr (n := 9) (i := 8) Thing.fl (by decide) (by decide)) rfl rfl rfl .nil))))))))) ((flA Thing.fl).len _) (fun b5 => ?_)
    refine GL_step rfl (PS_len_slice rfl Try.underlying85 rfl) ?_
    refine GL_step rfl (PS_move rfl) ?_
    refine GL_nil ?_
    refine GQ_sub (.cons (k := 0) rfl (.cons (k := 1) rfl (.cons (k := 41) rfl (.cons (k := 42) rfl (.cons (k := 43) rfl (.nil _)))))) ?_
    refine GQ_then ?_
    refine G_block ?_
    refine G_subF (.cons (k := 43) rfl (.cons (k := 0) rfl (.cons (k := 1) rfl (.cons (k := 41) rfl (.cons (k := 42) rfl (.nil _)))))) ?_
    refine G_pull (.tail .head) ?_
    refine G_loop1_ (fun (k : Int) => 0 ≤ k ∧ k ≤ 9) (fun (k : Int) => (9 - k).toNat) (fun (k : Int) => [(43, .int .i64 k)]) (fun (k : Int) => [Res.box b2 54 (Land.enc (Land.newB k.toNat))]) (0) ?_ rfl rfl (fun k hI2 => ?_)
    · exact ⟨Int.le_refl _, by omega⟩
    obtain ⟨hI21, hI22⟩ := hI2
    refine G_seq ?_
    refine G_region ?_
    refine GL_step rfl (PS_lss rfl rfl) ?_
    refine GL_nil ?_
    refine GQ_then ?_
    refine G_seq ?_
    refine G_cond rfl (fun c2 => ?_) (fun c2 => ?_)
    · skip
      have c2p := c2
      try simp only [decide_eq_true_eq, decide_eq_false_iff_not, Bool.not_eq_true', Bool.not_eq_false', Bool.or_eq_true, Bool.and_eq_true, Bool.or_eq_false_iff, Bool.and_eq_false_iff, Int.not_lt, Int.not_le] at c2p
      refine G_skip ?_
      refine GQ_sub (.cons (k := 0) rfl (.cons (k := 1) rfl (.cons (k := 41) rfl (.cons (k := 42) rfl (.cons (k := 43) rfl (.nil _)))))) ?_
      refine GQ_then ?_
      refine G_seq ?_
      refine G_block ?_
      refine G_seq ?_
      refine G_region ?_
      refine GL_step rfl (PS_move rfl) ?_
      refine GL_step rfl (PS_idxS is85 (by decide) (Kn.own (.tail _ (.head _))) rfl rfl (by omega) (by dsimp only; omega)) ?_
      refine GL_step rfl (PS_ldG rfl tya48 (by decide) Thing.fl (Kn.own (.tail _ (.head _))) (by simp; omega)) ?_
      refine GL_alloc rfl zv48 rfl (fun b6 => ?_)
      refine GL_step rfl (PS_assign rfl) ?_
      refine GL_unit (PU_store (Lens.id Thing.fl.len Thing.fl.one) rfl rfl rfl sz48 rfl .head) ?_
      refine GL_nil ?_
      refine GQ_sub (.cons (k := 0) rfl (.cons (k := 1) rfl (.cons (k := 4) rfl (.cons (k := 5) rfl (.cons (k := 41) rfl (.cons (k := 42) rfl (.cons (k := 43) rfl (.nil _)))))))) ?_
      refine GQ_then ?_
      refine G_region ?_
      refine GL_step rfl (PS_move rfl) ?_
      refine GL_step rfl (PS_loadA rfl tya48 (.head _) (Lens.id Thing.fl.len Thing.fl.one) rfl) ?_
      refine GL_step rfl (PS_fieldAddr fa54_1 rfl) ?_
      refine GL_step rfl (PS_indexAddr ia49 rfl rfl (by omega) (by omega)) ?_
      refine GL_unit (PU_store (Land.l1.comp (Lens.arr (n := 9) Thing.fl (by omega) (by omega))) rfl rfl rfl sz48 rfl (.tail .head)) ?_
      refine GL_nil ?_
      refine GQ_sub (.cons (k := 0) rfl (.cons (k := 1) rfl (.cons (k := 41) rfl (.cons (k := 42) rfl (.cons (k := 43) rfl (.nil _)))))) ?_
      refine GQ_block ?_
      refine GQ_then ?_
      refine G_region ?_
      refine GL_step rfl (PS_add rfl rfl (IntWalk.i64_in _ (by omega))) ?_
      refine GL_step rfl (PS_move rfl) ?_
      refine GL_nil ?_
      refine GQ_sub (.cons (k := 0) rfl (.cons (k := 1) rfl (.cons (k := 41) rfl (.cons (k := 42) rfl (.cons (k := 43) rfl (.nil _)))))) ?_
      refine GQ_next1_ (k + 1) ?_ ?_ (.cons (k := 43) rfl (.cons (k := 0) rfl (.cons (k := 1) rfl (.cons (k := 41) rfl (.cons (k := 42) rfl (.nil _)))))) (by rw [Land.newB_step (by omega)]; exact (.cons _ (.refl _)))
      · exact ⟨by omega, by omega⟩
      · omega
    · skip
      have c2p := c2
      try simp only [decide_eq_true_eq, decide_eq_false_iff_not, Bool.not_eq_true', Bool.not_eq_false', Bool.or_eq_true, Bool.and_eq_true, Bool.or_eq_false_iff, Bool.and_eq_false_iff, Int.not_lt, Int.not_le] at c2p
      obtain rfl : k = 9 := by omega
      refine G_exit ?_
      refine GQ_then_exit ?_
      refine GQ_then_exit ?_
      refine GQ_block_exit ?_
      refine GQ_sub (.cons (k := 0) rfl (.cons (k := 1) rfl (.nil _))) ?_
      refine GQ_then ?_
      refine G_seq ?_
      refine G_region ?_
      refine GL_step rfl (PS_build pl51 zv51 rfl (.cons Being.l0 rfl rfl rfl (.cons Being.l1 rfl rfl rfl (.cons Being.l2 rfl rfl rfl (.cons Being.l4 rfl rfl rfl .nil))))) ?_
      refine GL_step rfl (PS_fieldAddr fa54_2 rfl) ?_
      refine GL_step rfl (PS_indexAddr ia52 rfl rfl (by decide) (by decide)) ?_
      refine GL_unit (PU_store (Land.l2.comp (Lens.arr (n := 6) Being.fl (by decide) (by decide))) rfl rfl rfl sz51 rfl .head) ?_
      refine GL_nil ?_
      refine GQ_sub (.cons (k := 0) rfl (.cons (k := 1) rfl (.nil _))) ?_
      refine GQ_then ?_
      refine G_seq ?_
      refine G_region ?_
      refine GL_step rfl (PS_build pl51 zv51 rfl (.cons Being.l0 rfl rfl rfl (.cons Being.l1 rfl rfl rfl (.cons Being.l3 rfl rfl rfl (.cons Being.l4 rfl rfl rfl .nil))))) ?_
      refine GL_step rfl (PS_fieldAddr fa54_2 rfl) ?_
      refine GL_step rfl (PS_indexAddr ia52 rfl rfl (by decide) (by decide)) ?_
      refine GL_unit (PU_store (Land.l2.comp (Lens.arr (n := 6) Being.fl (by decide) (by decide))) rfl rfl rfl sz51 rfl .head) ?_
      refine GL_nil ?_
      refine GQ_sub (.cons (k := 0) rfl (.cons (k := 1) rfl (.nil _))) ?_
      refine GQ_then ?_
      refine G_seq ?_
      refine G_region ?_
      refine GL_step rfl (PS_loadA rfl tya54 (.head _) (Lens.id Land.fl.len Land.fl.one) rfl) ?_
      refine GL_unit (PU_store (Lens.id Land.fl.len Land.fl.one) rfl rfl rfl sz54 rfl (.tail (.tail (.tail .head)))) ?_
      refine GL_nil ?_
      refine GQ_sub (.cons (k := 0) rfl (.nil _)) ?_
      refine GQ_then ?_
      refine G_ret ?_
      refine GQ_ret rfl (.cell rfl (.tail _ (.tail _ (.tail _ (.head _)))) (.inl ⟨(by rw [Land.fl.len]; exact tya54), rfl⟩) .nil) ?_
      intro w1 hS; refine ⟨?_, hS.toKeep⟩; rfl
theorem ref_NewLand_1_spec (b : Nat) (X : Land) (a d e : Int) (ha : 0 ≤ a ∧ a < 6) (hd : 0 ≤ d ∧ d < 6) (he : 0 ≤ e ∧ e < 6) : Ctr Try.prog 57 #[.int .i64 a, .int .i64 d, .int .i64 e, .pointer (some ⟨b, 0, none⟩)] [Res.box b 54 X.enc] (fun v B => v = .tuple #[] ∧ B = [Res.box b 54 (X.join a d e).enc]) := by
  have hdm : 0 ≤ (d + 3).tmod 6 ∧ (d + 3).tmod 6 < 6 := ⟨Int.tmod_nonneg _ (by omega), Int.tmod_lt_of_pos _ (by decide)⟩
  intro w hS0
  refine Ret_body _ _ Try.func57 rfl rfl rfl (hS0) ?_
  refine G_planN (N := 20) [0, 0, 0, 0, 8, 24, 0, 64, 0, 256, 0, 1025, 3073, 7363, 15555, 0, 32772, 98308, 262143, 524287] mix (by kernel_rfl) rfl ?_
  refine Plan_float 0 rfl rfl (by kernel_rfl) (OK_s (EX_s (PS_move rfl))) ?_
  refine Plan_float 1 rfl rfl (by kernel_rfl) (OK_s (EX_s (PS_move rfl))) ?_
  refine Plan_float 2 rfl rfl (by kernel_rfl) (OK_s (EX_s (PS_move rfl))) ?_
  refine Plan_float 3 rfl rfl (by kernel_rfl) (OK_s (EX_s (PS_move rfl))) ?_
  refine Plan_float 4 rfl rfl (by kernel_rfl) (OK_s (EX_s (PS_add rfl rfl (IntWalk.i64_in _ (by omega))))) ?_
  refine Plan_float 5 rfl rfl (by kernel_rfl) (OK_s (EX_s (PS_rem rfl rfl (by omega)))) ?_
  refine Plan_float 6 rfl rfl (by kernel_rfl) (OK_s (EX_s (PS_move rfl))) ?_
  refine Plan_float 7 rfl rfl (by kernel_rfl) (OK_s (EX_s (PS_add rfl rfl (IntWalk.i64_in _ (by omega))))) ?_
  refine Plan_float 8 rfl rfl (by kernel_rfl) (OK_s (EX_s (PS_move rfl))) ?_
  refine Plan_float 9 rfl rfl (by kernel_rfl) (OK_s (EX_s (PS_add rfl rfl (IntWalk.i64_in _ (by omega))))) ?_
  refine Plan_float 10 rfl rfl (by kernel_rfl) (OK_s (EX_s (PS_fieldAddr fa54_0 rfl))) ?_
  refine Plan_float 11 rfl rfl (by kernel_rfl) (OK_s (EX_s (PS_indexAddr ia46 rfl rfl (by omega) (by omega)))) ?_
  refine Plan_float 12 rfl rfl (by kernel_rfl) (OK_s (EX_s (PS_fieldAddr fa45_2 rfl))) ?_
  refine Plan_float 13 rfl rfl (by kernel_rfl) (OK_s (EX_s (PS_indexAddr ia42 rfl rfl (by omega) (by omega)))) ?_
  refine Plan_float 15 rfl rfl (by kernel_rfl) (OK_s (EX_s (PS_fieldAddr fa54_0 rfl))) ?_
  refine Plan_float 16 rfl rfl (by kernel_rfl) (OK_s (EX_s (PS_indexAddr ia46 rfl rfl (by omega) (by omega)))) ?_
  refine Plan_float 17 rfl rfl (by kernel_rfl) (OK_s (EX_s (PS_fieldAddr fa45_2 rfl))) ?_
  refine Plan_chain 14 rfl (by kernel_rfl) ?_
  refine GL_unit (PU_store (((Land.l0.comp (Lens.arr (n := 6) Room.fl (by omega) (by omega))).comp Room.l2).comp (Lens.arr (n := 6) flI (by omega) (by omega))) rfl rfl rfl sz3 rfl .head) ?_
  refine GL_hand0 rfl ⟨?_, ?_⟩
  · exact (Pend_okv rfl (OK_s (EX_s (PS_fieldAddr fa45_2 rfl))) rfl rfl (Pend_okv rfl (OK_s (EX_s (PS_indexAddr ia46 rfl rfl (by omega) (by omega)))) rfl rfl (Pend_okv rfl (OK_s (EX_s (PS_fieldAddr fa54_0 rfl))) rfl rfl (Pend_skip (by kernel_rfl) (Pend_skip (by kernel_rfl) (Pend_skip (by kernel_rfl) (Pend_skip (by kernel_rfl) (Pend_okv rfl (OK_s (EX_s (PS_add rfl rfl (IntWalk.i64_in _ (by omega))))) rfl rfl (Pend_okv rfl (OK_s (EX_s (PS_move rfl))) rfl rfl (Pend_skip (by kernel_rfl) (Pend_skip (by kernel_rfl) (Pend_okv rfl (OK_s (EX_s (PS_rem rfl rfl (by omega)))) rfl rfl (Pend_okv rfl (OK_s (EX_s (PS_add rfl rfl (IntWalk.i64_in _ (by omega))))) rfl rfl (Pend_okv rfl (OK_s (EX_s (PS_move rfl))) rfl rfl (Pend_okv rfl (OK_s (EX_s (PS_move rfl))) rfl rfl (Pend_skip (by kernel_rfl) (Pend_skip (by kernel_rfl) Pend_nil)))))))))))))))))
  refine Plan_float 18 rfl rfl (by kernel_rfl) (OK_s (EX_s (PS_indexAddr ia42 rfl rfl (by omega) (by omega)))) ?_
  refine Plan_chain 19 rfl (by kernel_rfl) ?_
  refine GL_unit (PU_store (((Land.l0.comp (Lens.arr (n := 6) Room.fl (by omega) (by omega))).comp Room.l2).comp (Lens.arr (n := 6) flI (by omega) (by omega))) rfl rfl rfl sz3 rfl .head) ?_
  refine GL_hand0 rfl ⟨?_, ?_⟩
  · exact (Pend_skip (by kernel_rfl) (Pend_skip (by kernel_rfl) (Pend_skip (by kernel_rfl) (Pend_skip (by kernel_rfl) (Pend_skip (by kernel_rfl) (Pend_skip (by kernel_rfl) (Pend_skip (by kernel_rfl) (Pend_skip (by kernel_rfl) (Pend_skip (by kernel_rfl) (Pend_skip (by kernel_rfl) (Pend_skip (by kernel_rfl) (Pend_skip (by kernel_rfl) (Pend_skip (by kernel_rfl) (Pend_skip (by kernel_rfl) (Pend_skip (by kernel_rfl) (Pend_skip (by kernel_rfl) (Pend_skip (by kernel_rfl) (Pend_skip (by kernel_rfl) Pend_nil))))))))))))))))))
  refine Plan_end (by kernel_rfl) ?_
  refine GQ_end rfl .nil ?_
  intro w1 hS
  have hS := (hS.perm (Pulls.perm (.cons .head .nil))).headL
  exact ⟨_, ⟨rfl, rfl⟩, hS⟩
theorem ref_NewLand_spec  (w : World) : Ret Try.prog 38 #[] w fun v w' => v = .agg Land.new.enc.toArray ∧ Keep w w' := by
  refine Ret_body [] [] Try.func38 rfl rfl rfl (St.start w []) ?_
  refine G_seq ?_
  refine G_region ?_
  refine GL_alloc rfl zv54 rfl (fun b1 => ?_)
  refine GL_nil ?_
  refine GQ_then ?_
  refine G_seq ?_
  refine G_region ?_
  refine GL_alloc rfl zv54 rfl (fun b2 => ?_)
  refine GL_nil ?_
  refine GQ_then ?_
  refine G_seq ?_
  refine G_region ?_
  refine GL_bs (cs := encA (n := 6) encS (Vector.replicate 6 default)) rfl Try.underlying23 sz9 zv9 (by decide) (by decide) (by kernel_rfl) (.cons (Lens.arr (n := 6) (i := 0) flS (by decide) (by decide)) rfl rfl rfl (.cons (Lens.arr (n := 6) (i := 1) flS (by decide) (by decide)) rfl rfl rfl (.cons (Lens.arr (n := 6) (i := 2) flS (by decide) (by decide)) rfl rfl rfl (.cons (Lens.arr (n := 6) (i := 3) flS (by decide) (by decide)) rfl rfl rfl (.cons (Lens.arr (n := 6) (i := 4) flS (by decide) (by decide)) rfl rfl rfl (.cons (Lens.arr (n := 6) (i := 5) flS (by decide) (by decide)) rfl rfl rfl .nil)))))) ((flA flS).len _) (fun b3 => ?_)
  refine GL_step rfl (PS_assign rfl) ?_
  refine GL_nil ?_
  refine GQ_sub (.cons (k := 0) rfl (.cons (k := 1) rfl (.cons (k := 2) rfl (.nil _)))) ?_
  refine GQ_then ?_
  refine G_seq ?_
  refine G_seq ?_
  refine G_region ?_
  refine GL_step rfl (PS_move rfl) ?_
  refine GL_step rfl (PS_len_slice rfl Try.underlying23 rfl) ?_
  refine GL_step rfl (PS_move rfl) ?_
  refine GL_nil ?_
  refine GQ_sub (.cons (k := 0) rfl (.cons (k := 1) rfl (.cons (k := 2) rfl (.cons (k := 7) rfl (.cons (k := 8) rfl (.nil _)))))) ?_
  refine GQ_then ?_
  refine G_block ?_
  refine G_subF (.cons (k := 8) rfl (.cons (k := 0) rfl (.cons (k := 1) rfl (.cons (k := 2) rfl (.cons (k := 7) rfl (.nil _)))))) ?_
  refine G_pull (.tail .head) ?_
  refine G_loop1_ (fun (k : Int) => 0 ≤ k ∧ k ≤ 6) (fun (k : Int) => (6 - k).toNat) (fun (k : Int) => [(8, .int .i64 k)]) (fun (k : Int) => [Res.box b2 54 (Land.enc (Land.newN k.toNat))]) (0) ?_ rfl rfl (fun k hI1 => ?_)
  · exact ⟨Int.le_refl _, by omega⟩
  obtain ⟨hI11, hI12⟩ := hI1
  refine G_seq ?_
  refine G_region ?_
  refine GL_step rfl (PS_lss rfl rfl) ?_
  refine GL_nil ?_
  refine GQ_then ?_
  refine G_seq ?_
  refine G_cond rfl (fun c1 => ?_) (fun c1 => ?_)
  · skip
    have c1p := c1
    try simp only [decide_eq_true_eq, decide_eq_false_iff_not, Bool.not_eq_true', Bool.not_eq_false', Bool.or_eq_true, Bool.and_eq_true, Bool.or_eq_false_iff, Bool.and_eq_false_iff, Int.not_lt, Int.not_le] at c1p
    refine G_skip ?_
    refine GQ_sub (.cons (k := 0) rfl (.cons (k := 1) rfl (.cons (k := 2) rfl (.cons (k := 7) rfl (.cons (k := 8) rfl (.nil _)))))) ?_
    refine GQ_then ?_
    refine G_seq ?_
    refine G_block ?_
    refine G_seq ?_
    refine G_region ?_
    refine GL_step rfl (PS_move rfl) ?_
    refine GL_step rfl (PS_assign rfl) ?_
    refine GL_nil ?_
    refine GQ_sub (.cons (k := 0) rfl (.cons (k := 1) rfl (.cons (k := 2) rfl (.cons (k := 3) rfl (.cons (k := 7) rfl (.cons (k := 8) rfl (.nil _))))))) ?_
    refine GQ_then ?_
    refine G_region ?_
    refine GL_step rfl (PS_move rfl) ?_
    refine GL_step rfl (PS_move rfl) ?_
    refine GL_step rfl (PS_move rfl) ?_
    refine GL_step rfl (PS_idxS is23 (by decide) (Kn.own (.tail _ (.head _))) rfl rfl (by omega) (by dsimp only; omega)) ?_
    refine GL_step rfl (PS_ldStr rfl tys9 (Kn.own (.tail _ (.head _))) (by simp; omega)) ?_
    refine GL_step rfl (PS_move rfl) ?_
    refine GL_step rfl (PS_geq rfl rfl) ?_
    refine GL_step rfl (PS_move rfl) ?_
    refine GL_gt (t := 18) rfl rfl rfl (fun q => PS_move rfl) ?_
    refine GL_gt (t := 18) rfl rfl rfl (fun q => PS_leq (cvE rfl q) rfl) ?_
    refine GL_step rfl (PS_and rfl rfl (fun h => h)) ?_
    refine GL_step rfl (PS_build pl45 zv45 rfl (.cons Room.l0 rfl rfl rfl (.cons Room.l1 rfl rfl rfl .nil))) ?_
    refine GL_step rfl (PS_fieldAddr fa54_0 rfl) ?_
    refine GL_step rfl (PS_indexAddr ia46 rfl rfl (by omega) (by omega)) ?_
    refine GL_unit (PU_store (Land.l0.comp (Lens.arr (n := 6) Room.fl (by omega) (by omega))) rfl rfl rfl sz45 rfl .head) ?_
    refine GL_nil ?_
    refine GQ_sub (.cons (k := 0) rfl (.cons (k := 1) rfl (.cons (k := 2) rfl (.cons (k := 7) rfl (.cons (k := 8) rfl (.nil _)))))) ?_
    refine GQ_block ?_
    refine GQ_then ?_
    refine G_region ?_
    refine GL_step rfl (PS_add rfl rfl (IntWalk.i64_in _ (by omega))) ?_
    refine GL_step rfl (PS_move rfl) ?_
    refine GL_nil ?_
    refine GQ_sub (.cons (k := 0) rfl (.cons (k := 1) rfl (.cons (k := 2) rfl (.cons (k := 7) rfl (.cons (k := 8) rfl (.nil _)))))) ?_
    refine GQ_next1_ (k + 1) ?_ ?_ (.cons (k := 8) rfl (.cons (k := 0) rfl (.cons (k := 1) rfl (.cons (k := 2) rfl (.cons (k := 7) rfl (.nil _)))))) (by rw [Land.newN_step (by omega)]; exact (.refl _))
    · exact ⟨by omega, by omega⟩
    · omega
  · skip
    have c1p := c1
    try simp only [decide_eq_true_eq, decide_eq_false_iff_not, Bool.not_eq_true', Bool.not_eq_false', Bool.or_eq_true, Bool.and_eq_true, Bool.or_eq_false_iff, Bool.and_eq_false_iff, Int.not_lt, Int.not_le] at c1p
    obtain rfl : k = 6 := by omega
    refine G_exit ?_
    refine GQ_then_exit ?_
    refine GQ_then_exit ?_
    refine GQ_block_exit ?_
    refine GQ_sub (.cons (k := 0) rfl (.cons (k := 1) rfl (.nil _))) ?_
    refine GQ_then ?_
    refine G_seq ?_
    refine G_region ?_
    refine GL_step rfl (PS_makeFunc (.cons rfl .nil)) ?_
    refine GL_step rfl (PS_assign rfl) ?_
    refine GL_nil ?_
    refine GQ_sub (.cons (k := 0) rfl (.cons (k := 1) rfl (.cons (k := 4) rfl (.nil _)))) ?_
    refine GQ_then ?_
    refine G_seq ?_
    refine G_region ?_
    refine GL_step rfl (PS_move rfl) ?_
    refine GL_callLV rfl cf57 rfl (.cons rfl (.cons rfl (.cons rfl .nil))) (.cons .head .nil) (ref_NewLand_1_spec _ _ _ _ _ (by decide) (by decide) (by decide)) (fun v1 B hv => ?_)
    obtain ⟨rfl, rfl⟩ := hv
    refine GL_nil ?_
    refine GQ_sub (.cons (k := 0) rfl (.cons (k := 1) rfl (.cons (k := 4) rfl (.nil _)))) ?_
    refine GQ_then ?_
    refine G_seq ?_
    refine G_region ?_
    refine GL_step rfl (PS_move rfl) ?_
    refine GL_callLV rfl cf57 rfl (.cons rfl (.cons rfl (.cons rfl .nil))) (.cons .head .nil) (ref_NewLand_1_spec _ _ _ _ _ (by decide) (by decide) (by decide)) (fun v2 B hv => ?_)
    obtain ⟨rfl, rfl⟩ := hv
    refine GL_nil ?_
    refine GQ_sub (.cons (k := 0) rfl (.cons (k := 1) rfl (.cons (k := 4) rfl (.nil _)))) ?_
    refine GQ_then ?_
    refine G_seq ?_
    refine G_region ?_
    refine GL_step rfl (PS_move rfl) ?_
    refine GL_callLV rfl cf57 rfl (.cons rfl (.cons rfl (.cons rfl .nil))) (.cons .head .nil) (ref_NewLand_1_spec _ _ _ _ _ (by decide) (by decide) (by decide)) (fun v3 B hv => ?_)
    obtain ⟨rfl, rfl⟩ := hv
    refine GL_nil ?_
    refine GQ_sub (.cons (k := 0) rfl (.cons (k := 1) rfl (.cons (k := 4) rfl (.nil _)))) ?_
    refine GQ_then ?_
    refine G_seq ?_
    refine G_region ?_
    refine GL_step rfl (PS_move rfl) ?_
    refine GL_callLV rfl cf57 rfl (.cons rfl (.cons rfl (.cons rfl .nil))) (.cons .head .nil) (ref_NewLand_1_spec _ _ _ _ _ (by decide) (by decide) (by decide)) (fun v4 B hv => ?_)
    obtain ⟨rfl, rfl⟩ := hv
    refine GL_nil ?_
    refine GQ_sub (.cons (k := 0) rfl (.cons (k := 1) rfl (.cons (k := 4) rfl (.nil _)))) ?_
    refine GQ_then ?_
    refine G_seq ?_
    refine G_region ?_
    refine GL_step rfl (PS_move rfl) ?_
    refine GL_callLV rfl cf57 rfl (.cons rfl (.cons rfl (.cons rfl .nil))) (.cons .head .nil) (ref_NewLand_1_spec _ _ _ _ _ (by decide) (by decide) (by decide)) (fun v5 B hv => ?_)
    obtain ⟨rfl, rfl⟩ := hv
    refine GL_nil ?_
    refine GQ_sub (.cons (k := 0) rfl (.cons (k := 1) rfl (.nil _))) ?_
    refine GQ_then ?_
    refine G_seq ?_
    refine G_region ?_
    refine GL_step rfl (PS_fieldAddr fa54_0 rfl) ?_
    refine GL_step rfl (PS_indexAddr ia46 rfl rfl (by decide) (by decide)) ?_
    refine GL_step rfl (PS_fieldAddr fa45_3 rfl) ?_
    refine GL_step rfl (PS_indexAddr ia43 rfl rfl (by decide) (by decide)) ?_
    refine GL_unit (PU_store (((Land.l0.comp (Lens.arr (n := 6) Room.fl (by decide) (by decide))).comp Room.l3).comp (Lens.arr (n := 6) flB (by decide) (by decide))) rfl rfl rfl sz4 rfl .head) ?_
    refine GL_step rfl (PS_fieldAddr fa54_0 rfl) ?_
    refine GL_step rfl (PS_indexAddr ia46 rfl rfl (by decide) (by decide)) ?_
    refine GL_step rfl (PS_fieldAddr fa45_3 rfl) ?_
    refine GL_step rfl (PS_indexAddr ia43 rfl rfl (by decide) (by decide)) ?_
    refine GL_unit (PU_store (((Land.l0.comp (Lens.arr (n := 6) Room.fl (by decide) (by decide))).comp Room.l3).comp (Lens.arr (n := 6) flB (by decide) (by decide))) rfl rfl rfl sz4 rfl .head) ?_
    refine GL_nil ?_
    refine GQ_sub (.cons (k := 0) rfl (.cons (k := 1) rfl (.nil _))) ?_
    refine GQ_then ?_
    refine G_seq ?_
    refine G_region ?_
    refine GL_step rfl (PS_build pl48 zv48 rfl (.cons Thing.l0 rfl rfl rfl (.cons Thing.l1 rfl rfl rfl .nil))) ?_
    refine GL_step rfl (PS_build pl48 zv48 rfl (.cons Thing.l0 rfl rfl rfl (.cons Thing.l1 rfl rfl rfl (.cons Thing.l3 rfl rfl rfl .nil)))) ?_
    refine GL_step rfl (PS_build pl48 zv48 rfl (.cons Thing.l0 rfl rfl rfl (.cons Thing.l1 rfl rfl rfl .nil))) ?_
    refine GL_step rfl (PS_build pl48 zv48 rfl (.cons Thing.l0 rfl rfl rfl (.cons Thing.l1 rfl rfl rfl (.cons Thing.l3 rfl rfl rfl .nil)))) ?_
    refine GL_step rfl (PS_build pl48 zv48 rfl (.cons Thing.l0 rfl rfl rfl (.cons Thing.l2 rfl rfl rfl (.cons Thing.l3 rfl rfl rfl .nil)))) ?_
    refine GL_step rfl (PS_build pl48 zv48 rfl (.cons Thing.l0 rfl rfl rfl (.cons Thing.l3 rfl rfl rfl .nil))) ?_
    refine GL_step rfl (PS_build pl48 zv48 rfl (.cons Thing.l0 rfl rfl rfl .nil)) ?_
    refine GL_step rfl (PS_build pl48 zv48 rfl (.cons Thing.l0 rfl rfl rfl (.cons Thing.l1 rfl rfl rfl (.cons Thing.l4 rfl rfl rfl .nil)))) ?_
    refine GL_step rfl (PS_build pl48 zv48 rfl (.cons Thing.l0 rfl rfl rfl (.cons Thing.l2 rfl rfl rfl (.cons Thing.l3 rfl rfl rfl .nil)))) ?_
    refine GL_step rfl (PS_buildA Try.underlying49 sz48 zv49 rfl (.cons (Lens.arr (n := 9) (i := 0) Thing.fl (by decide) (by decide)) rfl rfl rfl (.cons (Lens.arr (n := 9) (i := 1) Thing.fl (by decide) (by decide)) rfl rfl rfl (.cons (Lens.arr (n := 9) (i := 2) Thing.fl (by decide) (by decide)) rfl rfl rfl (.cons (Lens.arr (n := 9) (i := 3) Thing.fl (by decide) (by decide)) rfl rfl rfl (.cons (Lens.arr (n := 9) (i := 4) Thing.fl (by decide) (by decide)) rfl rfl rfl (.cons (Lens.arr (n := 9) (i := 5) Thing.fl (by decide) (by decide)) rfl rfl rfl (.cons (Lens.arr (n := 9) (i := 6) Thing.fl (by decide) (by decide)) rfl rfl rfl (.cons (Lens.arr (n := 9) (i := 7) Thing.fl (by decide) (by decide)) rfl rfl rfl (.cons (Lens.arr (n := 9) (i := 8) Thing.fl (by decide) (by decide)) rfl rfl rfl .nil)))))))))) ?_
    refine GL_step rfl (PS_fieldAddr fa54_1 rfl) ?_
    refine GL_unit (PU_store Land.l1 rfl rfl rfl sz49 rfl .head) ?_
    refine GL_nil ?_
    refine GQ_sub (.cons (k := 0) rfl (.cons (k := 1) rfl (.nil _))) ?_
    refine GQ_then ?_
    refine G_seq ?_
    refine G_region ?_
    refine GL_step rfl (PS_build pl51 zv51 rfl (.cons Being.l0 rfl rfl rfl (.cons Being.l1 rfl rfl rfl (.cons Being.l2 rfl rfl rfl (.cons Being.l4 rfl rfl rfl .nil))))) ?_
    refine GL_step rfl (PS_fieldAddr fa54_2 rfl) ?_
    refine GL_step rfl (PS_indexAddr ia52 rfl rfl (by decide) (by decide)) ?_
    refine GL_unit (PU_store (Land.l2.comp (Lens.arr (n := 6) Being.fl (by decide) (by decide))) rfl rfl rfl sz51 rfl .head) ?_
    refine GL_nil ?_
    refine GQ_sub (.cons (k := 0) rfl (.cons (k := 1) rfl (.nil _))) ?_
    refine GQ_then ?_
    refine G_seq ?_
    refine G_region ?_
    refine GL_step rfl (PS_build pl51 zv51 rfl (.cons Being.l0 rfl rfl rfl (.cons Being.l1 rfl rfl rfl (.cons Being.l3 rfl rfl rfl (.cons Being.l4 rfl rfl rfl .nil))))) ?_
    refine GL_step rfl (PS_fieldAddr fa54_2 rfl) ?_
    refine GL_step rfl (PS_indexAddr ia52 rfl rfl (by decide) (by decide)) ?_
    refine GL_unit (PU_store (Land.l2.comp (Lens.arr (n := 6) Being.fl (by decide) (by decide))) rfl rfl rfl sz51 rfl .head) ?_
    refine GL_nil ?_
    refine GQ_sub (.cons (k := 0) rfl (.cons (k := 1) rfl (.nil _))) ?_
    refine GQ_then ?_
    refine G_seq ?_
    refine G_region ?_
    refine GL_step rfl (PS_loadA rfl tya54 (.head _) (Lens.id Land.fl.len Land.fl.one) rfl) ?_
    refine GL_unit (PU_store (Lens.id Land.fl.len Land.fl.one) rfl rfl rfl sz54 rfl (.tail (.tail .head))) ?_
    refine GL_nil ?_
    refine GQ_sub (.cons (k := 0) rfl (.nil _)) ?_
    refine GQ_then ?_
    refine G_ret ?_
    refine GQ_ret rfl (.cell rfl (.tail _ (.tail _ (.head _))) (.inl ⟨(by rw [Land.fl.len]; exact tya54), rfl⟩) .nil) ?_
    intro w1 hS; refine ⟨?_, hS.toKeep⟩; kernel_rfl
theorem land_Opposite_spec (d : Int) (w : World) : Ret Try.prog 39 #[.int .i64 d] w fun v w' => v = .int .i64 (Land.opposite d) ∧ Keep w w' := by
  refine Ret_body [] [] Try.func39 rfl rfl rfl (St.start w []) ?_
  refine G_seq ?_
  refine G_region ?_
  refine GL_step rfl (PS_assign rfl) ?_
  refine GL_nil ?_
  refine GQ_sub (.cons (k := 0) rfl (.nil _)) ?_
  refine GQ_then ?_
  refine G_seq ?_
  refine G_region ?_
  refine GL_step rfl (PS_move rfl) ?_
  refine GL_step rfl (PS_min2 rfl rfl) ?_
  refine GL_step rfl (PS_max2 rfl rfl) ?_
  refine GL_step rfl (PS_add rfl rfl (IntWalk.i64_in _ (by omega))) ?_
  refine GL_step rfl (PS_rem rfl rfl (by omega)) ?_
  refine GL_step rfl (PS_assign rfl) ?_
  refine GL_nil ?_
  refine GQ_sub (.cons (k := 2) rfl (.nil _)) ?_
  refine GQ_then ?_
  refine G_ret ?_
  refine GQ_ret rfl (.tmp rfl .nil) ?_
  intro w1 hS; refine ⟨?_, hS.toKeep⟩; rfl
theorem law_stands_spec  (w : World) : Ret Try.prog 40 #[] w fun v w' => v = .bool true ∧ Keep w w' := by
  refine Ret_body [] [] Try.func40 rfl rfl rfl (St.start w []) ?_
  refine G_seq ?_
  refine G_region ?_
  refine GL_step rfl (PS_assign rfl) ?_
  refine GL_nil ?_
  refine GQ_sub (.nil _) ?_
  refine GQ_then ?_
  refine G_seq ?_
  refine G_region ?_
  refine GL_pure rfl cf37 .nil (fun w hS => land_New_spec w) ?_
  refine GL_pure rfl cf27 (.cons rfl .nil) (fun w hS => land_Good_spec _ w) ?_
  refine GL_step rfl (PS_move rfl) ?_
  refine GL_pgt (t := 3) rfl rfl rfl (fun q => PC_of cf39 (.cons rfl .nil) (fun w hS => land_Opposite_spec _ w)) ?_
  refine GL_gt (t := 3) rfl rfl rfl (fun q => PS_eql (cvE rfl q) rfl) ?_
  refine GL_step rfl (PS_and rfl rfl (fun h => h)) ?_
  refine GL_step rfl (PS_assign rfl) ?_
  refine GL_nil ?_
  refine GQ_sub (.cons (k := 0) rfl (.nil _)) ?_
  refine GQ_then ?_
  refine G_ret ?_
  refine GQ_ret rfl (.tmp rfl .nil) ?_
  intro w1 hS; refine ⟨congrArg Value.bool ?_, hS.toKeep⟩; simp only [Land.new_good, Land.opposite_1]; rfl
theorem law_LandStands_spec (X : Land) (i j wh : Int) (w : World) : Ret Try.prog 9 #[.agg X.enc.toArray, .int .i64 i, .int .i64 j, .int .i64 wh] w fun v w' => v = .bool true ∧ Keep w w' := by
  have hl9 := Land.hasL_len X wh j (9 : Int).toNat
  rw [← Land.has_eq] at hl9
  have e9 : (9 : Int).toNat = 9 := rfl
  refine Ret_body [] [] Try.func9 rfl rfl rfl (St.start w []) ?_
  refine G_seq ?_
  refine G_region ?_
  refine GL_box rfl rfl rfl (fun b1 => ?_)
  refine GL_step rfl (PS_assign rfl) ?_
  refine GL_nil ?_
  refine GQ_sub (.cons (k := 1) rfl (.cons (k := 2) rfl (.cons (k := 3) rfl (.cons (k := 4) rfl (.nil _))))) ?_
  refine GQ_then ?_
  refine G_seq ?_
  refine G_region ?_
  refine GL_step rfl (PS_loadA rfl tya54 (.head _) (Lens.id Land.fl.len Land.fl.one) rfl) ?_
  refine GL_step rfl (PS_move rfl) ?_
  refine GL_pure rfl cf29 (.cons rfl (.cons rfl .nil)) (fun w hS => land_Room_spec _ _ w) ?_
  refine GL_step rfl (PS_move rfl) ?_
  refine GL_step rfl (PS_extract rfl rfl) ?_
  refine GL_step rfl (PS_extract rfl rfl) ?_
  refine GL_step rfl (PS_assign rfl) ?_
  refine GL_step rfl (PS_assign rfl) ?_
  refine GL_nil ?_
  refine GQ_sub (.cons (k := 1) rfl (.cons (k := 2) rfl (.cons (k := 3) rfl (.cons (k := 4) rfl (.cons (k := 9) rfl (.cons (k := 10) rfl (.nil _))))))) ?_
  refine GQ_then ?_
  refine G_seq ?_
  refine G_region ?_
  refine GL_step rfl (PS_loadA rfl tya54 (.head _) (Lens.id Land.fl.len Land.fl.one) rfl) ?_
  refine GL_step rfl (PS_move rfl) ?_
  refine GL_pure rfl cf31 (.cons rfl (.cons rfl .nil)) (fun w hS => ref_RoomOf_spec _ _ w) ?_
  refine GL_step rfl (PS_move rfl) ?_
  refine GL_step rfl (PS_extract rfl rfl) ?_
  refine GL_step rfl (PS_extract rfl rfl) ?_
  refine GL_step rfl (PS_assign rfl) ?_
  refine GL_step rfl (PS_assign rfl) ?_
  refine GL_nil ?_
  refine GQ_sub (.cons (k := 1) rfl (.cons (k := 2) rfl (.cons (k := 3) rfl (.cons (k := 4) rfl (.cons (k := 9) rfl (.cons (k := 10) rfl (.cons (k := 11) rfl (.cons (k := 12) rfl (.nil _))))))))) ?_
  refine GQ_then ?_
  refine G_seq ?_
  refine G_region ?_
  refine GL_step rfl (PS_move rfl) ?_
  refine GL_step rfl (PS_min2 rfl rfl) ?_
  refine GL_step rfl (PS_max2 rfl rfl) ?_
  refine GL_step rfl (PS_add rfl rfl (IntWalk.i64_in _ (by omega))) ?_
  refine GL_step rfl (PS_rem rfl rfl (by omega)) ?_
  refine GL_step rfl (PS_assign rfl) ?_
  refine GL_nil ?_
  refine GQ_sub (.cons (k := 1) rfl (.cons (k := 2) rfl (.cons (k := 3) rfl (.cons (k := 4) rfl (.cons (k := 9) rfl (.cons (k := 10) rfl (.cons (k := 11) rfl (.cons (k := 12) rfl (.cons (k := 13) rfl (.nil _)))))))))) ?_
  refine GQ_then ?_
  refine G_seq ?_
  refine G_planN (N := 52) [0, 0, 3, 7, 15, 15, 63, 127, 255, 511, 1023, 511, 4095, 8191, 16383, 32767, 65535, 65535, 65535, 524287, 65535, 65535, 65535, 8388607, 16777215, 33554431, 67108863, 134217727, 134217727, 134217727, 1073741823, 134217727, 134217727, 134217727, 17179869183, 34359738367, 68719476735, 137438953471, 274877906943, 549755813887, 1099511627775, 2199023255551, 4398046511103, 8796093022207, 17592186044415, 8796093022207, 70368744177663, 140737488355327, 281474976710655, 562949953421311, 1125899906842623, 2251799813685247] mix (by kernel_rfl) rfl ?_
  refine Plan_float 0 rfl rfl (by kernel_rfl) (OK_s (EX_s (PS_move rfl))) ?_
  refine Plan_float 1 rfl rfl (by kernel_rfl) (OK_s (EX_s (PS_move rfl))) ?_
  refine Plan_float 2 rfl rfl (by kernel_rfl) (OK_s (EX_s (PS_eql rfl rfl))) ?_
  refine Plan_float 3 rfl rfl (by kernel_rfl) (OK_s (EX_s (PS_move rfl))) ?_
  refine Plan_float 4 rfl rfl (by kernel_rfl) (OK_gt (t := 34) rfl rfl (fun q => EX_s (PS_move rfl))) ?_
  refine Plan_float 5 rfl rfl (by kernel_rfl) (OK_gt (t := 34) rfl rfl (fun q => EX_s (PS_move rfl))) ?_
  refine Plan_float 6 rfl rfl (by kernel_rfl) (OK_gt (t := 34) rfl rfl (fun q => EX_s (PS_eql_bool Try.underlying4 (cvE rfl q) (cvE rfl q)))) ?_
  refine Plan_float 7 rfl rfl (by kernel_rfl) (OK_s (EX_s (PS_and rfl rfl (fun h => h)))) ?_
  refine Plan_float 8 rfl rfl (by kernel_rfl) (OK_s (EX_s (PS_move rfl))) ?_
  refine Plan_float 9 rfl rfl (by kernel_rfl) (OK_gt (t := 39) rfl rfl (fun q => EX_s (PS_loadA rfl tya54 (.head _) (Lens.id Land.fl.len Land.fl.one) rfl))) ?_
  refine Plan_float 10 rfl rfl (by kernel_rfl) (OK_gt (t := 39) rfl rfl (fun q => EX_c (PC_of cf27 (.cons (cvE rfl q) .nil) (fun w hS => land_Good_spec _ w)))) ?_
  refine Plan_float 11 rfl rfl (by kernel_rfl) (OK_gt (t := 39) rfl rfl (fun q => EX_s (PS_loadA rfl tya54 (.head _) (Lens.id Land.fl.len Land.fl.one) rfl))) ?_
  refine Plan_float 12 rfl rfl (by kernel_rfl) (OK_gt (t := 39) rfl rfl (fun q => EX_c (PC_of cf32 (.cons (cvE rfl q) .nil) (fun w hS => ref_GoodLand_spec _ w)))) ?_
  refine Plan_float 13 rfl rfl (by kernel_rfl) (OK_gt (t := 39) rfl rfl (fun q => EX_s (PS_eql_bool Try.underlying4 (cvE rfl q) (cvE rfl q)))) ?_
  refine Plan_float 14 rfl rfl (by kernel_rfl) (OK_s (EX_s (PS_and rfl rfl (fun h => h)))) ?_
  refine Plan_float 15 rfl rfl (by kernel_rfl) (OK_s (EX_s (PS_move rfl))) ?_
  refine Plan_float 16 rfl rfl (by kernel_rfl) (OK_gt (t := 46) rfl rfl (fun q => EX_s (PS_loadA rfl tya54 (.head _) (Lens.id Land.fl.len Land.fl.one) rfl))) ?_
  refine Plan_float 17 rfl rfl (by kernel_rfl) (OK_gt (t := 46) rfl rfl (fun q => EX_s (PS_move rfl))) ?_
  refine Plan_float 18 rfl rfl (by kernel_rfl) (OK_gt (t := 46) rfl rfl (fun q => EX_s (PS_move rfl))) ?_
  refine Plan_float 20 rfl rfl (by kernel_rfl) (OK_gt (t := 46) rfl rfl (fun q => EX_s (PS_loadA rfl tya54 (.head _) (Lens.id Land.fl.len Land.fl.one) rfl))) ?_
  refine Plan_float 21 rfl rfl (by kernel_rfl) (OK_gt (t := 46) rfl rfl (fun q => EX_s (PS_move rfl))) ?_
  refine Plan_float 22 rfl rfl (by kernel_rfl) (OK_gt (t := 46) rfl rfl (fun q => EX_s (PS_move rfl))) ?_
  refine Plan_chain 19 rfl (by kernel_rfl) ?_
  refine GL_fork 46 rfl (fun c1 => ?_) (fun c1 => ?_)
  · skip
    have c1p := c1
    try simp only [decide_eq_true_eq, decide_eq_false_iff_not, Bool.not_eq_true', Bool.not_eq_false', Bool.or_eq_true, Bool.and_eq_true, Bool.or_eq_false_iff, Bool.and_eq_false_iff, Int.not_lt, Int.not_le] at c1p
    refine GL_callL_g (t := 46) rfl (by first | rfl | exact lkE rfl c1) rfl cf34 (.cons (cvE rfl c1) (.cons (cvE rfl c1) (.cons (cvE rfl c1) .nil))) .nil (land_Has_spec _ _ _) (fun v1 B hv => ?_)
    obtain ⟨y2, rfl, y3, rfl⟩ := hv
    refine GL_hand rfl ⟨?_, ?_⟩
    · exact (Pend_okv rfl (OK_gt (t := 46) rfl rfl (fun q => EX_s (PS_move rfl))) rfl rfl (Pend_okv rfl (OK_gt (t := 46) rfl rfl (fun q => EX_s (PS_move rfl))) rfl rfl (Pend_okv rfl (OK_gt (t := 46) rfl rfl (fun q => EX_s (PS_loadA rfl tya54 (.tail _ (.head _)) (Lens.id Land.fl.len Land.fl.one) rfl))) rfl rfl (Pend_skip (by kernel_rfl) (Pend_skip (by kernel_rfl) (Pend_skip (by kernel_rfl) (Pend_skip (by kernel_rfl) (Pend_skip (by kernel_rfl) (Pend_skip (by kernel_rfl) (Pend_skip (by kernel_rfl) (Pend_skip (by kernel_rfl) (Pend_skip (by kernel_rfl) (Pend_skip (by kernel_rfl) (Pend_skip (by kernel_rfl) (Pend_skip (by kernel_rfl) (Pend_skip (by kernel_rfl) (Pend_skip (by kernel_rfl) (Pend_skip (by kernel_rfl) (Pend_skip (by kernel_rfl) (Pend_skip (by kernel_rfl) (Pend_skip (by kernel_rfl) (Pend_skip (by kernel_rfl) Pend_nil))))))))))))))))))))))
    refine Plan_chain 23 rfl (by kernel_rfl) ?_
    refine GL_callL_g (t := 46) rfl (by first | rfl | exact lkE rfl c1) rfl cf35 (.cons (cvE rfl c1) (.cons (cvE rfl c1) (.cons (cvE rfl c1) .nil))) .nil (ref_HasAt_spec _ _ _) (fun v5 B hv => ?_)
    obtain ⟨y6, rfl, y7, rfl⟩ := hv
    refine GL_hand rfl ⟨?_, ?_⟩
    · exact (Pend_skip (by kernel_rfl) (Pend_skip (by kernel_rfl) (Pend_skip (by kernel_rfl) (Pend_skip (by kernel_rfl) (Pend_skip (by kernel_rfl) (Pend_skip (by kernel_rfl) (Pend_skip (by kernel_rfl) (Pend_skip (by kernel_rfl) (Pend_skip (by kernel_rfl) (Pend_skip (by kernel_rfl) (Pend_skip (by kernel_rfl) (Pend_skip (by kernel_rfl) (Pend_skip (by kernel_rfl) (Pend_skip (by kernel_rfl) (Pend_skip (by kernel_rfl) (Pend_skip (by kernel_rfl) (Pend_skip (by kernel_rfl) (Pend_skip (by kernel_rfl) (Pend_skip (by kernel_rfl) (Pend_skip (by kernel_rfl) (Pend_skip (by kernel_rfl) (Pend_skip (by kernel_rfl) Pend_nil))))))))))))))))))))))
    refine Plan_float 24 rfl rfl (by kernel_rfl) (OK_on (t := 46) rfl (lkE rfl c1) (EX_c (PC_of cf33 (.cons rfl (.cons rfl .nil)) (fun w hS => law_sameNumbers_spec _ _ _ _ (by omega) w ((Kn.own (.tail _ (.head _))) w hS) ((Kn.own (.head _)) w hS))))) ?_
    refine Plan_float 25 rfl rfl (by kernel_rfl) (OK_s (EX_s (PS_pick_true (lkE rfl c1) rfl))) ?_
    refine Plan_float 26 rfl rfl (by kernel_rfl) (OK_s (EX_s (PS_move rfl))) ?_
    refine Plan_float 27 rfl rfl (by kernel_rfl) (OK_gt (t := 57) rfl rfl (fun q => EX_s (PS_loadA rfl tya54 (.tail _ (.tail _ (.head _))) (Lens.id Land.fl.len Land.fl.one) rfl))) ?_
    refine Plan_float 28 rfl rfl (by kernel_rfl) (OK_gt (t := 57) rfl rfl (fun q => EX_s (PS_move rfl))) ?_
    refine Plan_float 29 rfl rfl (by kernel_rfl) (OK_gt (t := 57) rfl rfl (fun q => EX_s (PS_move rfl))) ?_
    refine Plan_float 30 rfl rfl (by kernel_rfl) (OK_gt (t := 57) rfl rfl (fun q => EX_c (PC_of cf30 (.cons (cvE rfl q) (.cons (cvE rfl q) (.cons (cvE rfl q) .nil))) (fun w hS => land_Inside_spec _ _ _ w)))) ?_
    refine Plan_float 31 rfl rfl (by kernel_rfl) (OK_gt (t := 57) rfl rfl (fun q => EX_s (PS_loadA rfl tya54 (.tail _ (.tail _ (.head _))) (Lens.id Land.fl.len Land.fl.one) rfl))) ?_
    refine Plan_float 32 rfl rfl (by kernel_rfl) (OK_gt (t := 57) rfl rfl (fun q => EX_s (PS_move rfl))) ?_
    refine Plan_float 33 rfl rfl (by kernel_rfl) (OK_gt (t := 57) rfl rfl (fun q => EX_s (PS_move rfl))) ?_
    refine Plan_float 34 rfl rfl (by kernel_rfl) (OK_gt (t := 57) rfl rfl (fun q => EX_c (PC_of cf36 (.cons (cvE rfl q) (.cons (cvE rfl q) (.cons (cvE rfl q) .nil))) (fun w hS => ref_IsInside_spec _ _ _ w)))) ?_
    refine Plan_float 35 rfl rfl (by kernel_rfl) (OK_gt (t := 57) rfl rfl (fun q => EX_s (PS_eql_bool Try.underlying4 (cvE rfl q) (cvE rfl q)))) ?_
    refine Plan_float 36 rfl rfl (by kernel_rfl) (OK_s (EX_s (PS_and rfl rfl (fun h => h)))) ?_
    refine Plan_float 37 rfl rfl (by kernel_rfl) (OK_s (EX_s (PS_move rfl))) ?_
    refine Plan_float 38 rfl rfl (by kernel_rfl) (OK_gt (t := 68) rfl rfl (fun q => EX_c (PC_of cf37 .nil (fun w hS => land_New_spec w)))) ?_
    refine Plan_float 39 rfl rfl (by kernel_rfl) (OK_gt (t := 68) rfl rfl (fun q => EX_c (PC_of cf38 .nil (fun w hS => ref_NewLand_spec w)))) ?_
    refine Plan_float 40 rfl rfl (by kernel_rfl) (OK_gt (t := 68) rfl rfl (fun q => EX_s (PS_eql_agg eq54 (by decide) (by kernel_rfl) (cvE rfl q) (cvE rfl q)))) ?_
    refine Plan_float 41 rfl rfl (by kernel_rfl) (OK_s (EX_s (PS_and rfl rfl (fun h => h)))) ?_
    refine Plan_float 42 rfl rfl (by kernel_rfl) (OK_s (EX_s (PS_move rfl))) ?_
    refine Plan_float 43 rfl rfl (by kernel_rfl) (OK_gt (t := 73) rfl rfl (fun q => EX_s (PS_move rfl))) ?_
    refine Plan_float 44 rfl rfl (by kernel_rfl) (OK_gt (t := 73) rfl rfl (fun q => EX_c (PC_of cf39 (.cons (cvE rfl q) .nil) (fun w hS => land_Opposite_spec _ w)))) ?_
    refine Plan_float 45 rfl rfl (by kernel_rfl) (OK_gt (t := 73) rfl rfl (fun q => EX_s (PS_move rfl))) ?_
    refine Plan_float 46 rfl rfl (by kernel_rfl) (OK_gt (t := 73) rfl rfl (fun q => EX_s (PS_eql (cvE rfl q) (cvE rfl q)))) ?_
    refine Plan_float 47 rfl rfl (by kernel_rfl) (OK_s (EX_s (PS_and rfl rfl (fun h => h)))) ?_
    refine Plan_float 48 rfl rfl (by kernel_rfl) (OK_s (EX_s (PS_move rfl))) ?_
    refine Plan_float 49 rfl rfl (by kernel_rfl) (OK_gt (t := 79) rfl rfl (fun q => EX_c (PC_of cf40 .nil (fun w hS => law_stands_spec w)))) ?_
    refine Plan_float 50 rfl rfl (by kernel_rfl) (OK_s (EX_s (PS_and rfl rfl (fun h => h)))) ?_
    refine Plan_float 51 rfl rfl (by kernel_rfl) (OK_s (EX_s (PS_assign rfl))) ?_
    refine Plan_end (by kernel_rfl) ?_
    refine GQ_sub (.cons (k := 8) rfl (.nil _)) ?_
    refine GQ_then ?_
    refine G_ret ?_
    refine GQ_ret rfl (.tmp rfl .nil) ?_
    intro w1 hS; refine ⟨?_, hS.toKeep⟩; exact congrArg Value.bool (by simp [Land.refGood_eq, Land.opposite])
  · exact absurd c1 (by simp [Land.refGood_eq])
set_option maxRecDepth 100000 in
theorem landStands_lifted (os : Os) (started : os.Started) (H : Type) (enc : TypeId × Value → H) :
    ReturnsInHanded {} Try.checked os 9 .any (Rows.landStandsSpec.pre6 enc Try.prog Try.f9 Rows.landStandsRow.domain false) (Rows.landStandsSpec.post enc Try.prog Try.f9 false true false false) := by
  refine returnsInHanded_of_change_sized (C := Try.checked) own started (by kernel_rfl) Try.func9
    (ChangeSpec.witness6 (enc := enc) (C := Try.checked) false ⟨#[], #[.agg (Land.enc (default : Land)).toArray, .int .i64 0, .int .i64 0, .int .i64 0], []⟩ 8 (by kernel_rfl) (by kernel_rfl) (by kernel_rfl) (by kernel_rfl)) ?_
  intro W base args ds gs before hval hW _ hsz _
  refine law_post (B := 4) laidOut (by kernel_rfl) Try.underlying4 (by kernel_rfl) rfl (fun ds h => by rw [Try.params9] at h; match ds, h with | [d1, d2, d3, d4], _ => rfl) hW ?_
  obtain ⟨p, q, hA, hV, _, _, _⟩ := hW
  rw [Try.params9] at hA
  obtain ⟨v0, vs0, d0, ds0, p0, q0, hv0, rfl, rfl, hd0, hA⟩ := trodAll_cons hA
  obtain ⟨v1, vs1, d1, ds1, p1, q1, hv1, rfl, rfl, hd1, hA⟩ := trodAll_cons hA
  obtain ⟨v2, vs2, d2, ds2, p2, q2, hv2, rfl, rfl, hd2, hA⟩ := trodAll_cons hA
  obtain ⟨v3, vs3, d3, ds3, p3, q3, hv3, rfl, rfl, hd3, hA⟩ := trodAll_cons hA
  obtain ⟨hvn, rfl, rfl⟩ := trodAll_nil hA
  obtain rfl : args = #[v0, v1, v2, v3] := by cases args; simp_all
  obtain ⟨X, rfl, w0⟩ := open_ag (P := Try.prog) (t := 54) (by rw [Try.underlying54]) (hval 0 _ _ rfl rfl) dc54 hd0
  obtain ⟨i, rfl, rfl, rfl, w1⟩ := open_int Try.underlying3 (hval 1 _ _ rfl rfl) hd1
  have w1 := bounds_i64 w1
  obtain ⟨j, rfl, rfl, rfl, w2⟩ := open_int Try.underlying3 (hval 2 _ _ rfl rfl) hd2
  have w2 := bounds_i64 w2
  obtain ⟨wh, rfl, rfl, rfl, w3⟩ := open_int Try.underlying3 (hval 3 _ _ rfl rfl) hd3
  have w3 := bounds_i64 w3
  exact law_LandStands_spec _ _ _ _ W
theorem landStands_holds : Rows.LandStandsSaid :=
  OpenClaim.holds_of_wide 9 Try.f9 rfl rfl rfl rfl rfl rfl rfl ⟨rfl, rfl, rfl, rfl, rfl⟩ rfl rfl rfl rfl rfl (by kernel_rfl) Try.func9 (by kernel_rfl)
    (of_decide_eq_true (by kernel_rfl)) (by unfold Func.isWrapper; first | (rw [if_pos (by decide +kernel)]; kernel_rfl) | (rw [if_neg (by decide +kernel)]; exact ⟨rfl, rfl⟩))
    (fun os started H enc _ => landStands_lifted os started H enc)
end Go.Proofs.Ytnpbkbianmogoaa
