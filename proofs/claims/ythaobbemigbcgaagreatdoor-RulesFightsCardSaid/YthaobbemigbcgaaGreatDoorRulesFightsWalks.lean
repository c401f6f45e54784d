/- What the functions that the law RulesFights reaches compute: walks, part 1. No condition. -/
import Derived.Test.YthaobbemigbcgaaGreatDoorCards
import Derived.Test.YthaobbemigbcgaaGreatDoorTie
import Derived.Deep.DeepHandedRow
import Derived.Test.YthaobbemigbcgaaGreatDoorRows
import Derived.Test.YthaobbemigbcgaaGreatDoorRulesFightsEc3
import Derived.Test.YthaobbemigbcgaaGreatDoorRulesFightsRa1
import Derived.Test.YthaobbemigbcgaaGreatDoorRulesFightsRb1
set_option linter.unusedSimpArgs false
set_option linter.unusedVariables false
set_option maxRecDepth 100000
set_option maxHeartbeats 1000000
namespace Go.Proofs.YthaobbemigbcgaaGreatDoor
open Go Go.Ing Go.RowKit Go.ChangeShapes Go.WideShapes Go.ChangeAt
theorem sz29 : Sz Tryz.prog 29 45 := Sz_of (by kernel_rfl)
theorem fa34_1 : FA Tryz.prog 34 1 84 := FA_of Tryz.underlying34 rfl sz29
theorem sz28 : Sz Tryz.prog 28 5 := Sz_of (by kernel_rfl)
theorem ia29 : IA Tryz.prog 29 9 5 := IA_of Tryz.underlying29 sz28
theorem tya28 : TyA Tryz.prog 28 5 := TyA_of Tryz.underlying28 rfl sz28
theorem zv28 : ZV Tryz.prog 28 (.agg (Thing.enc (default : Thing)).toArray) := ZV_of (by kernel_rfl)
theorem sz3 : Sz Tryz.prog 3 1 := Sz_of (by kernel_rfl)
theorem fa28_1 : FA Tryz.prog 28 1 1 := FA_of Tryz.underlying28 rfl sz3
theorem tys3 : TyS Tryz.prog 3 := TyS_of Tryz.underlying3 rfl
theorem sz4 : Sz Tryz.prog 4 1 := Sz_of (by kernel_rfl)
theorem fa28_4 : FA Tryz.prog 28 4 4 := FA_of Tryz.underlying28 rfl sz4
theorem tys4 : TyS Tryz.prog 4 := TyS_of Tryz.underlying4 rfl
theorem fa28_3 : FA Tryz.prog 28 3 3 := FA_of Tryz.underlying28 rfl sz3
theorem fa28_2 : FA Tryz.prog 28 2 2 := FA_of Tryz.underlying28 rfl sz3
theorem sz32 : Sz Tryz.prog 32 36 := Sz_of (by kernel_rfl)
theorem fa34_2 : FA Tryz.prog 34 2 129 := FA_of Tryz.underlying34 rfl sz32
theorem sz31 : Sz Tryz.prog 31 6 := Sz_of (by kernel_rfl)
theorem ia32 : IA Tryz.prog 32 6 6 := IA_of Tryz.underlying32 sz31
theorem fa31_1 : FA Tryz.prog 31 1 1 := FA_of Tryz.underlying31 rfl sz4
theorem sz26 : Sz Tryz.prog 26 84 := Sz_of (by kernel_rfl)
theorem fa34_0 : FA Tryz.prog 34 0 0 := FA_of Tryz.underlying34 rfl sz26
theorem tya26 : TyA Tryz.prog 26 84 := TyA_of Tryz.underlying26 rfl sz26
theorem sz25 : Sz Tryz.prog 25 14 := Sz_of (by kernel_rfl)
theorem tya25 : TyA Tryz.prog 25 14 := TyA_of Tryz.underlying25 rfl sz25
theorem zv25 : ZV Tryz.prog 25 (.agg (Room.enc (default : Room)).toArray) := ZV_of (by kernel_rfl)
theorem sz22 : Sz Tryz.prog 22 6 := Sz_of (by kernel_rfl)
theorem fa25_2 : FA Tryz.prog 25 2 2 := FA_of Tryz.underlying25 rfl sz22
theorem tya22 : TyA Tryz.prog 22 6 := TyA_of Tryz.underlying22 rfl sz22
theorem sz23 : Sz Tryz.prog 23 6 := Sz_of (by kernel_rfl)
theorem fa25_3 : FA Tryz.prog 25 3 8 := FA_of Tryz.underlying25 rfl sz23
theorem ia23 : IA Tryz.prog 23 6 1 := IA_of Tryz.underlying23 sz4
theorem tya32 : TyA Tryz.prog 32 36 := TyA_of Tryz.underlying32 rfl sz32
theorem tya31 : TyA Tryz.prog 31 6 := TyA_of Tryz.underlying31 rfl sz31
theorem zv31 : ZV Tryz.prog 31 (.agg (Being.enc (default : Being)).toArray) := ZV_of (by kernel_rfl)
theorem fa31_3 : FA Tryz.prog 31 3 3 := FA_of Tryz.underlying31 rfl sz3
theorem fa31_4 : FA Tryz.prog 31 4 4 := FA_of Tryz.underlying31 rfl sz3
theorem fa31_5 : FA Tryz.prog 31 5 5 := FA_of Tryz.underlying31 rfl sz3
theorem sz34 : Sz Tryz.prog 34 165 := Sz_of (by kernel_rfl)
theorem tya34 : TyA Tryz.prog 34 165 := TyA_of Tryz.underlying34 rfl sz34
theorem cf43 : CF Tryz.prog 43 := Tryz.call43
theorem ia26 : IA Tryz.prog 26 6 14 := IA_of Tryz.underlying26 sz25
theorem fa25_1 : FA Tryz.prog 25 1 1 := FA_of Tryz.underlying25 rfl sz4
theorem tya29 : TyA Tryz.prog 29 45 := TyA_of Tryz.underlying29 rfl sz29
theorem cf73 : CF Tryz.prog 73 := Tryz.call73
theorem cf74 : CF Tryz.prog 74 := Tryz.call74
theorem mix : Tryz.prog.follows .mixedOrders = true := by kernel_rfl
theorem cf44 : CF Tryz.prog 44 := Tryz.call44
theorem fa31_2 : FA Tryz.prog 31 2 2 := FA_of Tryz.underlying31 rfl sz4
theorem cf75 : CF Tryz.prog 75 := Tryz.call75
theorem fa60_2 : FA Tryz.prog 60 2 2 := FA_of Tryz.underlying60 rfl sz3
theorem fa60_3 : FA Tryz.prog 60 3 3 := FA_of Tryz.underlying60 rfl sz3
theorem cf47 : CF Tryz.prog 47 := Tryz.call47
theorem fa60_0 : FA Tryz.prog 60 0 0 := FA_of Tryz.underlying60 rfl sz3
theorem fa60_1 : FA Tryz.prog 60 1 1 := FA_of Tryz.underlying60 rfl sz3
theorem cf83 : CF Tryz.prog 83 := Tryz.call83
theorem zv60 : ZV Tryz.prog 60 (.agg (Ing.Event.enc (default : Ing.Event)).toArray) := ZV_of (by kernel_rfl)
theorem sz60 : Sz Tryz.prog 60 16 := Sz_of (by kernel_rfl)
theorem tya60 : TyA Tryz.prog 60 16 := TyA_of Tryz.underlying60 rfl sz60
theorem cf79 : CF Tryz.prog 79 := Tryz.call79
theorem fa60_10 : FA Tryz.prog 60 10 10 := FA_of Tryz.underlying60 rfl sz22
theorem ia22 : IA Tryz.prog 22 6 1 := IA_of Tryz.underlying22 sz3
theorem fa53_1 : FA Tryz.prog 53 1 165 := FA_of Tryz.underlying53 rfl sz3
theorem fa53_0 : FA Tryz.prog 53 0 0 := FA_of Tryz.underlying53 rfl sz34
theorem sz9 : Sz Tryz.prog 9 1 := Sz_of (by kernel_rfl)
theorem fa31_0 : FA Tryz.prog 31 0 0 := FA_of Tryz.underlying31 rfl sz9
theorem tys9 : TyS Tryz.prog 9 := TyS_of Tryz.underlying9 rfl
theorem fa60_6 : FA Tryz.prog 60 6 6 := FA_of Tryz.underlying60 rfl sz9
theorem fa60_7 : FA Tryz.prog 60 7 7 := FA_of Tryz.underlying60 rfl sz9
theorem sz35 : Sz Tryz.prog 35 1 := Sz_of (by kernel_rfl)
theorem fa53_2 : FA Tryz.prog 53 2 166 := FA_of Tryz.underlying53 rfl sz35
theorem tys35 : TyS Tryz.prog 35 := TyS_of Tryz.underlying35 rfl
theorem cf54 : CF Tryz.prog 54 := Tryz.call54
theorem by60 : BY Tryz.prog 60 160 := BY_of (by kernel_rfl)
theorem pl60 : Places Tryz.prog 60 [(0, 1), (1, 1), (2, 1), (3, 1), (4, 1), (5, 1), (6, 1), (7, 1), (8, 1), (9, 1), (10, 6)] := ⟨_, Tryz.underlying60, fun w => by simp [sz3 w, sz9 w, sz22 w]⟩
theorem cf23 : CF Tryz.prog 23 := Tryz.call23
theorem zv3 : ZV Tryz.prog 3 (.int .i64 0) := ZV_of (by kernel_rfl)
theorem by3 : BY Tryz.prog 3 8 := BY_of (by kernel_rfl)
theorem cf29 : CF Tryz.prog 29 := Tryz.call29
theorem cf62 : CF Tryz.prog 62 := Tryz.call62
theorem is66 : IS Tryz.prog 66 1 := IS_of Tryz.underlying66 sz3
theorem ia80 : IA Tryz.prog 80 21 1 := IA_of Tryz.underlying80 sz9
theorem fa28_0 : FA Tryz.prog 28 0 0 := FA_of Tryz.underlying28 rfl sz9
theorem cf45 : CF Tryz.prog 45 := Tryz.call45
theorem fa25_0 : FA Tryz.prog 25 0 0 := FA_of Tryz.underlying25 rfl sz9
theorem cf46 : CF Tryz.prog 46 := Tryz.call46
theorem cf28 : CF Tryz.prog 28 := Tryz.call28
theorem zv34 : ZV Tryz.prog 34 (.agg (Land.enc (default : Land)).toArray) := ZV_of (by kernel_rfl)
theorem pl53 : Places Tryz.prog 53 [(0, 165), (165, 1), (166, 1)] := ⟨_, Tryz.underlying53, fun w => by simp [sz34 w, sz3 w, sz35 w]⟩
theorem zv53 : ZV Tryz.prog 53 (.agg (TurnV.enc (default : TurnV)).toArray) := ZV_of (by kernel_rfl)
theorem cf17 : CF Tryz.prog 17 := Tryz.call17
theorem cf55 : CF Tryz.prog 55 := Tryz.call55
theorem pl31 : Places Tryz.prog 31 [(0, 1), (1, 1), (2, 1), (3, 1), (4, 1), (5, 1)] := ⟨_, Tryz.underlying31, fun w => by simp [sz9 w, sz4 w, sz3 w]⟩
theorem cf18 : CF Tryz.prog 18 := Tryz.call18
theorem cf16 : CF Tryz.prog 16 := Tryz.call16
theorem cf24 : CF Tryz.prog 24 := Tryz.call24
theorem zv4 : ZV Tryz.prog 4 (.bool false) := ZV_of (by kernel_rfl)
theorem cf48 : CF Tryz.prog 48 := Tryz.call48
theorem cf77 : CF Tryz.prog 77 := Tryz.call77
theorem cf25 : CF Tryz.prog 25 := Tryz.call25
theorem cf50 : CF Tryz.prog 50 := Tryz.call50
theorem cf78 : CF Tryz.prog 78 := Tryz.call78
theorem cf53 : CF Tryz.prog 53 := Tryz.call53
theorem cf76 : CF Tryz.prog 76 := Tryz.call76
theorem fa57_1 : FA Tryz.prog 57 1 165 := FA_of Tryz.underlying57 rfl sz3
theorem fa57_0 : FA Tryz.prog 57 0 0 := FA_of Tryz.underlying57 rfl sz34
theorem fa57_2 : FA Tryz.prog 57 2 166 := FA_of Tryz.underlying57 rfl sz35
theorem cf49 : CF Tryz.prog 49 := Tryz.call49
theorem cf51 : CF Tryz.prog 51 := Tryz.call51
theorem cf20 : CF Tryz.prog 20 := Tryz.call20
theorem cf68 : CF Tryz.prog 68 := Tryz.call68
theorem cf39 : CF Tryz.prog 39 := Tryz.call39
theorem cf52 : CF Tryz.prog 52 := Tryz.call52
theorem cf40 : CF Tryz.prog 40 := Tryz.call40
theorem cf19 : CF Tryz.prog 19 := Tryz.call19
theorem pl57 : Places Tryz.prog 57 [(0, 165), (165, 1), (166, 1)] := ⟨_, Tryz.underlying57, fun w => by simp [sz34 w, sz3 w, sz35 w]⟩
theorem zv57 : ZV Tryz.prog 57 (.agg (TurnV.enc (default : TurnV)).toArray) := ZV_of (by kernel_rfl)
theorem cf26 : CF Tryz.prog 26 := Tryz.call26
theorem cf21 : CF Tryz.prog 21 := Tryz.call21
theorem is35 : IS Tryz.prog 35 16 := IS_of Tryz.underlying35 sz60
theorem eq3 : EqV Tryz.prog 1 3 (fun n : Int => .int .i64 n) := EqV_int Tryz.underlying3
theorem eq9 : EqV Tryz.prog 1 9 (fun s : Str => vstr s) := EqV_str Tryz.underlying9
theorem eq22 : EqV Tryz.prog 2 22 (fun v : Arr _ 6 => .agg (encA encI v).toArray) := EqV_arr flI Tryz.underlying22 (by kernel_rfl) (by kernel_rfl) (.inr ⟨tys3, rfl, fun _ => rfl⟩) eq3
theorem eq60 : EqV Tryz.prog 3 60 (fun x : Ing.Event => .agg (Ing.Event.enc x).toArray) := EqV_struct Tryz.underlying60 (by kernel_rfl) (.cons (by decide) rfl (.inr ⟨tys3, rfl, fun _ => rfl⟩) Ing.Event.l0 eq3 (by decide) (.cons (by decide) rfl (.inr ⟨tys3, rfl, fun _ => rfl⟩) Ing.Event.l1 eq3 (by decide) (.cons (by decide) rfl (.inr ⟨tys3, rfl, fun _ => rfl⟩) Ing.Event.l2 eq3 (by decide) (.cons (by decide) rfl (.inr ⟨tys3, rfl, fun _ => rfl⟩) Ing.Event.l3 eq3 (by decide) (.cons (by decide) rfl (.inr ⟨tys3, rfl, fun _ => rfl⟩) Ing.Event.l4 eq3 (by decide) (.cons (by decide) rfl (.inr ⟨tys3, rfl, fun _ => rfl⟩) Ing.Event.l5 eq3 (by decide) (.cons (by decide) rfl (.inr ⟨tys9, rfl, fun _ => rfl⟩) Ing.Event.l6 eq9 (by decide) (.cons (by decide) rfl (.inr ⟨tys9, rfl, fun _ => rfl⟩) Ing.Event.l7 eq9 (by decide) (.cons (by decide) rfl (.inr ⟨tys9, rfl, fun _ => rfl⟩) Ing.Event.l8 eq9 (by decide) (.cons (by decide) rfl (.inr ⟨tys9, rfl, fun _ => rfl⟩) Ing.Event.l9 eq9 (by decide) (.cons (by decide) rfl (.inl ⟨tya22, fun _ => rfl⟩) Ing.Event.l10 eq22 (by decide) .nil))))))))))) (fun x y => by rw [Bool.eq_iff_iff]; cases x; cases y; simp)
theorem zv22 : ZV Tryz.prog 22 (.agg (encA (n := 6) encI (Vector.replicate 6 default)).toArray) := ZV_of (by kernel_rfl)
theorem zv23 : ZV Tryz.prog 23 (.agg (encA (n := 6) encB (Vector.replicate 6 default)).toArray) := ZV_of (by kernel_rfl)
theorem pl25 : Places Tryz.prog 25 [(0, 1), (1, 1), (2, 6), (8, 6)] := ⟨_, Tryz.underlying25, fun w => by simp [sz9 w, sz4 w, sz22 w, sz23 w]⟩
theorem is81 : IS Tryz.prog 81 14 := IS_of Tryz.underlying81 sz25
theorem pl28 : Places Tryz.prog 28 [(0, 1), (1, 1), (2, 1), (3, 1), (4, 1)] := ⟨_, Tryz.underlying28, fun w => by simp [sz9 w, sz3 w, sz4 w]⟩
theorem is82 : IS Tryz.prog 82 5 := IS_of Tryz.underlying82 sz28
theorem cf58 : CF Tryz.prog 58 := Tryz.call58
theorem fa47_4 : FA Tryz.prog 47 4 4 := FA_of Tryz.underlying47 rfl sz9
theorem fa47_1 : FA Tryz.prog 47 1 1 := FA_of Tryz.underlying47 rfl sz3
theorem fa47_3 : FA Tryz.prog 47 3 3 := FA_of Tryz.underlying47 rfl sz9
theorem fa47_2 : FA Tryz.prog 47 2 2 := FA_of Tryz.underlying47 rfl sz4
theorem cf60 : CF Tryz.prog 60 := Tryz.call60
theorem cf61 : CF Tryz.prog 61 := Tryz.call61
theorem fa47_0 : FA Tryz.prog 47 0 0 := FA_of Tryz.underlying47 rfl sz3
theorem sz47 : Sz Tryz.prog 47 6 := Sz_of (by kernel_rfl)
theorem tya47 : TyA Tryz.prog 47 6 := TyA_of Tryz.underlying47 rfl sz47
theorem cf32 : CF Tryz.prog 32 := Tryz.call32
theorem cf22 : CF Tryz.prog 22 := Tryz.call22
theorem pl47 : Places Tryz.prog 47 [(0, 1), (1, 1), (2, 1), (3, 1), (4, 1), (5, 1)] := ⟨_, Tryz.underlying47, fun w => by simp [sz3 w, sz4 w, sz9 w]⟩
theorem zv47 : ZV Tryz.prog 47 (.agg (Order.enc (default : Order)).toArray) := ZV_of (by kernel_rfl)
theorem cf14 : CF Tryz.prog 14 := Tryz.call14
theorem cf12 : CF Tryz.prog 12 := Tryz.call12
theorem cf13 : CF Tryz.prog 13 := Tryz.call13
theorem eq4 : EqV Tryz.prog 1 4 (fun b : Bool => .bool b) := EqV_bool Tryz.underlying4
theorem eq23 : EqV Tryz.prog 2 23 (fun v : Arr _ 6 => .agg (encA encB v).toArray) := EqV_arr flB Tryz.underlying23 (by kernel_rfl) (by kernel_rfl) (.inr ⟨tys4, rfl, fun _ => rfl⟩) eq4
theorem tya23 : TyA Tryz.prog 23 6 := TyA_of Tryz.underlying23 rfl sz23
theorem eq25 : EqV Tryz.prog 3 25 (fun x : Room => .agg (Room.enc x).toArray) := EqV_struct Tryz.underlying25 (by kernel_rfl) (.cons (by decide) rfl (.inr ⟨tys9, rfl, fun _ => rfl⟩) Room.l0 eq9 (by decide) (.cons (by decide) rfl (.inr ⟨tys4, rfl, fun _ => rfl⟩) Room.l1 eq4 (by decide) (.cons (by decide) rfl (.inl ⟨tya22, fun _ => rfl⟩) Room.l2 eq22 (by decide) (.cons (by decide) rfl (.inl ⟨tya23, fun _ => rfl⟩) Room.l3 eq23 (by decide) .nil)))) (fun x y => by rw [Bool.eq_iff_iff]; cases x; cases y; simp)
theorem eq26 : EqV Tryz.prog 4 26 (fun v : Arr _ 6 => .agg (encA Room.enc v).toArray) := EqV_arr Room.fl Tryz.underlying26 (by kernel_rfl) (by kernel_rfl) (.inl ⟨tya25, fun _ => rfl⟩) eq25
theorem eq28 : EqV Tryz.prog 2 28 (fun x : Thing => .agg (Thing.enc x).toArray) := EqV_struct Tryz.underlying28 (by kernel_rfl) (.cons (by decide) rfl (.inr ⟨tys9, rfl, fun _ => rfl⟩) Thing.l0 eq9 (by decide) (.cons (by decide) rfl (.inr ⟨tys3, rfl, fun _ => rfl⟩) Thing.l1 eq3 (by decide) (.cons (by decide) rfl (.inr ⟨tys3, rfl, fun _ => rfl⟩) Thing.l2 eq3 (by decide) (.cons (by decide) rfl (.inr ⟨tys3, rfl, fun _ => rfl⟩) Thing.l3 eq3 (by decide) (.cons (by decide) rfl (.inr ⟨tys4, rfl, fun _ => rfl⟩) Thing.l4 eq4 (by decide) .nil))))) (fun x y => by rw [Bool.eq_iff_iff]; cases x; cases y; simp)
theorem eq29 : EqV Tryz.prog 3 29 (fun v : Arr _ 9 => .agg (encA Thing.enc v).toArray) := EqV_arr Thing.fl Tryz.underlying29 (by kernel_rfl) (by kernel_rfl) (.inl ⟨tya28, fun _ => rfl⟩) eq28
theorem eq31 : EqV Tryz.prog 2 31 (fun x : Being => .agg (Being.enc x).toArray) := EqV_struct Tryz.underlying31 (by kernel_rfl) (.cons (by decide) rfl (.inr ⟨tys9, rfl, fun _ => rfl⟩) Being.l0 eq9 (by decide) (.cons (by decide) rfl (.inr ⟨tys4, rfl, fun _ => rfl⟩) Being.l1 eq4 (by decide) (.cons (by decide) rfl (.inr ⟨tys4, rfl, fun _ => rfl⟩) Being.l2 eq4 (by decide) (.cons (by decide) rfl (.inr ⟨tys3, rfl, fun _ => rfl⟩) Being.l3 eq3 (by decide) (.cons (by decide) rfl (.inr ⟨tys3, rfl, fun _ => rfl⟩) Being.l4 eq3 (by decide) (.cons (by decide) rfl (.inr ⟨tys3, rfl, fun _ => rfl⟩) Being.l5 eq3 (by decide) .nil)))))) (fun x y => by rw [Bool.eq_iff_iff]; cases x; cases y; simp)
theorem eq32 : EqV Tryz.prog 3 32 (fun v : Arr _ 6 => .agg (encA Being.enc v).toArray) := EqV_arr Being.fl Tryz.underlying32 (by kernel_rfl) (by kernel_rfl) (.inl ⟨tya31, fun _ => rfl⟩) eq31
theorem eq34 : EqV Tryz.prog 5 34 (fun x : Land => .agg (Land.enc x).toArray) := EqV_struct Tryz.underlying34 (by kernel_rfl) (.cons (by decide) rfl (.inl ⟨tya26, fun _ => rfl⟩) Land.l0 eq26 (by decide) (.cons (by decide) rfl (.inl ⟨tya29, fun _ => rfl⟩) Land.l1 eq29 (by decide) (.cons (by decide) rfl (.inl ⟨tya32, fun _ => rfl⟩) Land.l2 eq32 (by decide) .nil))) (fun x y => by rw [Bool.eq_iff_iff]; cases x; cases y; simp)
theorem cf8 : CF Tryz.prog 8 := Tryz.call8
theorem cf11 : CF Tryz.prog 11 := Tryz.call11
theorem land_goodThing_spec (X : Land) (i : Int) (h0 : 0 ≤ i) (h9 : i < 9) (w : World) : Ret Tryz.prog 43 #[.agg X.enc.toArray, .int .i64 i] w fun v w' => v = .bool (X.goodThing i) ∧ Keep w w' := by
 refine Ret_body [] [] Tryz.func43 rfl rfl rfl (St.start w []) ?_
 refine G_seq ?_
 refine G_region ?_
 refine GL_box rfl rfl rfl (fun b1 => ?_)
 refine GL_step rfl (PS_assign rfl) ?_
 refine GL_nil ?_
 refine GQ_sub (.cons (k := 1) rfl (.cons (k := 2) rfl (.nil _))) ?_
 refine GQ_then ?_
 refine G_seq ?_
 refine G_region ?_
 refine GL_step rfl (PS_move rfl) ?_
 refine GL_step rfl (PS_fieldAddr fa34_1 rfl) ?_
 refine GL_step rfl (PS_indexAddr ia29 rfl rfl (by omega) (by omega)) ?_
 refine GL_step rfl (PS_loadA rfl tya28 (.head _) (Land.l1.comp (Lens.arr (n := 9) Thing.fl (by omega) (by omega))) rfl) ?_
 refine GL_alloc rfl zv28 rfl (fun b2 => ?_)
 refine GL_unit (PU_store (Lens.id Thing.fl.len Thing.fl.one) rfl rfl rfl sz28 rfl .head) ?_
 refine GL_nil ?_
 refine GQ_sub (.cons (k := 2) rfl (.cons (k := 5) rfl (.nil _))) ?_
 refine GQ_then ?_
 refine G_seq ?_
 refine G_seq ?_
 refine G_region ?_
 refine GL_step rfl (PS_fieldAddr fa28_1 rfl) ?_
 refine GL_step rfl (PS_load rfl tys3 (.head _) Thing.l1 rfl rfl) ?_
 refine GL_step rfl (PS_lss rfl rfl) ?_
 refine GL_step rfl (PS_move rfl) ?_
 refine GL_gf (t := 15) rfl rfl rfl (fun q => PS_fieldAddr fa28_1 rfl) ?_
 refine GL_gf (t := 15) rfl rfl rfl (fun q => PS_load (cvE rfl (by rw [q]; rfl)) tys3 (.head _) Thing.l1 rfl rfl) ?_
 refine GL_gf (t := 15) rfl rfl rfl (fun q => PS_gtr (cvE rfl (by rw [q]; rfl)) rfl) ?_
 refine GL_step rfl (PS_or rfl rfl (fun h => by rw [h]; rfl)) ?_
 refine GL_step rfl (PS_move rfl) ?_
 refine GL_gf (t := 20) rfl rfl rfl (fun q => PS_fieldAddr fa28_1 rfl) ?_
 refine GL_gf (t := 20) rfl rfl rfl (fun q => PS_load (cvE rfl (by rw [q]; rfl)) tys3 (.head _) Thing.l1 rfl rfl) ?_
 refine GL_gf (t := 20) rfl rfl rfl (fun q => PS_eql (cvE rfl (by rw [q]; rfl)) rfl) ?_
 refine GL_gf (t := 20) rfl rfl rfl (fun q => PS_move (cvE rfl (by rw [q]; rfl))) ?_
 refine GL_gtc (t := 24) rfl rfl rfl (fun qc q => PS_fieldAddr fa28_4 rfl) ?_
 refine GL_gtc (t := 24) rfl rfl rfl (fun qc q => PS_load (cvE rfl (by rw [qc, q]; rfl)) tys4 (.head _) Thing.l4 rfl rfl) ?_
 refine GL_gf (t := 20) rfl rfl rfl (fun q => PS_and (cvE rfl (by rw [q]; rfl)) rfl (fun h => by rw [q, h]; rfl)) ?_
 refine GL_step rfl (PS_or rfl rfl (fun h => by rw [h]; rfl)) ?_
 refine GL_step rfl (PS_move rfl) ?_
 refine GL_gf (t := 29) rfl rfl rfl (fun q => PS_fieldAddr fa28_3 rfl) ?_
 refine GL_gf (t := 29) rfl rfl rfl (fun q => PS_load (cvE rfl (by rw [q]; rfl)) tys3 (.head _) Thing.l3 rfl rfl) ?_
 refine GL_gf (t := 29) rfl rfl rfl (fun q => PS_lss (cvE rfl (by rw [q]; rfl)) rfl) ?_
 refine GL_step rfl (PS_or rfl rfl (fun h => by rw [h]; rfl)) ?_
 refine GL_nil ?_
 refine GQ_sub (.cons (k := 2) rfl (.cons (k := 5) rfl (.cons (k := 33) rfl (.nil _)))) ?_
 refine GQ_then ?_
 refine G_cond rfl (fun c1 => ?_) (fun c1 => ?_)
 ·
  have c1p := kz c1
  refine G_seq ?_
  refine G_region ?_
  refine GL_step rfl (PS_assign rfl) ?_
  refine GL_nil ?_
  refine GQ_sub (.cons (k := 4) rfl (.nil _)) ?_
  refine GQ_then ?_
  refine G_ret ?_
  refine GQ_then_ret ?_
  refine GQ_ret rfl (.tmp rfl .nil) ?_
  intro w1 hS; refine ⟨congrArg Value.bool ?_, hS.toKeep⟩; simp only [Land.goodThing, c1, ↓reduceIte, Bool.false_eq_true]
 have c1p := kz c1
 refine G_skip ?_
 refine GQ_sub (.cons (k := 2) rfl (.cons (k := 5) rfl (.nil _))) ?_
 refine GQ_then ?_
 refine G_seq ?_
 refine G_region ?_
 refine GL_step rfl (PS_fieldAddr fa28_1 rfl) ?_
 refine GL_step rfl (PS_load rfl tys3 (.head _) Thing.l1 rfl rfl) ?_
 refine GL_step rfl (PS_eql rfl rfl) ?_
 refine GL_step rfl (PS_move rfl) ?_
 refine GL_gt (t := 37) rfl rfl rfl (fun q => PS_fieldAddr fa28_4 rfl) ?_
 refine GL_gt (t := 37) rfl rfl rfl (fun q => PS_load (cvE rfl q) tys4 (.head _) Thing.l4 rfl rfl) ?_
 refine GL_step rfl (PS_and rfl rfl (fun h => h)) ?_
 refine GL_step rfl (PS_assign rfl) ?_
 refine GL_nil ?_
 refine GQ_sub (.cons (k := 2) rfl (.cons (k := 5) rfl (.cons (k := 6) rfl (.nil _)))) ?_
 refine GQ_then ?_
 refine G_seq ?_
 refine G_seq ?_
 refine G_region ?_
 refine GL_step rfl (PS_fieldAddr fa28_2 rfl) ?_
 refine GL_step rfl (PS_load rfl tys3 (.head _) Thing.l2 rfl rfl) ?_
 refine GL_nil ?_
 refine GQ_sub (.cons (k := 2) rfl (.cons (k := 5) rfl (.cons (k := 6) rfl (.cons (k := 42) rfl (.nil _))))) ?_
 refine GQ_then ?_
 refine G_block ?_
 refine G_seq ?_
 refine G_region ?_
 refine GL_step rfl (PS_eql rfl rfl) ?_
 refine GL_step rfl (PS_assign rfl) ?_
 refine GL_nil ?_
 refine GQ_sub (.cons (k := 2) rfl (.cons (k := 5) rfl (.cons (k := 6) rfl (.cons (k := 42) rfl (.cons (k := 43) rfl (.nil _)))))) ?_
 refine GQ_then ?_
 refine G_cond rfl (fun c2 => ?_) (fun c2 => ?_)
 ·
  have c2p := kz c2
  refine G_seq ?_
  refine G_region ?_
  refine GL_step rfl (PS_fieldAddr fa28_3 rfl) ?_
  refine GL_step rfl (PS_load rfl tys3 (.head _) Thing.l3 rfl rfl) ?_
  refine GL_step rfl (PS_lss rfl rfl) ?_
  refine GL_step rfl (PS_move rfl) ?_
  refine GL_gt (t := 48) rfl rfl rfl (fun q => PS_move rfl) ?_
  refine GL_gt (t := 48) rfl rfl rfl (fun q => PS_not (cvE rfl q)) ?_
  refine GL_step rfl (PS_and rfl rfl (fun h => h)) ?_
  refine GL_step rfl (PS_assign rfl) ?_
  refine GL_nil ?_
  refine GQ_sub (.cons (k := 4) rfl (.nil _)) ?_
  refine GQ_then ?_
  refine G_ret ?_
  refine GQ_block_ret ?_
  refine GQ_then_ret ?_
  refine GQ_ret rfl (.tmp rfl .nil) ?_
  intro w1 hS; refine ⟨congrArg Value.bool ?_, hS.toKeep⟩; simp only [Land.goodThing, c1, c2, ↓reduceIte, Bool.false_eq_true]
 have c2p := kz c2
 refine G_seq ?_
 refine G_region ?_
 refine GL_step rfl (PS_eql rfl rfl) ?_
 refine GL_step rfl (PS_assign rfl) ?_
 refine GL_nil ?_
 refine GQ_sub (.cons (k := 2) rfl (.cons (k := 5) rfl (.cons (k := 6) rfl (.cons (k := 42) rfl (.cons (k := 52) rfl (.nil _)))))) ?_
 refine GQ_then ?_
 refine G_cond rfl (fun c3 => ?_) (fun c3 => ?_)
 ·
  have c3p := kz c3
  refine G_seq ?_
  refine G_region ?_
  refine GL_step rfl (PS_fieldAddr fa28_3 rfl) ?_
  refine GL_step rfl (PS_load rfl tys3 (.head _) Thing.l3 rfl rfl) ?_
  refine GL_step rfl (PS_lss rfl rfl) ?_
  refine GL_step rfl (PS_move rfl) ?_
  refine GL_gt (t := 57) rfl rfl rfl (fun q => PS_fieldAddr fa28_3 rfl) ?_
  refine GL_gt (t := 57) rfl rfl rfl (fun q => PS_load (cvE rfl q) tys3 (.head _) Thing.l3 rfl rfl) ?_
  refine GL_gt (t := 57) rfl rfl rfl (fun q => PS_fieldAddr fa34_2 rfl) ?_
  refine GL_gt (t := 57) rfl rfl rfl (fun q => by have q1 := q; (try simp at q1); exact PS_indexAddr ia32 (cvE rfl q) (cvE rfl q) (by omega) (by omega)) ?_
  refine GL_gt (t := 57) rfl rfl rfl (fun q => PS_fieldAddr fa31_1 (cvE rfl q)) ?_
  refine GL_gt (t := 57) rfl rfl rfl (fun q => by have q1 := q; (try simp at q1); exact PS_load (cvE rfl q) tys4 (.tail _ (.head _)) ((Land.l2.comp (Lens.arr (n := 6) Being.fl (by omega) (by omega))).comp Being.l1) rfl rfl) ?_
  refine GL_step rfl (PS_and rfl rfl (fun h => h)) ?_
  refine GL_step rfl (PS_assign rfl) ?_
  refine GL_nil ?_
  refine GQ_sub (.cons (k := 4) rfl (.nil _)) ?_
  refine GQ_then ?_
  refine G_ret ?_
  refine GQ_block_ret ?_
  refine GQ_then_ret ?_
  refine GQ_ret rfl (.tmp rfl .nil) ?_
  intro w1 hS; refine ⟨congrArg Value.bool ?_, hS.toKeep⟩; simp only [Land.goodThing, c1, c2, c3, ↓reduceIte, Bool.false_eq_true]
 have c3p := kz c3
 refine G_seq ?_
 refine G_region ?_
 refine GL_step rfl (PS_eql rfl rfl) ?_
 refine GL_step rfl (PS_assign rfl) ?_
 refine GL_nil ?_
 refine GQ_sub (.cons (k := 2) rfl (.cons (k := 5) rfl (.cons (k := 6) rfl (.cons (k := 65) rfl (.nil _))))) ?_
 refine GQ_then ?_
 refine G_cond rfl (fun c4 => ?_) (fun c4 => ?_)
 ·
  have c4p := kz c4
  refine G_seq ?_
  refine G_seq ?_
  refine G_region ?_
  refine GL_step rfl (PS_fieldAddr fa28_3 rfl) ?_
  refine GL_step rfl (PS_load rfl tys3 (.head _) Thing.l3 rfl rfl) ?_
  refine GL_step rfl (PS_geq rfl rfl) ?_
  refine GL_step rfl (PS_move rfl) ?_
  refine GL_gf (t := 70) rfl rfl rfl (fun q => PS_fieldAddr fa28_3 rfl) ?_
  refine GL_gf (t := 70) rfl rfl rfl (fun q => PS_load (cvE rfl (by rw [q]; rfl)) tys3 (.head _) Thing.l3 rfl rfl) ?_
  refine GL_gf (t := 70) rfl rfl rfl (fun q => PS_fieldAddr fa34_1 rfl) ?_
  refine GL_gf (t := 70) rfl rfl rfl (fun q => by have q1 := q; (try simp at q1); exact PS_indexAddr ia29 (cvE rfl (by rw [q]; rfl)) (cvE rfl (by rw [q]; rfl)) (by omega) (by omega)) ?_
  refine GL_gf (t := 70) rfl rfl rfl (fun q => PS_fieldAddr fa28_1 (cvE rfl (by rw [q]; rfl))) ?_
  refine GL_gf (t := 70) rfl rfl rfl (fun q => by have q1 := q; (try simp at q1); exact PS_load (cvE rfl (by rw [q]; rfl)) tys3 (.tail _ (.head _)) ((Land.l1.comp (Lens.arr (n := 9) Thing.fl (by omega) (by omega))).comp Thing.l1) rfl rfl) ?_
  refine GL_gf (t := 70) rfl rfl rfl (fun q => PS_neq (cvE rfl (by rw [q]; rfl)) rfl) ?_
  refine GL_step rfl (PS_or rfl rfl (fun h => by rw [h]; rfl)) ?_
  refine GL_step rfl (PS_move rfl) ?_
  refine GL_gf (t := 79) rfl rfl rfl (fun q => PS_move rfl) ?_
  refine GL_step rfl (PS_or rfl rfl (fun h => by rw [h]; rfl)) ?_
  refine GL_nil ?_
  refine GQ_sub (.cons (k := 2) rfl (.cons (k := 5) rfl (.cons (k := 81) rfl (.nil _)))) ?_
  refine GQ_then ?_
  refine G_cond rfl (fun c5 => ?_) (fun c5 => ?_)
  ·
   have c5p := kz c5
   refine G_seq ?_
   refine G_region ?_
   refine GL_step rfl (PS_assign rfl) ?_
   refine GL_nil ?_
   refine GQ_sub (.cons (k := 4) rfl (.nil _)) ?_
   refine GQ_then ?_
   refine G_ret ?_
   refine GQ_then_ret ?_
   refine GQ_block_ret ?_
   refine GQ_then_ret ?_
   refine GQ_ret rfl (.tmp rfl .nil) ?_
   intro w1 hS; refine ⟨congrArg Value.bool ?_, hS.toKeep⟩; simp only [Land.goodThing, c1, c2, c3, c4, c5, ↓reduceIte, Bool.false_eq_true]
  have c5p := kz c5
  refine G_skip ?_
  refine GQ_sub (.cons (k := 2) rfl (.cons (k := 5) rfl (.nil _))) ?_
  refine GQ_then ?_
  refine G_seq ?_
  refine G_region ?_
  refine GL_step rfl (PS_move rfl) ?_
  refine GL_nil ?_
  refine GQ_then ?_
  refine G_block ?_
  refine G_subF (.cons (k := 82) rfl (.cons (k := 2) rfl (.cons (k := 5) rfl (.nil _)))) ?_
  refine G_loop2_ (fun (k : Int) (t : Thing) => 0 ≤ k ∧ k ≤ 10 ∧ X.goodThing i = X.climb (10 - k).toNat t) (fun (k : Int) (t : Thing) => (10 - k).toNat) (fun (k : Int) (t : Thing) => [(82, .int .i64 k)]) (fun (k : Int) (t : Thing) => [Res.box b2 28 (Thing.enc t)]) (0) (X.things.at i) ?_ rfl rfl (fun k t hI1 => ?_)
  · refine ⟨Int.le_refl _, by omega, ?_⟩; simp only [Land.goodThing, c1, c2, c3, c4, c5, ↓reduceIte, Bool.false_eq_true]; rfl
  obtain ⟨hI11, hI12, hI13⟩ := hI1
  refine G_seq ?_
  refine G_region ?_
  refine GL_step rfl (PS_lss rfl rfl) ?_
  refine GL_nil ?_
  refine GQ_then ?_
  refine G_seq ?_
  refine G_cond rfl (fun c6 => ?_) (fun c6 => ?_)
  ·
   have c6p := kz c6
   rw [show (10 - k).toNat = (10 - (k + 1)).toNat + 1 from by omega, Land.climb, show decide ((10 - (k + 1)).toNat = 0) = decide (k = 9) from decide_eq_decide.2 ⟨by omega, by omega⟩] at hI13
   refine G_skip ?_
   refine GQ_sub (.cons (k := 2) rfl (.cons (k := 5) rfl (.cons (k := 82) rfl (.nil _)))) ?_
   refine GQ_then ?_
   refine G_seq ?_
   refine G_block ?_
   refine G_seq ?_
   refine G_region ?_
   refine GL_step rfl (PS_move rfl) ?_
   refine GL_step rfl (PS_assign rfl) ?_
   refine GL_nil ?_
   refine GQ_sub (.cons (k := 2) rfl (.cons (k := 5) rfl (.cons (k := 7) rfl (.cons (k := 82) rfl (.nil _))))) ?_
   refine GQ_then ?_
   refine G_seq ?_
   refine G_seq ?_
   refine G_region ?_
   refine GL_step rfl (PS_fieldAddr fa28_2 rfl) ?_
   refine GL_step rfl (PS_load rfl tys3 (.head _) Thing.l2 rfl rfl) ?_
   refine GL_step rfl (PS_neq rfl rfl) ?_
   refine GL_nil ?_
   refine GQ_sub (.cons (k := 2) rfl (.cons (k := 5) rfl (.cons (k := 7) rfl (.cons (k := 82) rfl (.cons (k := 87) rfl (.nil _)))))) ?_
   refine GQ_then ?_
   refine G_cond rfl (fun c7 => ?_) (fun c7 => ?_)
   ·
    have c7p := kz c7
    refine G_seq ?_
    refine G_region ?_
    refine GL_step rfl (PS_assign rfl) ?_
    refine GL_nil ?_
    refine GQ_sub (.cons (k := 4) rfl (.nil _)) ?_
    refine GQ_then ?_
    refine G_ret ?_
    refine GQ_then_ret ?_
    refine GQ_block_ret ?_
    refine GQ_then_ret ?_
    refine GQ_then_ret ?_
    refine GQ_block_ret ?_
    refine GQ_block_ret ?_
    refine GQ_then_ret ?_
    refine GQ_ret rfl (.tmp rfl .nil) ?_
    intro w1 hS; refine ⟨congrArg Value.bool ?_, hS.toKeep⟩; rw [hI13]; simp only [c1, c2, c3, c4, c5, c6, c7, ↓reduceIte, Bool.false_eq_true]
   have c7p := kz c7
   refine G_skip ?_
   refine GQ_sub (.cons (k := 2) rfl (.cons (k := 5) rfl (.cons (k := 7) rfl (.cons (k := 82) rfl (.nil _))))) ?_
   refine GQ_then ?_
   refine G_seq ?_
   refine G_seq ?_
   refine G_region ?_
   refine GL_step rfl (PS_move rfl) ?_
   refine GL_step rfl (PS_eql rfl rfl) ?_
   refine GL_step rfl (PS_move rfl) ?_
   refine GL_gf (t := 90) rfl rfl rfl (fun q => PS_fieldAddr fa28_3 rfl) ?_
   refine GL_gf (t := 90) rfl rfl rfl (fun q => PS_load (cvE rfl (by rw [q]; rfl)) tys3 (.head _) Thing.l3 rfl rfl) ?_
   refine GL_gf (t := 90) rfl rfl rfl (fun q => PS_lss (cvE rfl (by rw [q]; rfl)) rfl) ?_
   refine GL_step rfl (PS_or rfl rfl (fun h => by rw [h]; rfl)) ?_
   refine GL_step rfl (PS_move rfl) ?_
   refine GL_gf (t := 95) rfl rfl rfl (fun q => PS_fieldAddr fa28_3 rfl) ?_
   refine GL_gf (t := 95) rfl rfl rfl (fun q => PS_load (cvE rfl (by rw [q]; rfl)) tys3 (.head _) Thing.l3 rfl rfl) ?_
   refine GL_gf (t := 95) rfl rfl rfl (fun q => PS_geq (cvE rfl (by rw [q]; rfl)) rfl) ?_
   refine GL_step rfl (PS_or rfl rfl (fun h => by rw [h]; rfl)) ?_
   refine GL_nil ?_
   refine GQ_sub (.cons (k := 2) rfl (.cons (k := 5) rfl (.cons (k := 82) rfl (.cons (k := 99) rfl (.nil _))))) ?_
   refine GQ_then ?_
   refine G_cond rfl (fun c8 => ?_) (fun c8 => ?_)
   ·
    have c8p := kz c8
    refine G_seq ?_
    refine G_region ?_
    refine GL_step rfl (PS_assign rfl) ?_
    refine GL_nil ?_
    refine GQ_sub (.cons (k := 4) rfl (.nil _)) ?_
    refine GQ_then ?_
    refine G_ret ?_
    refine GQ_then_ret ?_
    refine GQ_block_ret ?_
    refine GQ_then_ret ?_
    refine GQ_then_ret ?_
    refine GQ_block_ret ?_
    refine GQ_block_ret ?_
    refine GQ_then_ret ?_
    refine GQ_ret rfl (.tmp rfl .nil) ?_
    intro w1 hS; refine ⟨congrArg Value.bool ?_, hS.toKeep⟩; rw [hI13]; simp only [c1, c2, c3, c4, c5, c6, c7, c8, ↓reduceIte, Bool.false_eq_true]
   have c8p := kz c8
   refine G_skip ?_
   refine GQ_sub (.cons (k := 2) rfl (.cons (k := 5) rfl (.cons (k := 82) rfl (.nil _)))) ?_
   refine GQ_then ?_
   refine G_region ?_
   refine GL_step rfl (PS_fieldAddr fa28_3 rfl) ?_
   refine GL_step rfl (PS_load rfl tys3 (.head _) Thing.l3 rfl rfl) ?_
   refine GL_step rfl (PS_fieldAddr fa34_1 rfl) ?_
   refine GL_step rfl (PS_indexAddr ia29 rfl rfl (by omega) (by omega)) ?_
   refine GL_step rfl (PS_loadA rfl tya28 (.tail _ (.head _)) (Land.l1.comp (Lens.arr (n := 9) Thing.fl (by omega) (by omega))) rfl) ?_
   refine GL_unit (PU_store (Lens.id Thing.fl.len Thing.fl.one) rfl rfl rfl sz28 rfl .head) ?_
   refine GL_nil ?_
   refine GQ_sub (.cons (k := 2) rfl (.cons (k := 5) rfl (.cons (k := 82) rfl (.nil _)))) ?_
   refine GQ_block ?_
   refine GQ_then ?_
   refine G_region ?_
   refine GL_step rfl (PS_add rfl rfl (IntWalk.i64_in _ (by omega))) ?_
   refine GL_step rfl (PS_move rfl) ?_
   refine GL_nil ?_
   refine GQ_sub (.cons (k := 2) rfl (.cons (k := 5) rfl (.cons (k := 82) rfl (.nil _)))) ?_
   refine GQ_next2_ (k + 1) (X.things.at t.at_) ?_ ?_ (.cons (k := 82) rfl (.cons (k := 2) rfl (.cons (k := 5) rfl (.nil _)))) (.refl _)
   · exact ⟨by omega, by omega, by rw [hI13]; simp only [c1, c2, c3, c4, c5, c6, c7, c8, ↓reduceIte, Bool.false_eq_true]⟩
   · omega
  have c6p := kz c6
  obtain rfl : k = 10 := by omega
  refine G_exit ?_
  refine GQ_then_exit ?_
  refine GQ_then_exit ?_
  refine GQ_block_exit ?_
  refine GQ_sub (.nil _) ?_
  refine GQ_block ?_
  refine GQ_then ?_
  refine G_seq ?_
  refine G_region ?_
  refine GL_step rfl (PS_assign rfl) ?_
  refine GL_nil ?_
  refine GQ_then ?_
  refine G_ret ?_
  refine GQ_ret rfl (.tmp rfl .nil) ?_
  intro w1 hS; refine ⟨congrArg Value.bool ?_, hS.toKeep⟩; rw [hI13]; rfl
 have c4p := kz c4
 refine G_skip ?_
 refine GQ_sub (.nil _) ?_
 refine GQ_block ?_
 refine GQ_then ?_
 refine G_seq ?_
 refine G_region ?_
 refine GL_step rfl (PS_assign rfl) ?_
 refine GL_nil ?_
 refine GQ_then ?_
 refine G_ret ?_
 refine GQ_ret rfl (.tmp rfl .nil) ?_
 intro w1 hS; refine ⟨congrArg Value.bool ?_, hS.toKeep⟩; simp only [Land.goodThing, c1, c2, c3, c4, ↓reduceIte, Bool.false_eq_true]
theorem land_Good_spec (X : Land) (w : World) : Ret Tryz.prog 16 #[.agg X.enc.toArray] w fun v w' => v = .bool X.good ∧ Keep w w' := by
 refine Ret_body [] [] Tryz.func16 rfl rfl rfl (St.start w []) ?_
 refine G_seq ?_
 refine G_region ?_
 refine GL_box rfl rfl rfl (fun b1 => ?_)
 refine GL_step rfl (PS_assign rfl) ?_
 refine GL_nil ?_
 refine GQ_sub (.cons (k := 1) rfl (.nil _)) ?_
 refine GQ_then ?_
 refine G_seq ?_
 refine G_seq ?_
 refine G_region ?_
 refine GL_step rfl (PS_fieldAddr fa34_0 rfl) ?_
 refine GL_step rfl (PS_loadA rfl tya26 (.head _) Land.l0 rfl) ?_
 refine GL_step rfl (PS_move rfl) ?_
 refine GL_nil ?_
 refine GQ_sub (.cons (k := 1) rfl (.cons (k := 11) rfl (.cons (k := 12) rfl (.nil _)))) ?_
 refine GQ_then ?_
 refine G_block ?_
 refine G_subF (.cons (k := 12) rfl (.cons (k := 1) rfl (.cons (k := 11) rfl (.nil _)))) ?_
 refine G_loop1_ (fun (k : Int) => 0 ≤ k ∧ k ≤ 6 ∧ X.good = (allFrom 6 X.goodRoom (6 - k).toNat && (allFrom 6 (fun k => !Land.badBeing (X.beings.at k)) 6 && allFrom 9 X.goodThing 9))) (fun (k : Int) => (6 - k).toNat) (fun (k : Int) => [(12, .int .i64 k)]) (fun (k : Int) => []) (0) ?_ rfl rfl (fun k hI1 => ?_)
 · exact ⟨Int.le_refl _, by omega, rfl⟩
 obtain ⟨hI11, hI12, hI13⟩ := hI1
 refine G_seq ?_
 refine G_region ?_
 refine GL_step rfl (PS_lss rfl rfl) ?_
 refine GL_nil ?_
 refine GQ_then ?_
 refine G_seq ?_
 refine G_cond rfl (fun c1 => ?_) (fun c1 => ?_)
 ·
  have c1p := kz c1
  rw [allFrom_step _ (by omega)] at hI13
  refine G_skip ?_
  refine GQ_sub (.cons (k := 1) rfl (.cons (k := 11) rfl (.cons (k := 12) rfl (.nil _)))) ?_
  refine GQ_then ?_
  refine G_seq ?_
  refine G_block ?_
  refine G_seq ?_
  refine G_region ?_
  refine GL_step rfl (PS_indexAA Room.fl Tryz.underlying26 tya25 rfl rfl (by omega) (by omega)) ?_
  refine GL_alloc rfl zv25 rfl (fun b2 => ?_)
  refine GL_unit (PU_store (Lens.id Room.fl.len Room.fl.one) rfl rfl rfl sz25 rfl .head) ?_
  refine GL_nil ?_
  refine GQ_sub (.cons (k := 1) rfl (.cons (k := 4) rfl (.cons (k := 11) rfl (.cons (k := 12) rfl (.nil _))))) ?_
  refine GQ_then ?_
  refine G_seq ?_
  refine G_region ?_
  refine GL_step rfl (PS_fieldAddr fa25_2 rfl) ?_
  refine GL_step rfl (PS_loadA rfl tya22 (.head _) Room.l2 rfl) ?_
  refine GL_step rfl (PS_move rfl) ?_
  refine GL_nil ?_
  refine GQ_sub (.cons (k := 1) rfl (.cons (k := 4) rfl (.cons (k := 11) rfl (.cons (k := 12) rfl (.cons (k := 16) rfl (.cons (k := 17) rfl (.nil _))))))) ?_
  refine GQ_then ?_
  refine G_block ?_
  refine G_subF (.cons (k := 17) rfl (.cons (k := 1) rfl (.cons (k := 4) rfl (.cons (k := 11) rfl (.cons (k := 12) rfl (.cons (k := 16) rfl (.nil _))))))) ?_
  refine G_loop1_ (fun (d : Int) => 0 ≤ d ∧ d ≤ 6 ∧ X.goodRoom k = allFrom 6 (fun d => !Land.badExit (X.rooms.at k) d) (6 - d).toNat) (fun (d : Int) => (6 - d).toNat) (fun (d : Int) => [(17, .int .i64 d)]) (fun (d : Int) => []) (0) ?_ rfl rfl (fun d hI2 => ?_)
  · exact ⟨Int.le_refl _, by omega, rfl⟩
  obtain ⟨hI21, hI22, hI23⟩ := hI2
  refine G_seq ?_
  refine G_region ?_
  refine GL_step rfl (PS_lss rfl rfl) ?_
  refine GL_nil ?_
  refine GQ_then ?_
  refine G_seq ?_
  refine G_cond rfl (fun c2 => ?_) (fun c2 => ?_)
  ·
   have c2p := kz c2
   rw [allFrom_step _ (by omega)] at hI23
   refine G_skip ?_
   refine GQ_sub (.cons (k := 1) rfl (.cons (k := 4) rfl (.cons (k := 11) rfl (.cons (k := 12) rfl (.cons (k := 16) rfl (.cons (k := 17) rfl (.nil _))))))) ?_
   refine GQ_then ?_
   refine G_seq ?_
   refine G_block ?_
   refine G_seq ?_
   refine G_region ?_
   refine GL_step rfl (PS_move rfl) ?_
   refine GL_step rfl (PS_indexA flI Tryz.underlying22 sz3 tys3 rfl rfl (by omega) (by omega) rfl) ?_
   refine GL_step rfl (PS_assign rfl) ?_
   refine GL_step rfl (PS_assign rfl) ?_
   refine GL_nil ?_
   refine GQ_sub (.cons (k := 1) rfl (.cons (k := 4) rfl (.cons (k := 5) rfl (.cons (k := 6) rfl (.cons (k := 11) rfl (.cons (k := 12) rfl (.cons (k := 16) rfl (.cons (k := 17) rfl (.nil _))))))))) ?_
   refine GQ_then ?_
   refine G_seq ?_
   refine G_region ?_
   refine GL_step rfl (PS_move rfl) ?_
   refine GL_step rfl (PS_lss rfl rfl) ?_
   refine GL_step rfl (PS_move rfl) ?_
   refine GL_gf (t := 23) rfl rfl rfl (fun q => PS_move rfl) ?_
   refine GL_gf (t := 23) rfl rfl rfl (fun q => PS_gtr (cvE rfl (by rw [q]; rfl)) rfl) ?_
   refine GL_step rfl (PS_or rfl rfl (fun h => by rw [h]; rfl)) ?_
   refine GL_step rfl (PS_move rfl) ?_
   refine GL_gf (t := 27) rfl rfl rfl (fun q => PS_move rfl) ?_
   refine GL_gf (t := 27) rfl rfl rfl (fun q => PS_eql (cvE rfl (by rw [q]; rfl)) rfl) ?_
   refine GL_gf (t := 27) rfl rfl rfl (fun q => PS_move (cvE rfl (by rw [q]; rfl))) ?_
   refine GL_gtc (t := 30) rfl rfl rfl (fun qc q => PS_move rfl) ?_
   refine GL_gtc (t := 30) rfl rfl rfl (fun qc q => PS_fieldAddr fa25_3 rfl) ?_
   refine GL_gtc (t := 30) rfl rfl rfl (fun qc q => by have q1 := q; have qc1 := qc; (try simp at q1 qc1); exact PS_indexAddr ia23 (cvE rfl (by rw [qc, q]; rfl)) (cvE rfl (by rw [qc, q]; rfl)) (by omega) (by omega)) ?_
   refine GL_gtc (t := 30) rfl rfl rfl (fun qc q => by have q1 := q; have qc1 := qc; (try simp at q1 qc1); exact PS_load (cvE rfl (by rw [qc, q]; rfl)) tys4 (.head _) (Room.l3.comp (Lens.arr (n := 6) flB (by omega) (by omega))) rfl rfl) ?_
   refine GL_gf (t := 27) rfl rfl rfl (fun q => PS_and (cvE rfl (by rw [q]; rfl)) rfl (fun h => by rw [q, h]; rfl)) ?_
   refine GL_step rfl (PS_or rfl rfl (fun h => by rw [h]; rfl)) ?_
   refine GL_nil ?_
   refine GQ_sub (.cons (k := 1) rfl (.cons (k := 4) rfl (.cons (k := 11) rfl (.cons (k := 12) rfl (.cons (k := 16) rfl (.cons (k := 17) rfl (.cons (k := 36) rfl (.nil _)))))))) ?_
   refine GQ_then ?_
   refine G_cond rfl (fun c3 => ?_) (fun c3 => ?_)
   ·
    have c3p := kz c3
    refine G_seq ?_
    refine G_region ?_
    refine GL_step rfl (PS_assign rfl) ?_
    refine GL_nil ?_
    refine GQ_sub (.cons (k := 2) rfl (.nil _)) ?_
    refine GQ_then ?_
    refine G_ret ?_
    refine GQ_block_ret ?_
    refine GQ_then_ret ?_
    refine GQ_then_ret ?_
    refine GQ_block_ret ?_
    refine GQ_block_ret ?_
    refine GQ_then_ret ?_
    refine GQ_then_ret ?_
    refine GQ_block_ret ?_
    refine GQ_then_ret ?_
    refine GQ_ret rfl (.tmp rfl .nil) ?_
    intro w1 hS; refine ⟨congrArg Value.bool ?_, hS.toKeep⟩; rw [hI13, hI23, Land.badExit, c3]; rfl
   have c3p := kz c3
   refine G_skip ?_
   refine GQ_sub (.cons (k := 1) rfl (.cons (k := 4) rfl (.cons (k := 11) rfl (.cons (k := 12) rfl (.cons (k := 16) rfl (.cons (k := 17) rfl (.nil _))))))) ?_
   refine GQ_block ?_
   refine GQ_then ?_
   refine G_region ?_
   refine GL_step rfl (PS_add rfl rfl (IntWalk.i64_in _ (by omega))) ?_
   refine GL_step rfl (PS_move rfl) ?_
   refine GL_nil ?_
   refine GQ_sub (.cons (k := 1) rfl (.cons (k := 4) rfl (.cons (k := 11) rfl (.cons (k := 12) rfl (.cons (k := 16) rfl (.cons (k := 17) rfl (.nil _))))))) ?_
   refine GQ_next1_ (d + 1) ?_ ?_ (.cons (k := 17) rfl (.cons (k := 1) rfl (.cons (k := 4) rfl (.cons (k := 11) rfl (.cons (k := 12) rfl (.cons (k := 16) rfl (.nil _))))))) (.refl _)
   · exact ⟨by omega, by omega, by rw [hI23, Land.badExit, c3]; rfl⟩
   · omega
  have c2p := kz c2
  obtain rfl : d = 6 := by omega
  refine G_exit ?_
  refine GQ_then_exit ?_
  refine GQ_then_exit ?_
  refine GQ_block_exit ?_
  refine GQ_sub (.cons (k := 1) rfl (.cons (k := 11) rfl (.cons (k := 12) rfl (.nil _)))) ?_
  refine GQ_block ?_
  refine GQ_then ?_
  refine G_region ?_
  refine GL_step rfl (PS_add rfl rfl (IntWalk.i64_in _ (by omega))) ?_
  refine GL_step rfl (PS_move rfl) ?_
  refine GL_nil ?_
  refine GQ_sub (.cons (k := 1) rfl (.cons (k := 11) rfl (.cons (k := 12) rfl (.nil _)))) ?_
  refine GQ_next1_ (k + 1) ?_ ?_ (.cons (k := 12) rfl (.cons (k := 1) rfl (.cons (k := 11) rfl (.nil _)))) (.cons _ (.refl _))
  · exact ⟨by omega, by omega, by rw [hI13, hI23]; rfl⟩
  · omega
 have c1p := kz c1
 obtain rfl : k = 6 := by omega
 refine G_exit ?_
 refine GQ_then_exit ?_
 refine GQ_then_exit ?_
 refine GQ_block_exit ?_
 refine GQ_sub (.cons (k := 1) rfl (.nil _)) ?_
 refine GQ_then ?_
 refine G_seq ?_
 refine G_seq ?_
 refine G_region ?_
 refine GL_step rfl (PS_fieldAddr fa34_2 rfl) ?_
 refine GL_step rfl (PS_loadA rfl tya32 (.head _) Land.l2 rfl) ?_
 refine GL_step rfl (PS_move rfl) ?_
 refine GL_nil ?_
 refine GQ_sub (.cons (k := 1) rfl (.cons (k := 40) rfl (.cons (k := 41) rfl (.nil _)))) ?_
 refine GQ_then ?_
 refine G_block ?_
 refine G_subF (.cons (k := 41) rfl (.cons (k := 1) rfl (.cons (k := 40) rfl (.nil _)))) ?_
 refine G_loop1_ (fun (b : Int) => 0 ≤ b ∧ b ≤ 6 ∧ X.good = (allFrom 6 (fun k => !Land.badBeing (X.beings.at k)) (6 - b).toNat && allFrom 9 X.goodThing 9)) (fun (b : Int) => (6 - b).toNat) (fun (b : Int) => [(41, .int .i64 b)]) (fun (b : Int) => []) (0) ?_ rfl rfl (fun b hI3 => ?_)
 · exact ⟨Int.le_refl _, by omega, hI13⟩
 obtain ⟨hI31, hI32, hI33⟩ := hI3
 refine G_seq ?_
 refine G_region ?_
 refine GL_step rfl (PS_lss rfl rfl) ?_
 refine GL_nil ?_
 refine GQ_then ?_
 refine G_seq ?_
 refine G_cond rfl (fun c4 => ?_) (fun c4 => ?_)
 ·
  have c4p := kz c4
  rw [allFrom_step _ (by omega)] at hI33
  refine G_skip ?_
  refine GQ_sub (.cons (k := 1) rfl (.cons (k := 40) rfl (.cons (k := 41) rfl (.nil _)))) ?_
  refine GQ_then ?_
  refine G_seq ?_
  refine G_block ?_
  refine G_seq ?_
  refine G_region ?_
  refine GL_step rfl (PS_indexAA Being.fl Tryz.underlying32 tya31 rfl rfl (by omega) (by omega)) ?_
  refine GL_alloc rfl zv31 rfl (fun b3 => ?_)
  refine GL_unit (PU_store (Lens.id Being.fl.len Being.fl.one) rfl rfl rfl sz31 rfl .head) ?_
  refine GL_nil ?_
  refine GQ_sub (.cons (k := 1) rfl (.cons (k := 8) rfl (.cons (k := 40) rfl (.cons (k := 41) rfl (.nil _))))) ?_
  refine GQ_then ?_
  refine G_seq ?_
  refine G_region ?_
  refine GL_step rfl (PS_fieldAddr fa31_3 rfl) ?_
  refine GL_step rfl (PS_load rfl tys3 (.head _) Being.l3 rfl rfl) ?_
  refine GL_step rfl (PS_lss rfl rfl) ?_
  refine GL_step rfl (PS_move rfl) ?_
  refine GL_gf (t := 47) rfl rfl rfl (fun q => PS_fieldAddr fa31_3 rfl) ?_
  refine GL_gf (t := 47) rfl rfl rfl (fun q => PS_load (cvE rfl (by rw [q]; rfl)) tys3 (.head _) Being.l3 rfl rfl) ?_
  refine GL_gf (t := 47) rfl rfl rfl (fun q => PS_geq (cvE rfl (by rw [q]; rfl)) rfl) ?_
  refine GL_step rfl (PS_or rfl rfl (fun h => by rw [h]; rfl)) ?_
  refine GL_step rfl (PS_move rfl) ?_
  refine GL_gf (t := 52) rfl rfl rfl (fun q => PS_fieldAddr fa31_4 rfl) ?_
  refine GL_gf (t := 52) rfl rfl rfl (fun q => PS_load (cvE rfl (by rw [q]; rfl)) tys3 (.head _) Being.l4 rfl rfl) ?_
  refine GL_gf (t := 52) rfl rfl rfl (fun q => PS_lss (cvE rfl (by rw [q]; rfl)) rfl) ?_
  refine GL_step rfl (PS_or rfl rfl (fun h => by rw [h]; rfl)) ?_
  refine GL_step rfl (PS_move rfl) ?_
  refine GL_gf (t := 57) rfl rfl rfl (fun q => PS_fieldAddr fa31_4 rfl) ?_
  refine GL_gf (t := 57) rfl rfl rfl (fun q => PS_load (cvE rfl (by rw [q]; rfl)) tys3 (.head _) Being.l4 rfl rfl) ?_
  refine GL_gf (t := 57) rfl rfl rfl (fun q => PS_gtr (cvE rfl (by rw [q]; rfl)) rfl) ?_
  refine GL_step rfl (PS_or rfl rfl (fun h => by rw [h]; rfl)) ?_
  refine GL_step rfl (PS_move rfl) ?_
  refine GL_gf (t := 62) rfl rfl rfl (fun q => PS_fieldAddr fa31_5 rfl) ?_
  refine GL_gf (t := 62) rfl rfl rfl (fun q => PS_load (cvE rfl (by rw [q]; rfl)) tys3 (.head _) Being.l5 rfl rfl) ?_
  refine GL_gf (t := 62) rfl rfl rfl (fun q => PS_lss (cvE rfl (by rw [q]; rfl)) rfl) ?_
  refine GL_step rfl (PS_or rfl rfl (fun h => by rw [h]; rfl)) ?_
  refine GL_step rfl (PS_move rfl) ?_
  refine GL_gf (t := 67) rfl rfl rfl (fun q => PS_fieldAddr fa31_5 rfl) ?_
  refine GL_gf (t := 67) rfl rfl rfl (fun q => PS_load (cvE rfl (by rw [q]; rfl)) tys3 (.head _) Being.l5 rfl rfl) ?_
  refine GL_gf (t := 67) rfl rfl rfl (fun q => PS_gtr (cvE rfl (by rw [q]; rfl)) rfl) ?_
  refine GL_step rfl (PS_or rfl rfl (fun h => by rw [h]; rfl)) ?_
  refine GL_step rfl (PS_move rfl) ?_
  refine GL_gf (t := 72) rfl rfl rfl (fun q => PS_fieldAddr fa31_1 rfl) ?_
  refine GL_gf (t := 72) rfl rfl rfl (fun q => PS_load (cvE rfl (by rw [q]; rfl)) tys4 (.head _) Being.l1 rfl rfl) ?_
  refine GL_gf (t := 72) rfl rfl rfl (fun q => PS_not (cvE rfl (by rw [q]; rfl))) ?_
  refine GL_gf (t := 72) rfl rfl rfl (fun q => PS_move (cvE rfl (by rw [q]; rfl))) ?_
  refine GL_gtc (t := 76) rfl rfl rfl (fun qc q => PS_fieldAddr fa31_5 rfl) ?_
  refine GL_gtc (t := 76) rfl rfl rfl (fun qc q => PS_load (cvE rfl (by rw [qc, q]; rfl)) tys3 (.head _) Being.l5 rfl rfl) ?_
  refine GL_gtc (t := 76) rfl rfl rfl (fun qc q => PS_neq (cvE rfl (by rw [qc, q]; rfl)) rfl) ?_
  refine GL_gf (t := 72) rfl rfl rfl (fun q => PS_and (cvE rfl (by rw [q]; rfl)) rfl (fun h => by rw [q, h]; rfl)) ?_
  refine GL_step rfl (PS_or rfl rfl (fun h => by rw [h]; rfl)) ?_
  refine GL_step rfl (PS_move rfl) ?_
  refine GL_gf (t := 82) rfl rfl rfl (fun q => PS_fieldAddr fa31_1 rfl) ?_
  refine GL_gf (t := 82) rfl rfl rfl (fun q => PS_load (cvE rfl (by rw [q]; rfl)) tys4 (.head _) Being.l1 rfl rfl) ?_
  refine GL_gf (t := 82) rfl rfl rfl (fun q => PS_fieldAddr fa31_4 rfl) ?_
  refine GL_gf (t := 82) rfl rfl rfl (fun q => PS_load (cvE rfl (by rw [q]; rfl)) tys3 (.head _) Being.l4 rfl rfl) ?_
  refine GL_gf (t := 82) rfl rfl rfl (fun q => PS_gtr (cvE rfl (by rw [q]; rfl)) rfl) ?_
  refine GL_gf (t := 82) rfl rfl rfl (fun q => PS_neq_bool Tryz.underlying4 (cvE rfl (by rw [q]; rfl)) (cvE rfl (by rw [q]; rfl))) ?_
  refine GL_step rfl (PS_or rfl rfl (fun h => by rw [h]; rfl)) ?_
  refine GL_nil ?_
  refine GQ_sub (.cons (k := 1) rfl (.cons (k := 40) rfl (.cons (k := 41) rfl (.cons (k := 89) rfl (.nil _))))) ?_
  refine GQ_then ?_
  refine G_cond rfl (fun c5 => ?_) (fun c5 => ?_)
  ·
   have c5p := kz c5
   refine G_seq ?_
   refine G_region ?_
   refine GL_step rfl (PS_assign rfl) ?_
   refine GL_nil ?_
   refine GQ_sub (.cons (k := 2) rfl (.nil _)) ?_
   refine GQ_then ?_
   refine G_ret ?_
   refine GQ_block_ret ?_
   refine GQ_then_ret ?_
   refine GQ_then_ret ?_
   refine GQ_block_ret ?_
   refine GQ_then_ret ?_
   refine GQ_ret rfl (.tmp rfl .nil) ?_
   intro w1 hS; refine ⟨congrArg Value.bool ?_, hS.toKeep⟩; rw [hI33, Land.badBeing, c5]; rfl
  have c5p := kz c5
  refine G_skip ?_
  refine GQ_sub (.cons (k := 1) rfl (.cons (k := 40) rfl (.cons (k := 41) rfl (.nil _)))) ?_
  refine GQ_block ?_
  refine GQ_then ?_
  refine G_region ?_
  refine GL_step rfl (PS_add rfl rfl (IntWalk.i64_in _ (by omega))) ?_
  refine GL_step rfl (PS_move rfl) ?_
  refine GL_nil ?_
  refine GQ_sub (.cons (k := 1) rfl (.cons (k := 40) rfl (.cons (k := 41) rfl (.nil _)))) ?_
  refine GQ_next1_ (b + 1) ?_ ?_ (.cons (k := 41) rfl (.cons (k := 1) rfl (.cons (k := 40) rfl (.nil _)))) (.cons _ (.refl _))
  · exact ⟨by omega, by omega, by rw [hI33, Land.badBeing, c5]; rfl⟩
  · omega
 have c4p := kz c4
 obtain rfl : b = 6 := by omega
 refine G_exit ?_
 refine GQ_then_exit ?_
 refine GQ_then_exit ?_
 refine GQ_block_exit ?_
 refine GQ_sub (.cons (k := 1) rfl (.nil _)) ?_
 refine GQ_then ?_
 refine G_seq ?_
 refine G_seq ?_
 refine G_region ?_
 refine GL_step rfl (PS_move rfl) ?_
 refine GL_nil ?_
 refine GQ_then ?_
 refine G_block ?_
 refine G_subF (.cons (k := 91) rfl (.cons (k := 1) rfl (.nil _))) ?_
 refine G_loop1_ (fun (t : Int) => 0 ≤ t ∧ t ≤ 9 ∧ X.good = allFrom 9 X.goodThing (9 - t).toNat) (fun (t : Int) => (9 - t).toNat) (fun (t : Int) => [(91, .int .i64 t)]) (fun (t : Int) => []) (0) ?_ rfl rfl (fun t hI4 => ?_)
 · exact ⟨Int.le_refl _, by omega, hI33⟩
 obtain ⟨hI41, hI42, hI43⟩ := hI4
 refine G_seq ?_
 refine G_region ?_
 refine GL_step rfl (PS_lss rfl rfl) ?_
 refine GL_nil ?_
 refine GQ_then ?_
 refine G_seq ?_
 refine G_cond rfl (fun c6 => ?_) (fun c6 => ?_)
 ·
  have c6p := kz c6
  rw [allFrom_step _ (by omega)] at hI43
  refine G_skip ?_
  refine GQ_sub (.cons (k := 1) rfl (.cons (k := 91) rfl (.nil _))) ?_
  refine GQ_then ?_
  refine G_seq ?_
  refine G_block ?_
  refine G_seq ?_
  refine G_region ?_
  refine GL_step rfl (PS_move rfl) ?_
  refine GL_step rfl (PS_assign rfl) ?_
  refine GL_nil ?_
  refine GQ_sub (.cons (k := 1) rfl (.cons (k := 9) rfl (.cons (k := 91) rfl (.nil _)))) ?_
  refine GQ_then ?_
  refine G_seq ?_
  refine G_region ?_
  refine GL_step rfl (PS_loadA rfl tya34 (.head _) (Lens.id Land.fl.len Land.fl.one) rfl) ?_
  refine GL_step rfl (PS_move rfl) ?_
  refine GL_pure rfl cf43 (.cons rfl (.cons rfl .nil)) (fun w hS => land_goodThing_spec X _ (by omega) (by omega) w) ?_
  refine GL_step rfl (PS_not rfl) ?_
  refine GL_nil ?_
  refine GQ_sub (.cons (k := 1) rfl (.cons (k := 91) rfl (.cons (k := 97) rfl (.nil _)))) ?_
  refine GQ_then ?_
  refine G_cond rfl (fun c7 => ?_) (fun c7 => ?_)
  ·
   have c7p := kz c7
   refine G_seq ?_
   refine G_region ?_
   refine GL_step rfl (PS_assign rfl) ?_
   refine GL_nil ?_
   refine GQ_sub (.cons (k := 2) rfl (.nil _)) ?_
   refine GQ_then ?_
   refine G_ret ?_
   refine GQ_block_ret ?_
   refine GQ_then_ret ?_
   refine GQ_then_ret ?_
   refine GQ_block_ret ?_
   refine GQ_then_ret ?_
   refine GQ_ret rfl (.tmp rfl .nil) ?_
   intro w1 hS; refine ⟨congrArg Value.bool ?_, hS.toKeep⟩; rw [hI43, show X.goodThing t = false by simpa using c7]; rfl
  have c7p := kz c7
  refine G_skip ?_
  refine GQ_sub (.cons (k := 1) rfl (.cons (k := 91) rfl (.nil _))) ?_
  refine GQ_block ?_
  refine GQ_then ?_
  refine G_region ?_
  refine GL_step rfl (PS_add rfl rfl (IntWalk.i64_in _ (by omega))) ?_
  refine GL_step rfl (PS_move rfl) ?_
  refine GL_nil ?_
  refine GQ_sub (.cons (k := 1) rfl (.cons (k := 91) rfl (.nil _))) ?_
  refine GQ_next1_ (t + 1) ?_ ?_ (.cons (k := 91) rfl (.cons (k := 1) rfl (.nil _))) (.refl _)
  · exact ⟨by omega, by omega, by rw [hI43, show X.goodThing t = true by simpa using c7]; rfl⟩
  · omega
 have c6p := kz c6
 obtain rfl : t = 9 := by omega
 refine G_exit ?_
 refine GQ_then_exit ?_
 refine GQ_then_exit ?_
 refine GQ_block_exit ?_
 refine GQ_sub (.nil _) ?_
 refine GQ_then ?_
 refine G_seq ?_
 refine G_region ?_
 refine GL_step rfl (PS_assign rfl) ?_
 refine GL_nil ?_
 refine GQ_then ?_
 refine G_ret ?_
 refine GQ_ret rfl (.tmp rfl .nil) ?_
 intro w1 hS; refine ⟨congrArg Value.bool ?_, hS.toKeep⟩; rw [hI43]; rfl
theorem sense_being_spec (X : Land) (b : Int) (w : World) : Ret Tryz.prog 74 #[.agg X.enc.toArray, .int .i64 b] w fun v w' => v = .bool (X.being b) ∧ Keep w w' := by
 refine Ret_body [] [] Tryz.func74 rfl rfl rfl (St.start w []) ?_
 refine G_seq ?_
 refine G_region ?_
 refine GL_box rfl rfl rfl (fun b1 => ?_)
 refine GL_step rfl (PS_assign rfl) ?_
 refine GL_nil ?_
 refine GQ_sub (.cons (k := 1) rfl (.cons (k := 2) rfl (.nil _))) ?_
 refine GQ_then ?_
 refine G_seq ?_
 refine G_region ?_
 refine GL_step rfl (PS_move rfl) ?_
 refine GL_step rfl (PS_geq rfl rfl) ?_
 refine GL_step rfl (PS_move rfl) ?_
 refine GL_gt (t := 7) rfl rfl rfl (fun q => PS_move rfl) ?_
 refine GL_gt (t := 7) rfl rfl rfl (fun q => PS_lss (cvE rfl q) rfl) ?_
 refine GL_step rfl (PS_and rfl rfl (fun h => h)) ?_
 refine GL_step rfl (PS_move rfl) ?_
 refine GL_gt (t := 11) rfl rfl rfl (fun q => PS_move rfl) ?_
 refine GL_gt (t := 11) rfl rfl rfl (fun q => PS_fieldAddr fa34_2 rfl) ?_
 refine GL_gt (t := 11) rfl rfl rfl (fun q => by have q1 := q; (try simp at q1); exact PS_indexAddr ia32 (cvE rfl q) (cvE rfl q) (by omega) (by omega)) ?_
 refine GL_gt (t := 11) rfl rfl rfl (fun q => PS_fieldAddr fa31_1 (cvE rfl q)) ?_
 refine GL_gt (t := 11) rfl rfl rfl (fun q => by have q1 := q; (try simp at q1); exact PS_load (cvE rfl q) tys4 (.head _) ((Land.l2.comp (Lens.arr (n := 6) Being.fl (by omega) (by omega))).comp Being.l1) rfl rfl) ?_
 refine GL_step rfl (PS_and rfl rfl (fun h => h)) ?_
 refine GL_step rfl (PS_assign rfl) ?_
 refine GL_nil ?_
 refine GQ_sub (.cons (k := 4) rfl (.nil _)) ?_
 refine GQ_then ?_
 refine G_ret ?_
 refine GQ_ret rfl (.tmp rfl .nil) ?_
 intro w1 hS; refine ⟨?_, hS.toKeep⟩; rfl
theorem land_Room_spec (X : Land) (i : Int) (w : World) : Ret Tryz.prog 73 #[.agg X.enc.toArray, .int .i64 i] w fun v w' => v = .tuple #[.int .i64 (X.room i).1, .bool (X.room i).2] ∧ Keep w w' := by
 refine Ret_body [] [] Tryz.func73 rfl rfl rfl (St.start w []) ?_
 refine G_seq ?_
 refine G_region ?_
 refine GL_box rfl rfl rfl (fun b1 => ?_)
 refine GL_step rfl (PS_assign rfl) ?_
 refine GL_step rfl (PS_assign rfl) ?_
 refine GL_nil ?_
 refine GQ_sub (.cons (k := 1) rfl (.cons (k := 2) rfl (.nil _))) ?_
 refine GQ_then ?_
 refine G_seq ?_
 refine G_region ?_
 refine GL_step rfl (PS_assign rfl) ?_
 refine GL_nil ?_
 refine GQ_then ?_
 refine G_seq ?_
 refine G_seq ?_
 refine G_region ?_
 refine GL_step rfl (PS_move rfl) ?_
 refine GL_nil ?_
 refine GQ_then ?_
 refine G_block ?_
 refine G_subF (.cons (k := 1) rfl (.cons (k := 6) rfl (.cons (k := 8) rfl (.cons (k := 2) rfl (.nil _))))) ?_
 refine G_loop3_ (fun (k : Int) (j : Int) (o : Bool) => 0 ≤ k ∧ k ≤ 10 ∧ X.room i = X.roomFrom (10 - k).toNat j o) (fun (k : Int) (j : Int) (o : Bool) => (10 - k).toNat) (fun (k : Int) (j : Int) (o : Bool) => [(1, .int .i64 j), (6, .bool o), (8, .int .i64 k)]) (fun (k : Int) (j : Int) (o : Bool) => []) (0) (i) (true) ?_ rfl rfl (fun k j o hI1 => ?_)
 · exact ⟨Int.le_refl _, by omega, rfl⟩
 obtain ⟨hI11, hI12, hI13⟩ := hI1
 refine G_seq ?_
 refine G_region ?_
 refine GL_step rfl (PS_lss rfl rfl) ?_
 refine GL_nil ?_
 refine GQ_then ?_
 refine G_seq ?_
 refine G_cond rfl (fun c1 => ?_) (fun c1 => ?_)
 ·
  have c1p := kz c1
  rw [show (10 - k).toNat = (10 - (k + 1)).toNat + 1 from by omega, Land.roomFrom] at hI13
  refine G_skip ?_
  refine GQ_sub (.cons (k := 1) rfl (.cons (k := 2) rfl (.cons (k := 6) rfl (.cons (k := 8) rfl (.nil _))))) ?_
  refine GQ_then ?_
  refine G_seq ?_
  refine G_block ?_
  refine G_seq ?_
  refine G_seq ?_
  refine G_region ?_
  refine GL_step rfl (PS_move rfl) ?_
  refine GL_step rfl (PS_lss rfl rfl) ?_
  refine GL_step rfl (PS_move rfl) ?_
  refine GL_gf (t := 12) rfl rfl rfl (fun q => PS_move rfl) ?_
  refine GL_gf (t := 12) rfl rfl rfl (fun q => PS_geq (cvE rfl (by rw [q]; rfl)) rfl) ?_
  refine GL_step rfl (PS_or rfl rfl (fun h => by rw [h]; rfl)) ?_
  refine GL_nil ?_
  refine GQ_sub (.cons (k := 1) rfl (.cons (k := 2) rfl (.cons (k := 6) rfl (.cons (k := 8) rfl (.cons (k := 15) rfl (.nil _)))))) ?_
  refine GQ_then ?_
  refine G_cond rfl (fun c2 => ?_) (fun c2 => ?_)
  ·
   have c2p := kz c2
   refine G_seq ?_
   refine G_region ?_
   refine GL_step rfl (PS_assign rfl) ?_
   refine GL_step rfl (PS_assign rfl) ?_
   refine GL_nil ?_
   refine GQ_sub (.cons (k := 4) rfl (.cons (k := 5) rfl (.nil _))) ?_
   refine GQ_then ?_
   refine G_ret ?_
   refine GQ_then_ret ?_
   refine GQ_block_ret ?_
   refine GQ_then_ret ?_
   refine GQ_then_ret ?_
   refine GQ_block_ret ?_
   refine GQ_then_ret ?_
   refine GQ_ret rfl (.tmp rfl (.tmp rfl .nil)) ?_
   intro w1 hS; refine ⟨?_, hS.toKeep⟩; rw [hI13]; simp only [c1, c2, ↓reduceIte, Bool.false_eq_true]; rfl
  have c2p := kz c2
  refine G_skip ?_
  refine GQ_sub (.cons (k := 1) rfl (.cons (k := 2) rfl (.cons (k := 6) rfl (.cons (k := 8) rfl (.nil _))))) ?_
  refine GQ_then ?_
  refine G_seq ?_
  refine G_region ?_
  refine GL_step rfl (PS_move rfl) ?_
  refine GL_step rfl (PS_fieldAddr fa34_1 rfl) ?_
  refine GL_step rfl (PS_indexAddr ia29 rfl rfl (by omega) (by omega)) ?_
  refine GL_step rfl (PS_loadA rfl tya28 (.head _) (Land.l1.comp (Lens.arr (n := 9) Thing.fl (by omega) (by omega))) rfl) ?_
  refine GL_alloc rfl zv28 rfl (fun b2 => ?_)
  refine GL_unit (PU_store (Lens.id Thing.fl.len Thing.fl.one) rfl rfl rfl sz28 rfl .head) ?_
  refine GL_nil ?_
  refine GQ_sub (.cons (k := 2) rfl (.cons (k := 6) rfl (.cons (k := 7) rfl (.cons (k := 8) rfl (.nil _))))) ?_
  refine GQ_then ?_
  refine G_seq ?_
  refine G_seq ?_
  refine G_region ?_
  refine GL_step rfl (PS_fieldAddr fa28_2 rfl) ?_
  refine GL_step rfl (PS_load rfl tys3 (.head _) Thing.l2 rfl rfl) ?_
  refine GL_nil ?_
  refine GQ_sub (.cons (k := 2) rfl (.cons (k := 6) rfl (.cons (k := 7) rfl (.cons (k := 8) rfl (.cons (k := 21) rfl (.nil _)))))) ?_
  refine GQ_then ?_
  refine G_block ?_
  refine G_seq ?_
  refine G_region ?_
  refine GL_step rfl (PS_eql rfl rfl) ?_
  refine GL_step rfl (PS_assign rfl) ?_
  refine GL_nil ?_
  refine GQ_sub (.cons (k := 2) rfl (.cons (k := 6) rfl (.cons (k := 7) rfl (.cons (k := 8) rfl (.cons (k := 21) rfl (.cons (k := 22) rfl (.nil _))))))) ?_
  refine GQ_then ?_
  refine G_cond rfl (fun c3 => ?_) (fun c3 => ?_)
  ·
   have c3p := kz c3
   refine G_seq ?_
   refine G_region ?_
   refine GL_step rfl (PS_fieldAddr fa28_3 rfl) ?_
   refine GL_step rfl (PS_load rfl tys3 (.head _) Thing.l3 rfl rfl) ?_
   refine GL_step rfl (PS_move rfl) ?_
   refine GL_step rfl (PS_assign rfl) ?_
   refine GL_step rfl (PS_assign rfl) ?_
   refine GL_nil ?_
   refine GQ_sub (.cons (k := 4) rfl (.cons (k := 5) rfl (.nil _))) ?_
   refine GQ_then ?_
   refine G_ret ?_
   refine GQ_block_ret ?_
   refine GQ_then_ret ?_
   refine GQ_block_ret ?_
   refine GQ_then_ret ?_
   refine GQ_then_ret ?_
   refine GQ_block_ret ?_
   refine GQ_then_ret ?_
   refine GQ_ret rfl (.tmp rfl (.tmp rfl .nil)) ?_
   intro w1 hS; refine ⟨?_, hS.toKeep⟩; rw [hI13]; simp only [c1, c2, c3, ↓reduceIte, Bool.false_eq_true]; rfl
  have c3p := kz c3
  refine G_seq ?_
  refine G_region ?_
  refine GL_step rfl (PS_eql rfl rfl) ?_
  refine GL_step rfl (PS_assign rfl) ?_
  refine GL_nil ?_
  refine GQ_sub (.cons (k := 2) rfl (.cons (k := 6) rfl (.cons (k := 7) rfl (.cons (k := 8) rfl (.cons (k := 21) rfl (.cons (k := 27) rfl (.nil _))))))) ?_
  refine GQ_then ?_
  refine G_cond rfl (fun c4 => ?_) (fun c4 => ?_)
  ·
   have c4p := kz c4
   refine G_seq ?_
   refine G_seq ?_
   refine G_region ?_
   refine GL_step rfl (PS_fieldAddr fa28_3 rfl) ?_
   refine GL_step rfl (PS_load rfl tys3 (.head _) Thing.l3 rfl rfl) ?_
   refine GL_step rfl (PS_lss rfl rfl) ?_
   refine GL_step rfl (PS_move rfl) ?_
   refine GL_gf (t := 32) rfl rfl rfl (fun q => PS_fieldAddr fa28_3 rfl) ?_
   refine GL_gf (t := 32) rfl rfl rfl (fun q => PS_load (cvE rfl (by rw [q]; rfl)) tys3 (.head _) Thing.l3 rfl rfl) ?_
   refine GL_gf (t := 32) rfl rfl rfl (fun q => PS_geq (cvE rfl (by rw [q]; rfl)) rfl) ?_
   refine GL_step rfl (PS_or rfl rfl (fun h => by rw [h]; rfl)) ?_
   refine GL_nil ?_
   refine GQ_sub (.cons (k := 2) rfl (.cons (k := 6) rfl (.cons (k := 7) rfl (.cons (k := 36) rfl (.nil _))))) ?_
   refine GQ_then ?_
   refine G_cond rfl (fun c5 => ?_) (fun c5 => ?_)
   ·
    have c5p := kz c5
    refine G_seq ?_
    refine G_region ?_
    refine GL_step rfl (PS_assign rfl) ?_
    refine GL_step rfl (PS_assign rfl) ?_
    refine GL_nil ?_
    refine GQ_sub (.cons (k := 4) rfl (.cons (k := 5) rfl (.nil _))) ?_
    refine GQ_then ?_
    refine G_ret ?_
    refine GQ_then_ret ?_
    refine GQ_block_ret ?_
    refine GQ_then_ret ?_
    refine GQ_block_ret ?_
    refine GQ_then_ret ?_
    refine GQ_then_ret ?_
    refine GQ_block_ret ?_
    refine GQ_then_ret ?_
    refine GQ_ret rfl (.tmp rfl (.tmp rfl .nil)) ?_
    intro w1 hS; refine ⟨?_, hS.toKeep⟩; rw [hI13]; simp only [c1, c2, c3, c4, c5, ↓reduceIte, Bool.false_eq_true]; rfl
   have c5p := kz c5
   refine G_skip ?_
   refine GQ_sub (.cons (k := 2) rfl (.cons (k := 6) rfl (.cons (k := 7) rfl (.nil _)))) ?_
   refine GQ_then ?_
   refine G_seq ?_
   refine G_region ?_
   refine GL_step rfl (PS_fieldAddr fa28_3 rfl) ?_
   refine GL_step rfl (PS_load rfl tys3 (.head _) Thing.l3 rfl rfl) ?_
   refine GL_step rfl (PS_fieldAddr fa34_2 rfl) ?_
   refine GL_step rfl (PS_indexAddr ia32 rfl rfl (by omega) (by omega)) ?_
   refine GL_step rfl (PS_fieldAddr fa31_3 rfl) ?_
   refine GL_step rfl (PS_load rfl tys3 (.tail _ (.head _)) ((Land.l2.comp (Lens.arr (n := 6) Being.fl (by omega) (by omega))).comp Being.l3) rfl rfl) ?_
   refine GL_step rfl (PS_move rfl) ?_
   refine GL_step rfl (PS_assign rfl) ?_
   refine GL_step rfl (PS_assign rfl) ?_
   refine GL_nil ?_
   refine GQ_sub (.cons (k := 4) rfl (.cons (k := 5) rfl (.nil _))) ?_
   refine GQ_then ?_
   refine G_ret ?_
   refine GQ_block_ret ?_
   refine GQ_then_ret ?_
   refine GQ_block_ret ?_
   refine GQ_then_ret ?_
   refine GQ_then_ret ?_
   refine GQ_block_ret ?_
   refine GQ_then_ret ?_
   refine GQ_ret rfl (.tmp rfl (.tmp rfl .nil)) ?_
   intro w1 hS; refine ⟨?_, hS.toKeep⟩; rw [hI13]; simp only [c1, c2, c3, c4, c5, ↓reduceIte, Bool.false_eq_true]; rfl
  have c4p := kz c4
  refine G_seq ?_
  refine G_region ?_
  refine GL_step rfl (PS_eql rfl rfl) ?_
  refine GL_step rfl (PS_assign rfl) ?_
  refine GL_nil ?_
  refine GQ_sub (.cons (k := 2) rfl (.cons (k := 6) rfl (.cons (k := 7) rfl (.cons (k := 8) rfl (.cons (k := 44) rfl (.nil _)))))) ?_
  refine GQ_then ?_
  refine G_cond rfl (fun c6 => ?_) (fun c6 => ?_)
  ·
   have c6p := kz c6
   refine G_skip ?_
   refine GQ_sub (.cons (k := 2) rfl (.cons (k := 6) rfl (.cons (k := 7) rfl (.cons (k := 8) rfl (.nil _))))) ?_
   refine GQ_block ?_
   refine GQ_then ?_
   refine G_seq ?_
   refine G_region ?_
   refine GL_step rfl (PS_fieldAddr fa28_3 rfl) ?_
   refine GL_step rfl (PS_load rfl tys3 (.head _) Thing.l3 rfl rfl) ?_
   refine GL_step rfl (PS_assign rfl) ?_
   refine GL_nil ?_
   refine GQ_sub (.cons (k := 1) rfl (.cons (k := 2) rfl (.cons (k := 6) rfl (.cons (k := 8) rfl (.nil _))))) ?_
   refine GQ_then ?_
   refine G_seq ?_
   refine G_region ?_
   refine GL_step rfl (PS_move rfl) ?_
   refine GL_step rfl (PS_geq rfl rfl) ?_
   refine GL_step rfl (PS_move rfl) ?_
   refine GL_gt (t := 50) rfl rfl rfl (fun q => PS_move rfl) ?_
   refine GL_gt (t := 50) rfl rfl rfl (fun q => PS_lss (cvE rfl q) rfl) ?_
   refine GL_step rfl (PS_and rfl rfl (fun h => h)) ?_
   refine GL_step rfl (PS_move rfl) ?_
   refine GL_gt (t := 54) rfl rfl rfl (fun q => PS_move rfl) ?_
   refine GL_gt (t := 54) rfl rfl rfl (fun q => PS_fieldAddr fa34_1 rfl) ?_
   refine GL_gt (t := 54) rfl rfl rfl (fun q => by have q1 := q; (try simp at q1); exact PS_indexAddr ia29 (cvE rfl q) (cvE rfl q) (by omega) (by omega)) ?_
   refine GL_gt (t := 54) rfl rfl rfl (fun q => PS_fieldAddr fa28_4 (cvE rfl q)) ?_
   refine GL_gt (t := 54) rfl rfl rfl (fun q => by have q1 := q; (try simp at q1); exact PS_load (cvE rfl q) tys4 (.tail _ (.head _)) ((Land.l1.comp (Lens.arr (n := 9) Thing.fl (by omega) (by omega))).comp Thing.l4) rfl rfl) ?_
   refine GL_gt (t := 54) rfl rfl rfl (fun q => PS_not (cvE rfl q)) ?_
   refine GL_step rfl (PS_and rfl rfl (fun h => h)) ?_
   refine GL_nil ?_
   refine GQ_sub (.cons (k := 1) rfl (.cons (k := 2) rfl (.cons (k := 6) rfl (.cons (k := 8) rfl (.cons (k := 61) rfl (.nil _)))))) ?_
   refine GQ_then ?_
   refine G_cond rfl (fun c7 => ?_) (fun c7 => ?_)
   ·
    have c7p := kz c7
    refine G_region ?_
    refine GL_step rfl (PS_assign rfl) ?_
    refine GL_nil ?_
    refine GQ_sub (.cons (k := 1) rfl (.cons (k := 2) rfl (.cons (k := 6) rfl (.cons (k := 8) rfl (.nil _))))) ?_
    refine GQ_block ?_
    refine GQ_then ?_
    refine G_region ?_
    refine GL_step rfl (PS_add rfl rfl (IntWalk.i64_in _ (by omega))) ?_
    refine GL_step rfl (PS_move rfl) ?_
    refine GL_nil ?_
    refine GQ_sub (.cons (k := 1) rfl (.cons (k := 2) rfl (.cons (k := 6) rfl (.cons (k := 8) rfl (.nil _))))) ?_
    refine GQ_next3_ (k + 1) ((X.things.at j).at_) (false) ?_ ?_ (.cons (k := 1) rfl (.cons (k := 6) rfl (.cons (k := 8) rfl (.cons (k := 2) rfl (.nil _))))) (.cons _ (.refl _))
    · exact ⟨by omega, by omega, by rw [hI13]; simp only [c1, c2, c3, c4, c6, c7, ↓reduceIte, Bool.false_eq_true]⟩
    · omega
   have c7p := kz c7
   refine G_skip ?_
   refine GQ_sub (.cons (k := 1) rfl (.cons (k := 2) rfl (.cons (k := 6) rfl (.cons (k := 8) rfl (.nil _))))) ?_
   refine GQ_block ?_
   refine GQ_then ?_
   refine G_region ?_
   refine GL_step rfl (PS_add rfl rfl (IntWalk.i64_in _ (by omega))) ?_
   refine GL_step rfl (PS_move rfl) ?_
   refine GL_nil ?_
   refine GQ_sub (.cons (k := 1) rfl (.cons (k := 2) rfl (.cons (k := 6) rfl (.cons (k := 8) rfl (.nil _))))) ?_
   refine GQ_next3_ (k + 1) ((X.things.at j).at_) (o) ?_ ?_ (.cons (k := 1) rfl (.cons (k := 6) rfl (.cons (k := 8) rfl (.cons (k := 2) rfl (.nil _))))) (.cons _ (.refl _))
   · exact ⟨by omega, by omega, by rw [hI13]; simp only [c1, c2, c3, c4, c6, c7, ↓reduceIte, Bool.false_eq_true]⟩
   · omega
  have c6p := kz c6
  refine G_seq ?_
  refine G_region ?_
  refine GL_step rfl (PS_assign rfl) ?_
  refine GL_step rfl (PS_assign rfl) ?_
  refine GL_nil ?_
  refine GQ_sub (.cons (k := 4) rfl (.cons (k := 5) rfl (.nil _))) ?_
  refine GQ_then ?_
  refine G_ret ?_
  refine GQ_block_ret ?_
  refine GQ_then_ret ?_
  refine GQ_block_ret ?_
  refine GQ_then_ret ?_
  refine GQ_then_ret ?_
  refine GQ_block_ret ?_
  refine GQ_then_ret ?_
  refine GQ_ret rfl (.tmp rfl (.tmp rfl .nil)) ?_
  intro w1 hS; refine ⟨?_, hS.toKeep⟩; rw [hI13]; simp only [c1, c2, c3, c4, c6, ↓reduceIte, Bool.false_eq_true]; rfl
 have c1p := kz c1
 obtain rfl : k = 10 := by omega
 refine G_exit ?_
 refine GQ_then_exit ?_
 refine GQ_then_exit ?_
 refine GQ_block_exit ?_
 refine GQ_sub (.nil _) ?_
 refine GQ_then ?_
 refine G_seq ?_
 refine G_region ?_
 refine GL_step rfl (PS_assign rfl) ?_
 refine GL_step rfl (PS_assign rfl) ?_
 refine GL_nil ?_
 refine GQ_then ?_
 refine G_ret ?_
 refine GQ_ret rfl (.tmp rfl (.tmp rfl .nil)) ?_
 intro w1 hS; refine ⟨?_, hS.toKeep⟩; rw [hI13]; rfl
theorem sense_Bright_spec (X : Land) (r : Int) (w : World) : Ret Tryz.prog 44 #[.agg X.enc.toArray, .int .i64 r] w fun v w' => v = .bool (X.bright r) ∧ Keep w w' := by
 refine Ret_body [] [] Tryz.func44 rfl rfl rfl (St.start w []) ?_
 refine G_seq ?_
 refine G_region ?_
 refine GL_box rfl rfl rfl (fun b1 => ?_)
 refine GL_step rfl (PS_assign rfl) ?_
 refine GL_nil ?_
 refine GQ_sub (.cons (k := 1) rfl (.cons (k := 2) rfl (.nil _))) ?_
 refine GQ_then ?_
 refine G_seq ?_
 refine G_seq ?_
 refine G_region ?_
 refine GL_step rfl (PS_move rfl) ?_
 refine GL_step rfl (PS_lss rfl rfl) ?_
 refine GL_step rfl (PS_move rfl) ?_
 refine GL_gf (t := 11) rfl rfl rfl (fun q => PS_move rfl) ?_
 refine GL_gf (t := 11) rfl rfl rfl (fun q => PS_geq (cvE rfl (by rw [q]; rfl)) rfl) ?_
 refine GL_step rfl (PS_or rfl rfl (fun h => by rw [h]; rfl)) ?_
 refine GL_nil ?_
 refine GQ_sub (.cons (k := 1) rfl (.cons (k := 2) rfl (.cons (k := 14) rfl (.nil _)))) ?_
 refine GQ_then ?_
 refine G_cond rfl (fun c1 => ?_) (fun c1 => ?_)
 ·
  have c1p := kz c1
  refine G_seq ?_
  refine G_region ?_
  refine GL_step rfl (PS_assign rfl) ?_
  refine GL_nil ?_
  refine GQ_sub (.cons (k := 4) rfl (.nil _)) ?_
  refine GQ_then ?_
  refine G_ret ?_
  refine GQ_then_ret ?_
  refine GQ_ret rfl (.tmp rfl .nil) ?_
  intro w1 hS; refine ⟨congrArg Value.bool ?_, hS.toKeep⟩; rw [show X.bright r = _ from if_t c1]
 have c1p := kz c1
 have hr : 0 ≤ r ∧ r < 6 := by simp at c1; omega
 refine G_skip ?_
 refine GQ_sub (.cons (k := 1) rfl (.cons (k := 2) rfl (.nil _))) ?_
 refine GQ_then ?_
 refine G_seq ?_
 refine G_seq ?_
 refine G_region ?_
 refine GL_step rfl (PS_move rfl) ?_
 refine GL_step rfl (PS_fieldAddr fa34_0 rfl) ?_
 refine GL_step rfl (PS_indexAddr ia26 rfl rfl (by omega) (by omega)) ?_
 refine GL_step rfl (PS_fieldAddr fa25_1 rfl) ?_
 refine GL_step rfl (PS_load rfl tys4 (.head _) ((Land.l0.comp (Lens.arr (n := 6) Room.fl (by omega) (by omega))).comp Room.l1) rfl rfl) ?_
 refine GL_step rfl (PS_not rfl) ?_
 refine GL_nil ?_
 refine GQ_sub (.cons (k := 1) rfl (.cons (k := 2) rfl (.cons (k := 20) rfl (.nil _)))) ?_
 refine GQ_then ?_
 refine G_cond rfl (fun c2 => ?_) (fun c2 => ?_)
 ·
  have c2p := kz c2
  refine G_seq ?_
  refine G_region ?_
  refine GL_step rfl (PS_assign rfl) ?_
  refine GL_nil ?_
  refine GQ_sub (.cons (k := 4) rfl (.nil _)) ?_
  refine GQ_then ?_
  refine G_ret ?_
  refine GQ_then_ret ?_
  refine GQ_ret rfl (.tmp rfl .nil) ?_
  intro w1 hS; refine ⟨congrArg Value.bool ?_, hS.toKeep⟩; rw [show X.bright r = _ from (if_f c1).trans (if_t c2)]
 have c2p := kz c2
 refine G_skip ?_
 refine GQ_sub (.cons (k := 1) rfl (.cons (k := 2) rfl (.nil _))) ?_
 refine GQ_then ?_
 refine G_seq ?_
 refine G_seq ?_
 refine G_region ?_
 refine GL_step rfl (PS_fieldAddr fa34_1 rfl) ?_
 refine GL_step rfl (PS_loadA rfl tya29 (.head _) Land.l1 rfl) ?_
 refine GL_step rfl (PS_move rfl) ?_
 refine GL_nil ?_
 refine GQ_sub (.cons (k := 1) rfl (.cons (k := 2) rfl (.cons (k := 22) rfl (.cons (k := 23) rfl (.nil _))))) ?_
 refine GQ_then ?_
 refine G_block ?_
 refine G_subF (.cons (k := 23) rfl (.cons (k := 1) rfl (.cons (k := 2) rfl (.cons (k := 22) rfl (.nil _))))) ?_
 refine G_loop1_ (fun (k : Int) => 0 ≤ k ∧ k ≤ 9 ∧ allFrom 9 (fun i => !X.lit r i) 9 = allFrom 9 (fun i => !X.lit r i) (9 - k).toNat) (fun (k : Int) => (9 - k).toNat) (fun (k : Int) => [(23, .int .i64 k)]) (fun (k : Int) => []) (0) ?_ rfl rfl (fun k hI1 => ?_)
 · exact ⟨by omega, by omega, rfl⟩
 obtain ⟨hI11, hI12, hI13⟩ := hI1
 refine G_seq ?_
 refine G_region ?_
 refine GL_step rfl (PS_lss rfl rfl) ?_
 refine GL_nil ?_
 refine GQ_then ?_
 refine G_seq ?_
 refine G_cond rfl (fun c3 => ?_) (fun c3 => ?_)
 ·
  have c3p := kz c3
  rw [allFrom_step _ (by omega)] at hI13
  refine G_skip ?_
  refine GQ_sub (.cons (k := 1) rfl (.cons (k := 2) rfl (.cons (k := 22) rfl (.cons (k := 23) rfl (.nil _))))) ?_
  refine GQ_then ?_
  refine G_seq ?_
  refine G_block ?_
  refine G_seq ?_
  refine G_region ?_
  refine GL_step rfl (PS_move rfl) ?_
  refine GL_step rfl (PS_indexAA Thing.fl Tryz.underlying29 tya28 rfl rfl (by omega) (by omega)) ?_
  refine GL_alloc rfl zv28 rfl (fun b2 => ?_)
  refine GL_step rfl (PS_assign rfl) ?_
  refine GL_unit (PU_store (Lens.id Thing.fl.len Thing.fl.one) rfl rfl rfl sz28 rfl .head) ?_
  refine GL_nil ?_
  refine GQ_sub (.cons (k := 1) rfl (.cons (k := 2) rfl (.cons (k := 5) rfl (.cons (k := 6) rfl (.cons (k := 22) rfl (.cons (k := 23) rfl (.nil _))))))) ?_
  refine GQ_then ?_
  refine G_seq ?_
  refine G_seq ?_
  refine G_region ?_
  refine GL_step rfl (PS_fieldAddr fa28_1 rfl) ?_
  refine GL_step rfl (PS_load rfl tys3 (.head _) Thing.l1 rfl rfl) ?_
  refine GL_step rfl (PS_neq rfl rfl) ?_
  refine GL_step rfl (PS_move rfl) ?_
  refine GL_gf (t := 30) rfl rfl rfl (fun q => PS_fieldAddr fa28_4 rfl) ?_
  refine GL_gf (t := 30) rfl rfl rfl (fun q => PS_load (cvE rfl (by rw [q]; rfl)) tys4 (.head _) Thing.l4 rfl rfl) ?_
  refine GL_gf (t := 30) rfl rfl rfl (fun q => PS_not (cvE rfl (by rw [q]; rfl))) ?_
  refine GL_step rfl (PS_or rfl rfl (fun h => by rw [h]; rfl)) ?_
  refine GL_nil ?_
  refine GQ_sub (.cons (k := 1) rfl (.cons (k := 2) rfl (.cons (k := 5) rfl (.cons (k := 22) rfl (.cons (k := 23) rfl (.cons (k := 34) rfl (.nil _))))))) ?_
  refine GQ_then ?_
  refine G_cond rfl (fun c4 => ?_) (fun c4 => ?_)
  ·
   have c4p := kz c4
   refine G_exit ?_
   refine GQ_then_exit ?_
   refine GQ_block_exit ?_
   refine GQ_sub (.cons (k := 1) rfl (.cons (k := 2) rfl (.cons (k := 22) rfl (.cons (k := 23) rfl (.nil _))))) ?_
   refine GQ_then ?_
   refine G_region ?_
   refine GL_step rfl (PS_add rfl rfl (IntWalk.i64_in _ (by omega))) ?_
   refine GL_step rfl (PS_move rfl) ?_
   refine GL_nil ?_
   refine GQ_sub (.cons (k := 1) rfl (.cons (k := 2) rfl (.cons (k := 22) rfl (.cons (k := 23) rfl (.nil _))))) ?_
   refine GQ_next1_ (k + 1) ?_ ?_ (.cons (k := 23) rfl (.cons (k := 1) rfl (.cons (k := 2) rfl (.cons (k := 22) rfl (.nil _))))) (.cons _ (.refl _))
   · exact ⟨by omega, by omega, by rw [hI13, show X.lit r k = false from by rw [Land.lit, c4]; first | rfl | exact Bool.and_false _]; rfl⟩
   · omega
  have c4p := kz c4
  refine G_skip ?_
  refine GQ_sub (.cons (k := 1) rfl (.cons (k := 2) rfl (.cons (k := 5) rfl (.cons (k := 22) rfl (.cons (k := 23) rfl (.nil _)))))) ?_
  refine GQ_then ?_
  refine G_seq ?_
  refine G_region ?_
  refine GL_step rfl (PS_loadA rfl tya34 (.tail _ (.head _)) (Lens.id Land.fl.len Land.fl.one) rfl) ?_
  refine GL_step rfl (PS_move rfl) ?_
  refine GL_pure rfl cf73 (.cons rfl (.cons rfl .nil)) (fun w hS => land_Room_spec _ _ w) ?_
  refine GL_step rfl (PS_move rfl) ?_
  refine GL_step rfl (PS_extract rfl rfl) ?_
  refine GL_step rfl (PS_extract rfl rfl) ?_
  refine GL_step rfl (PS_assign rfl) ?_
  refine GL_step rfl (PS_assign rfl) ?_
  refine GL_nil ?_
  refine GQ_sub (.cons (k := 1) rfl (.cons (k := 2) rfl (.cons (k := 7) rfl (.cons (k := 8) rfl (.cons (k := 22) rfl (.cons (k := 23) rfl (.nil _))))))) ?_
  refine GQ_then ?_
  refine G_seq ?_
  refine G_region ?_
  refine GL_step rfl (PS_move rfl) ?_
  refine GL_step rfl (PS_move rfl) ?_
  refine GL_step rfl (PS_eql rfl rfl) ?_
  refine GL_step rfl (PS_move rfl) ?_
  refine GL_gt (t := 44) rfl rfl rfl (fun q => PS_move rfl) ?_
  refine GL_step rfl (PS_and rfl rfl (fun h => h)) ?_
  refine GL_nil ?_
  refine GQ_sub (.cons (k := 1) rfl (.cons (k := 2) rfl (.cons (k := 22) rfl (.cons (k := 23) rfl (.cons (k := 46) rfl (.nil _)))))) ?_
  refine GQ_then ?_
  refine G_cond rfl (fun c5 => ?_) (fun c5 => ?_)
  ·
   have c5p := kz c5
   refine G_seq ?_
   refine G_region ?_
   refine GL_step rfl (PS_assign rfl) ?_
   refine GL_nil ?_
   refine GQ_sub (.cons (k := 4) rfl (.nil _)) ?_
   refine GQ_then ?_
   refine G_ret ?_
   refine GQ_block_ret ?_
   refine GQ_then_ret ?_
   refine GQ_then_ret ?_
   refine GQ_block_ret ?_
   refine GQ_then_ret ?_
   refine GQ_ret rfl (.tmp rfl .nil) ?_
   intro w1 hS; refine ⟨congrArg Value.bool ?_, hS.toKeep⟩; rw [show X.bright r = _ from (if_f c1).trans (if_f c2), hI13, show X.lit r k = true from by rw [Land.lit, c4, c5]; rfl]; rfl
  have c5p := kz c5
  refine G_skip ?_
  refine GQ_sub (.cons (k := 1) rfl (.cons (k := 2) rfl (.cons (k := 22) rfl (.cons (k := 23) rfl (.nil _))))) ?_
  refine GQ_block ?_
  refine GQ_then ?_
  refine G_region ?_
  refine GL_step rfl (PS_add rfl rfl (IntWalk.i64_in _ (by omega))) ?_
  refine GL_step rfl (PS_move rfl) ?_
  refine GL_nil ?_
  refine GQ_sub (.cons (k := 1) rfl (.cons (k := 2) rfl (.cons (k := 22) rfl (.cons (k := 23) rfl (.nil _))))) ?_
  refine GQ_next1_ (k + 1) ?_ ?_ (.cons (k := 23) rfl (.cons (k := 1) rfl (.cons (k := 2) rfl (.cons (k := 22) rfl (.nil _))))) (.cons _ (.refl _))
  · exact ⟨by omega, by omega, by rw [hI13, show X.lit r k = false from by rw [Land.lit, c5]; first | rfl | exact Bool.and_false _]; rfl⟩
  · omega
 have c3p := kz c3
 obtain rfl : k = 9 := by omega
 refine G_exit ?_
 refine GQ_then_exit ?_
 refine GQ_then_exit ?_
 refine GQ_block_exit ?_
 refine GQ_sub (.nil _) ?_
 refine GQ_then ?_
 refine G_seq ?_
 refine G_region ?_
 refine GL_step rfl (PS_assign rfl) ?_
 refine GL_nil ?_
 refine GQ_then ?_
 refine G_ret ?_
 refine GQ_ret rfl (.tmp rfl .nil) ?_
 intro w1 hS; refine ⟨congrArg Value.bool ?_, hS.toKeep⟩; rw [show X.bright r = _ from (if_f c1).trans (if_f c2), hI13]; rfl
theorem sense_Hidden_spec (X : Land) (b : Int) (w : World) : Ret Tryz.prog 75 #[.agg X.enc.toArray, .int .i64 b] w fun v w' => v = .bool (X.hidden b) ∧ Keep w w' := by
 refine Ret_body [] [] Tryz.func75 rfl rfl rfl (St.start w []) ?_
 refine G_seq ?_
 refine G_region ?_
 refine GL_box rfl rfl rfl (fun b1 => ?_)
 refine GL_step rfl (PS_assign rfl) ?_
 refine GL_nil ?_
 refine GQ_sub (.cons (k := 1) rfl (.cons (k := 2) rfl (.nil _))) ?_
 refine GQ_then ?_
 refine G_seq ?_
 refine G_seq ?_
 refine G_region ?_
 refine GL_step rfl (PS_fieldAddr fa34_1 rfl) ?_
 refine GL_step rfl (PS_loadA rfl tya29 (.head _) Land.l1 rfl) ?_
 refine GL_step rfl (PS_move rfl) ?_
 refine GL_nil ?_
 refine GQ_sub (.cons (k := 1) rfl (.cons (k := 8) rfl (.cons (k := 9) rfl (.nil _)))) ?_
 refine GQ_then ?_
 refine G_block ?_
 refine G_subF (.cons (k := 9) rfl (.cons (k := 1) rfl (.cons (k := 8) rfl (.nil _)))) ?_
 refine G_loop1_ (fun (k : Int) => 0 ≤ k ∧ k ≤ 9 ∧ allFrom 9 (fun i => !X.cloaked b i) 9 = allFrom 9 (fun i => !X.cloaked b i) (9 - k).toNat) (fun (k : Int) => (9 - k).toNat) (fun (k : Int) => [(9, .int .i64 k)]) (fun (k : Int) => []) (0) ?_ rfl rfl (fun k hI1 => ?_)
 · exact ⟨by omega, by omega, rfl⟩
 obtain ⟨hI11, hI12, hI13⟩ := hI1
 refine G_seq ?_
 refine G_region ?_
 refine GL_step rfl (PS_lss rfl rfl) ?_
 refine GL_nil ?_
 refine GQ_then ?_
 refine G_seq ?_
 refine G_cond rfl (fun c1 => ?_) (fun c1 => ?_)
 ·
  have c1p := kz c1
  rw [allFrom_step _ (by omega)] at hI13
  refine G_skip ?_
  refine GQ_sub (.cons (k := 1) rfl (.cons (k := 8) rfl (.cons (k := 9) rfl (.nil _)))) ?_
  refine GQ_then ?_
  refine G_seq ?_
  refine G_block ?_
  refine G_seq ?_
  refine G_region ?_
  refine GL_step rfl (PS_indexAA Thing.fl Tryz.underlying29 tya28 rfl rfl (by omega) (by omega)) ?_
  refine GL_alloc rfl zv28 rfl (fun b2 => ?_)
  refine GL_unit (PU_store (Lens.id Thing.fl.len Thing.fl.one) rfl rfl rfl sz28 rfl .head) ?_
  refine GL_nil ?_
  refine GQ_sub (.cons (k := 1) rfl (.cons (k := 6) rfl (.cons (k := 8) rfl (.cons (k := 9) rfl (.nil _))))) ?_
  refine GQ_then ?_
  refine G_seq ?_
  refine G_region ?_
  refine GL_step rfl (PS_fieldAddr fa28_1 rfl) ?_
  refine GL_step rfl (PS_load rfl tys3 (.head _) Thing.l1 rfl rfl) ?_
  refine GL_step rfl (PS_eql rfl rfl) ?_
  refine GL_step rfl (PS_move rfl) ?_
  refine GL_gt (t := 15) rfl rfl rfl (fun q => PS_fieldAddr fa28_4 rfl) ?_
  refine GL_gt (t := 15) rfl rfl rfl (fun q => PS_load (cvE rfl q) tys4 (.head _) Thing.l4 rfl rfl) ?_
  refine GL_step rfl (PS_and rfl rfl (fun h => h)) ?_
  refine GL_step rfl (PS_move rfl) ?_
  refine GL_gt (t := 19) rfl rfl rfl (fun q => PS_fieldAddr fa28_2 rfl) ?_
  refine GL_gt (t := 19) rfl rfl rfl (fun q => PS_load (cvE rfl q) tys3 (.head _) Thing.l2 rfl rfl) ?_
  refine GL_gt (t := 19) rfl rfl rfl (fun q => PS_eql (cvE rfl q) rfl) ?_
  refine GL_step rfl (PS_and rfl rfl (fun h => h)) ?_
  refine GL_step rfl (PS_move rfl) ?_
  refine GL_gt (t := 24) rfl rfl rfl (fun q => PS_fieldAddr fa28_3 rfl) ?_
  refine GL_gt (t := 24) rfl rfl rfl (fun q => PS_load (cvE rfl q) tys3 (.head _) Thing.l3 rfl rfl) ?_
  refine GL_gt (t := 24) rfl rfl rfl (fun q => PS_move rfl) ?_
  refine GL_gt (t := 24) rfl rfl rfl (fun q => PS_eql (cvE rfl q) (cvE rfl q)) ?_
  refine GL_step rfl (PS_and rfl rfl (fun h => h)) ?_
  refine GL_nil ?_
  refine GQ_sub (.cons (k := 1) rfl (.cons (k := 8) rfl (.cons (k := 9) rfl (.cons (k := 29) rfl (.nil _))))) ?_
  refine GQ_then ?_
  refine G_cond rfl (fun c2 => ?_) (fun c2 => ?_)
  ·
   have c2p := kz c2
   refine G_seq ?_
   refine G_region ?_
   refine GL_step rfl (PS_assign rfl) ?_
   refine GL_nil ?_
   refine GQ_sub (.cons (k := 4) rfl (.nil _)) ?_
   refine GQ_then ?_
   refine G_ret ?_
   refine GQ_block_ret ?_
   refine GQ_then_ret ?_
   refine GQ_then_ret ?_
   refine GQ_block_ret ?_
   refine GQ_then_ret ?_
   refine GQ_ret rfl (.tmp rfl .nil) ?_
   intro w1 hS; refine ⟨congrArg Value.bool ?_, hS.toKeep⟩; rw [Land.hidden, hI13, show X.cloaked b k = true from c2]; rfl
  have c2p := kz c2
  refine G_skip ?_
  refine GQ_sub (.cons (k := 1) rfl (.cons (k := 8) rfl (.cons (k := 9) rfl (.nil _)))) ?_
  refine GQ_block ?_
  refine GQ_then ?_
  refine G_region ?_
  refine GL_step rfl (PS_add rfl rfl (IntWalk.i64_in _ (by omega))) ?_
  refine GL_step rfl (PS_move rfl) ?_
  refine GL_nil ?_
  refine GQ_sub (.cons (k := 1) rfl (.cons (k := 8) rfl (.cons (k := 9) rfl (.nil _)))) ?_
  refine GQ_next1_ (k + 1) ?_ ?_ (.cons (k := 9) rfl (.cons (k := 1) rfl (.cons (k := 8) rfl (.nil _)))) (.cons _ (.refl _))
  · exact ⟨by omega, by omega, by rw [hI13, show X.cloaked b k = false from c2]; rfl⟩
  · omega
 have c1p := kz c1
 obtain rfl : k = 9 := by omega
 refine G_exit ?_
 refine GQ_then_exit ?_
 refine GQ_then_exit ?_
 refine GQ_block_exit ?_
 refine GQ_sub (.nil _) ?_
 refine GQ_then ?_
 refine G_seq ?_
 refine G_region ?_
 refine GL_step rfl (PS_assign rfl) ?_
 refine GL_nil ?_
 refine GQ_then ?_
 refine G_ret ?_
 refine GQ_ret rfl (.tmp rfl .nil) ?_
 intro w1 hS; refine ⟨congrArg Value.bool ?_, hS.toKeep⟩; rw [Land.hidden, hI13]; rfl
theorem sense_Sees_spec (X : Land) (a b : Int) (w : World) : Ret Tryz.prog 47 #[.agg X.enc.toArray, .int .i64 a, .int .i64 b] w fun v w' => v = .bool (X.sees a b) ∧ Keep w w' := by
 refine Ret_body [] [] Tryz.func47 rfl rfl rfl (St.start w []) ?_
 refine G_seq ?_
 refine G_region ?_
 refine GL_box rfl rfl rfl (fun b1 => ?_)
 refine GL_step rfl (PS_assign rfl) ?_
 refine GL_nil ?_
 refine GQ_sub (.cons (k := 1) rfl (.cons (k := 2) rfl (.cons (k := 3) rfl (.nil _)))) ?_
 refine GQ_then ?_
 refine G_seq ?_
 refine G_seq ?_
 refine G_region ?_
 refine GL_step rfl (PS_loadA rfl tya34 (.head _) (Lens.id Land.fl.len Land.fl.one) rfl) ?_
 refine GL_step rfl (PS_move rfl) ?_
 refine GL_pure rfl cf74 (.cons rfl (.cons rfl .nil)) (fun w hS => sense_being_spec _ _ w) ?_
 refine GL_step rfl (PS_not rfl) ?_
 refine GL_step rfl (PS_move rfl) ?_
 refine GL_gf (t := 13) rfl rfl rfl (fun q => PS_loadA rfl tya34 (.head _) (Lens.id Land.fl.len Land.fl.one) rfl) ?_
 refine GL_gf (t := 13) rfl rfl rfl (fun q => PS_move rfl) ?_
 refine GL_pgf (t := 13) rfl rfl rfl (fun q => by have q1 := q; (try simp at q1); exact PC_of cf74 (.cons (cvE rfl (by rw [q]; rfl)) (.cons (cvE rfl (by rw [q]; rfl)) .nil)) (fun w hS => sense_being_spec _ _ w)) ?_
 refine GL_gf (t := 13) rfl rfl rfl (fun q => PS_not (cvE rfl (by rw [q]; rfl))) ?_
 refine GL_step rfl (PS_or rfl rfl (fun h => by rw [h]; rfl)) ?_
 refine GL_nil ?_
 refine GQ_sub (.cons (k := 1) rfl (.cons (k := 2) rfl (.cons (k := 3) rfl (.cons (k := 18) rfl (.nil _))))) ?_
 refine GQ_then ?_
 refine G_cond rfl (fun c1 => ?_) (fun c1 => ?_)
 ·
  have c1p := kz c1
  refine G_seq ?_
  refine G_region ?_
  refine GL_step rfl (PS_assign rfl) ?_
  refine GL_nil ?_
  refine GQ_sub (.cons (k := 6) rfl (.nil _)) ?_
  refine GQ_then ?_
  refine G_ret ?_
  refine GQ_then_ret ?_
  refine GQ_ret rfl (.tmp rfl .nil) ?_
  intro w1 hS; refine ⟨congrArg Value.bool ?_, hS.toKeep⟩; rw [show X.sees a b = _ from (if_t c1)]
 have c1p := kz c1
 have hr : (0 ≤ a ∧ a < 6) ∧ 0 ≤ b ∧ b < 6 := by simp at c1; have h1 := Land.being_rng c1.1; have h2 := Land.being_rng c1.2; omega
 refine G_skip ?_
 refine GQ_sub (.cons (k := 1) rfl (.cons (k := 2) rfl (.cons (k := 3) rfl (.nil _)))) ?_
 refine GQ_then ?_
 refine G_seq ?_
 refine G_seq ?_
 refine G_region ?_
 refine GL_step rfl (PS_move rfl) ?_
 refine GL_step rfl (PS_move rfl) ?_
 refine GL_step rfl (PS_eql rfl rfl) ?_
 refine GL_nil ?_
 refine GQ_sub (.cons (k := 1) rfl (.cons (k := 2) rfl (.cons (k := 3) rfl (.cons (k := 21) rfl (.nil _))))) ?_
 refine GQ_then ?_
 refine G_cond rfl (fun c2 => ?_) (fun c2 => ?_)
 ·
  have c2p := kz c2
  refine G_seq ?_
  refine G_region ?_
  refine GL_step rfl (PS_assign rfl) ?_
  refine GL_nil ?_
  refine GQ_sub (.cons (k := 6) rfl (.nil _)) ?_
  refine GQ_then ?_
  refine G_ret ?_
  refine GQ_then_ret ?_
  refine GQ_ret rfl (.tmp rfl .nil) ?_
  intro w1 hS; refine ⟨congrArg Value.bool ?_, hS.toKeep⟩; rw [show X.sees a b = _ from ((if_f c1).trans (if_t c2))]
 have c2p := kz c2
 refine G_skip ?_
 refine GQ_sub (.cons (k := 1) rfl (.cons (k := 2) rfl (.cons (k := 3) rfl (.nil _)))) ?_
 refine GQ_then ?_
 refine G_seq ?_
 refine G_planN (N := 12) [0, 0, 3, 7, 0, 0, 48, 112, 0, 0, 783, 2047] mix (by kernel_rfl) rfl ?_
 refine Plan_float 0 rfl rfl (by kernel_rfl) (OK_s (EX_s (PS_move rfl))) ?_
 refine Plan_float 1 rfl rfl (by kernel_rfl) (OK_s (EX_s (PS_fieldAddr fa34_2 rfl))) ?_
 refine Plan_float 2 rfl rfl (by kernel_rfl) (OK_s (EX_s (PS_indexAddr ia32 rfl rfl (by omega) (by omega)))) ?_
 refine Plan_float 3 rfl rfl (by kernel_rfl) (OK_s (EX_s (PS_loadA rfl tya31 (.head _) (Land.l2.comp (Lens.arr (n := 6) Being.fl (by omega) (by omega))) rfl))) ?_
 refine Plan_float 4 rfl rfl (by kernel_rfl) (OK_s (EX_s (PS_move rfl))) ?_
 refine Plan_float 5 rfl rfl (by kernel_rfl) (OK_s (EX_s (PS_fieldAddr fa34_2 rfl))) ?_
 refine Plan_float 6 rfl rfl (by kernel_rfl) (OK_s (EX_s (PS_indexAddr ia32 rfl rfl (by omega) (by omega)))) ?_
 refine Plan_float 7 rfl rfl (by kernel_rfl) (OK_s (EX_s (PS_loadA rfl tya31 (.head _) (Land.l2.comp (Lens.arr (n := 6) Being.fl (by omega) (by omega))) rfl))) ?_
 refine Plan_two 8 9 rfl rfl (by kernel_rfl) ?_ ?_
 ·
  refine GL_alloc rfl zv31 rfl (fun b2 => ?_)
  refine GL_hand rfl ⟨?_, ?_⟩
  · exact (Pend_okv rfl (OK_s (EX_s (PS_loadA rfl tya31 (.tail _ (.head _)) (Land.l2.comp (Lens.arr (n := 6) Being.fl (by omega) (by omega))) rfl))) rfl rfl (Pend_okv rfl (OK_s (EX_s (PS_indexAddr ia32 rfl rfl (by omega) (by omega)))) rfl rfl (Pend_okv rfl (OK_s (EX_s (PS_fieldAddr fa34_2 rfl))) rfl rfl (Pend_okv rfl (OK_s (EX_s (PS_move rfl))) rfl rfl (Pend_okv rfl (OK_s (EX_s (PS_loadA rfl tya31 (.tail _ (.head _)) (Land.l2.comp (Lens.arr (n := 6) Being.fl (by omega) (by omega))) rfl))) rfl rfl (Pend_okv rfl (OK_s (EX_s (PS_indexAddr ia32 rfl rfl (by omega) (by omega)))) rfl rfl (Pend_okv rfl (OK_s (EX_s (PS_fieldAddr fa34_2 rfl))) rfl rfl (Pend_okv rfl (OK_s (EX_s (PS_move rfl))) rfl rfl Pend_nil))))))))
  refine Plan_chain 9 rfl (by kernel_rfl) ?_
  refine GL_alloc rfl zv31 rfl (fun b3 => ?_)
  refine GL_hand rfl ⟨?_, ?_⟩
  · exact (Pend_okv rfl (OK_s (EX_s (PS_loadA rfl tya31 (.tail _ (.tail _ (.head _))) (Land.l2.comp (Lens.arr (n := 6) Being.fl (by omega) (by omega))) rfl))) rfl rfl (Pend_okv rfl (OK_s (EX_s (PS_indexAddr ia32 rfl rfl (by omega) (by omega)))) rfl rfl (Pend_okv rfl (OK_s (EX_s (PS_fieldAddr fa34_2 rfl))) rfl rfl (Pend_okv rfl (OK_s (EX_s (PS_move rfl))) rfl rfl (Pend_okv rfl (OK_s (EX_s (PS_loadA rfl tya31 (.tail _ (.tail _ (.head _))) (Land.l2.comp (Lens.arr (n := 6) Being.fl (by omega) (by omega))) rfl))) rfl rfl (Pend_okv rfl (OK_s (EX_s (PS_indexAddr ia32 rfl rfl (by omega) (by omega)))) rfl rfl (Pend_okv rfl (OK_s (EX_s (PS_fieldAddr fa34_2 rfl))) rfl rfl (Pend_okv rfl (OK_s (EX_s (PS_move rfl))) rfl rfl Pend_nil))))))))
  refine Plan_chain 10 rfl (by kernel_rfl) ?_
  refine GL_unit (PU_store (Lens.id Being.fl.len Being.fl.one) rfl rfl rfl sz31 rfl (.tail .head)) ?_
  refine GL_hand0 rfl ⟨?_, ?_⟩
  · exact (Pend_okv rfl (OK_s (EX_s (PS_loadA rfl tya31 (.tail _ (.tail _ (.head _))) (Land.l2.comp (Lens.arr (n := 6) Being.fl (by omega) (by omega))) rfl))) rfl rfl (Pend_okv rfl (OK_s (EX_s (PS_indexAddr ia32 rfl rfl (by omega) (by omega)))) rfl rfl (Pend_okv rfl (OK_s (EX_s (PS_fieldAddr fa34_2 rfl))) rfl rfl (Pend_okv rfl (OK_s (EX_s (PS_move rfl))) rfl rfl (Pend_skip (by kernel_rfl) (Pend_skip (by kernel_rfl) (Pend_skip (by kernel_rfl) (Pend_skip (by kernel_rfl) Pend_nil))))))))
  refine Plan_chain 11 rfl (by kernel_rfl) ?_
  refine GL_unit (PU_store (Lens.id Being.fl.len Being.fl.one) rfl rfl rfl sz31 rfl .head) ?_
  refine GL_hand0 rfl ⟨?_, ?_⟩
  · exact (Pend_skip (by kernel_rfl) (Pend_skip (by kernel_rfl) (Pend_skip (by kernel_rfl) (Pend_skip (by kernel_rfl) (Pend_skip (by kernel_rfl) (Pend_skip (by kernel_rfl) (Pend_skip (by kernel_rfl) (Pend_skip (by kernel_rfl) Pend_nil))))))))
  refine Plan_end (by kernel_rfl) ?_
  refine GQ_sub (.cons (k := 2) rfl (.cons (k := 3) rfl (.cons (k := 7) rfl (.cons (k := 8) rfl (.nil _))))) ?_
  refine GQ_then ?_
  refine G_seq ?_
  refine G_region ?_
  refine GL_step rfl (PS_fieldAddr fa31_3 rfl) ?_
  refine GL_step rfl (PS_load rfl tys3 (.tail _ (.head _)) Being.l3 rfl rfl) ?_
  refine GL_step rfl (PS_fieldAddr fa31_3 rfl) ?_
  refine GL_step rfl (PS_load rfl tys3 (.head _) Being.l3 rfl rfl) ?_
  refine GL_step rfl (PS_eql rfl rfl) ?_
  refine GL_step rfl (PS_move rfl) ?_
  refine GL_gt (t := 35) rfl rfl rfl (fun q => PS_loadA rfl tya34 (.tail _ (.tail _ (.head _))) (Lens.id Land.fl.len Land.fl.one) rfl) ?_
  refine GL_gt (t := 35) rfl rfl rfl (fun q => PS_fieldAddr fa31_3 rfl) ?_
  refine GL_gt (t := 35) rfl rfl rfl (fun q => PS_load (cvE rfl q) tys3 (.tail _ (.head _)) Being.l3 rfl rfl) ?_
  refine GL_pgt (t := 35) rfl rfl rfl (fun q => PC_of cf44 (.cons (cvE rfl q) (.cons (cvE rfl q) .nil)) (fun w hS => sense_Bright_spec _ _ w)) ?_
  refine GL_step rfl (PS_and rfl rfl (fun h => h)) ?_
  refine GL_step rfl (PS_move rfl) ?_
  refine GL_gt (t := 41) rfl rfl rfl (fun q => PS_fieldAddr fa31_2 rfl) ?_
  refine GL_gt (t := 41) rfl rfl rfl (fun q => PS_load (cvE rfl q) tys4 (.tail _ (.head _)) Being.l2 rfl rfl) ?_
  refine GL_gt (t := 41) rfl rfl rfl (fun q => PS_move (cvE rfl q)) ?_
  refine GL_gfc (t := 44) rfl rfl rfl (fun qc q => PS_loadA rfl tya34 (.tail _ (.tail _ (.head _))) (Lens.id Land.fl.len Land.fl.one) rfl) ?_
  refine GL_gfc (t := 44) rfl rfl rfl (fun qc q => PS_move rfl) ?_
  refine GL_pgfc (t := 44) rfl rfl rfl (fun qc q => by have q1 := q; have qc1 := qc; (try simp at q1 qc1); exact PC_of cf75 (.cons (cvE rfl (by rw [qc, q]; rfl)) (.cons (cvE rfl (by rw [qc, q]; rfl)) .nil)) (fun w hS => sense_Hidden_spec _ _ w)) ?_
  refine GL_gfc (t := 44) rfl rfl rfl (fun qc q => PS_not (cvE rfl (by rw [qc, q]; rfl))) ?_
  refine GL_gt (t := 41) rfl rfl rfl (fun q => PS_or (cvE rfl q) rfl (fun h => by rw [q, h]; rfl)) ?_
  refine GL_step rfl (PS_and rfl rfl (fun h => h)) ?_
  refine GL_step rfl (PS_assign rfl) ?_
  refine GL_nil ?_
  refine GQ_sub (.cons (k := 6) rfl (.nil _)) ?_
  refine GQ_then ?_
  refine G_ret ?_
  refine GQ_ret rfl (.tmp rfl .nil) ?_
  intro w1 hS; refine ⟨congrArg Value.bool ?_, hS.toKeep⟩; rw [show X.sees a b = _ from ((if_f c1).trans (if_f c2))]
 ·
  refine GL_alloc rfl zv31 rfl (fun b4 => ?_)
  refine GL_hand rfl ⟨?_, ?_⟩
  · exact (Pend_okv rfl (OK_s (EX_s (PS_loadA rfl tya31 (.tail _ (.head _)) (Land.l2.comp (Lens.arr (n := 6) Being.fl (by omega) (by omega))) rfl))) rfl rfl (Pend_okv rfl (OK_s (EX_s (PS_indexAddr ia32 rfl rfl (by omega) (by omega)))) rfl rfl (Pend_okv rfl (OK_s (EX_s (PS_fieldAddr fa34_2 rfl))) rfl rfl (Pend_okv rfl (OK_s (EX_s (PS_move rfl))) rfl rfl (Pend_okv rfl (OK_s (EX_s (PS_loadA rfl tya31 (.tail _ (.head _)) (Land.l2.comp (Lens.arr (n := 6) Being.fl (by omega) (by omega))) rfl))) rfl rfl (Pend_okv rfl (OK_s (EX_s (PS_indexAddr ia32 rfl rfl (by omega) (by omega)))) rfl rfl (Pend_okv rfl (OK_s (EX_s (PS_fieldAddr fa34_2 rfl))) rfl rfl (Pend_okv rfl (OK_s (EX_s (PS_move rfl))) rfl rfl Pend_nil))))))))
  refine Plan_chain 8 rfl (by kernel_rfl) ?_
  refine GL_alloc rfl zv31 rfl (fun b5 => ?_)
  refine GL_hand rfl ⟨?_, ?_⟩
  · exact (Pend_okv rfl (OK_s (EX_s (PS_loadA rfl tya31 (.tail _ (.tail _ (.head _))) (Land.l2.comp (Lens.arr (n := 6) Being.fl (by omega) (by omega))) rfl))) rfl rfl (Pend_okv rfl (OK_s (EX_s (PS_indexAddr ia32 rfl rfl (by omega) (by omega)))) rfl rfl (Pend_okv rfl (OK_s (EX_s (PS_fieldAddr fa34_2 rfl))) rfl rfl (Pend_okv rfl (OK_s (EX_s (PS_move rfl))) rfl rfl (Pend_okv rfl (OK_s (EX_s (PS_loadA rfl tya31 (.tail _ (.tail _ (.head _))) (Land.l2.comp (Lens.arr (n := 6) Being.fl (by omega) (by omega))) rfl))) rfl rfl (Pend_okv rfl (OK_s (EX_s (PS_indexAddr ia32 rfl rfl (by omega) (by omega)))) rfl rfl (Pend_okv rfl (OK_s (EX_s (PS_fieldAddr fa34_2 rfl))) rfl rfl (Pend_okv rfl (OK_s (EX_s (PS_move rfl))) rfl rfl Pend_nil))))))))
  refine Plan_chain 10 rfl (by kernel_rfl) ?_
  refine GL_unit (PU_store (Lens.id Being.fl.len Being.fl.one) rfl rfl rfl sz31 rfl .head) ?_
  refine GL_hand0 rfl ⟨?_, ?_⟩
  · exact (Pend_okv rfl (OK_s (EX_s (PS_loadA rfl tya31 (.tail _ (.tail _ (.head _))) (Land.l2.comp (Lens.arr (n := 6) Being.fl (by omega) (by omega))) rfl))) rfl rfl (Pend_okv rfl (OK_s (EX_s (PS_indexAddr ia32 rfl rfl (by omega) (by omega)))) rfl rfl (Pend_okv rfl (OK_s (EX_s (PS_fieldAddr fa34_2 rfl))) rfl rfl (Pend_okv rfl (OK_s (EX_s (PS_move rfl))) rfl rfl (Pend_skip (by kernel_rfl) (Pend_skip (by kernel_rfl) (Pend_skip (by kernel_rfl) (Pend_skip (by kernel_rfl) Pend_nil))))))))
  refine Plan_chain 11 rfl (by kernel_rfl) ?_
  refine GL_unit (PU_store (Lens.id Being.fl.len Being.fl.one) rfl rfl rfl sz31 rfl (.tail .head)) ?_
  refine GL_hand0 rfl ⟨?_, ?_⟩
  · exact (Pend_skip (by kernel_rfl) (Pend_skip (by kernel_rfl) (Pend_skip (by kernel_rfl) (Pend_skip (by kernel_rfl) (Pend_skip (by kernel_rfl) (Pend_skip (by kernel_rfl) (Pend_skip (by kernel_rfl) (Pend_skip (by kernel_rfl) Pend_nil))))))))
  refine Plan_end (by kernel_rfl) ?_
  refine GQ_sub (.cons (k := 2) rfl (.cons (k := 3) rfl (.cons (k := 7) rfl (.cons (k := 8) rfl (.nil _))))) ?_
  refine GQ_then ?_
  refine G_seq ?_
  refine G_region ?_
  refine GL_step rfl (PS_fieldAddr fa31_3 rfl) ?_
  refine GL_step rfl (PS_load rfl tys3 (.head _) Being.l3 rfl rfl) ?_
  refine GL_step rfl (PS_fieldAddr fa31_3 rfl) ?_
  refine GL_step rfl (PS_load rfl tys3 (.tail _ (.head _)) Being.l3 rfl rfl) ?_
  refine GL_step rfl (PS_eql rfl rfl) ?_
  refine GL_step rfl (PS_move rfl) ?_
  refine GL_gt (t := 35) rfl rfl rfl (fun q => PS_loadA rfl tya34 (.tail _ (.tail _ (.head _))) (Lens.id Land.fl.len Land.fl.one) rfl) ?_
  refine GL_gt (t := 35) rfl rfl rfl (fun q => PS_fieldAddr fa31_3 rfl) ?_
  refine GL_gt (t := 35) rfl rfl rfl (fun q => PS_load (cvE rfl q) tys3 (.head _) Being.l3 rfl rfl) ?_
  refine GL_pgt (t := 35) rfl rfl rfl (fun q => PC_of cf44 (.cons (cvE rfl q) (.cons (cvE rfl q) .nil)) (fun w hS => sense_Bright_spec _ _ w)) ?_
  refine GL_step rfl (PS_and rfl rfl (fun h => h)) ?_
  refine GL_step rfl (PS_move rfl) ?_
  refine GL_gt (t := 41) rfl rfl rfl (fun q => PS_fieldAddr fa31_2 rfl) ?_
  refine GL_gt (t := 41) rfl rfl rfl (fun q => PS_load (cvE rfl q) tys4 (.head _) Being.l2 rfl rfl) ?_
  refine GL_gt (t := 41) rfl rfl rfl (fun q => PS_move (cvE rfl q)) ?_
  refine GL_gfc (t := 44) rfl rfl rfl (fun qc q => PS_loadA rfl tya34 (.tail _ (.tail _ (.head _))) (Lens.id Land.fl.len Land.fl.one) rfl) ?_
  refine GL_gfc (t := 44) rfl rfl rfl (fun qc q => PS_move rfl) ?_
  refine GL_pgfc (t := 44) rfl rfl rfl (fun qc q => by have q1 := q; have qc1 := qc; (try simp at q1 qc1); exact PC_of cf75 (.cons (cvE rfl (by rw [qc, q]; rfl)) (.cons (cvE rfl (by rw [qc, q]; rfl)) .nil)) (fun w hS => sense_Hidden_spec _ _ w)) ?_
  refine GL_gfc (t := 44) rfl rfl rfl (fun qc q => PS_not (cvE rfl (by rw [qc, q]; rfl))) ?_
  refine GL_gt (t := 41) rfl rfl rfl (fun q => PS_or (cvE rfl q) rfl (fun h => by rw [q, h]; rfl)) ?_
  refine GL_step rfl (PS_and rfl rfl (fun h => h)) ?_
  refine GL_step rfl (PS_assign rfl) ?_
  refine GL_nil ?_
  refine GQ_sub (.cons (k := 6) rfl (.nil _)) ?_
  refine GQ_then ?_
  refine G_ret ?_
  refine GQ_ret rfl (.tmp rfl .nil) ?_
  intro w1 hS; refine ⟨congrArg Value.bool ?_, hS.toKeep⟩; rw [show X.sees a b = _ from ((if_f c1).trans (if_f c2))]
theorem sense_loud_spec (k : Int) (w : World) : Ret Tryz.prog 83 #[.int .i64 k] w fun v w' => v = .bool (Land.loud k) ∧ Keep w w' := by
 refine Ret_body [] [] Tryz.func83 rfl rfl rfl (St.start w []) ?_
 refine G_seq ?_
 refine G_region ?_
 refine GL_step rfl (PS_assign rfl) ?_
 refine GL_nil ?_
 refine GQ_sub (.cons (k := 0) rfl (.nil _)) ?_
 refine GQ_then ?_
 refine G_seq ?_
 refine G_region ?_
 refine GL_step rfl (PS_move rfl) ?_
 refine GL_step rfl (PS_eql rfl rfl) ?_
 refine GL_step rfl (PS_move rfl) ?_
 refine GL_gf (t := 5) rfl rfl rfl (fun q => PS_move rfl) ?_
 refine GL_gf (t := 5) rfl rfl rfl (fun q => PS_eql (cvE rfl (by rw [q]; rfl)) rfl) ?_
 refine GL_step rfl (PS_or rfl rfl (fun h => by rw [h]; rfl)) ?_
 refine GL_step rfl (PS_move rfl) ?_
 refine GL_gf (t := 9) rfl rfl rfl (fun q => PS_move rfl) ?_
 refine GL_gf (t := 9) rfl rfl rfl (fun q => PS_eql (cvE rfl (by rw [q]; rfl)) rfl) ?_
 refine GL_step rfl (PS_or rfl rfl (fun h => by rw [h]; rfl)) ?_
 refine GL_step rfl (PS_assign rfl) ?_
 refine GL_nil ?_
 refine GQ_sub (.cons (k := 2) rfl (.nil _)) ?_
 refine GQ_then ?_
 refine G_ret ?_
 refine GQ_ret rfl (.tmp rfl .nil) ?_
 intro w1 hS; refine ⟨?_, hS.toKeep⟩; rfl
theorem sense_Perceives_spec (X : Land) (b : Int) (e : Ing.Event) (w : World) : Ret Tryz.prog 79 #[.agg X.enc.toArray, .int .i64 b, .agg e.enc.toArray] w fun v w' => v = .int .i64 (X.perceives b e) ∧ Keep w w' := by
 refine Ret_body [] [] Tryz.func79 rfl rfl rfl (St.start w []) ?_
 refine G_seq ?_
 refine G_region ?_
 refine GL_box rfl rfl rfl (fun b1 => ?_)
 refine GL_box rfl rfl rfl (fun b2 => ?_)
 refine GL_step rfl (PS_assign rfl) ?_
 refine GL_nil ?_
 refine GQ_sub (.cons (k := 1) rfl (.cons (k := 3) rfl (.cons (k := 5) rfl (.nil _)))) ?_
 refine GQ_then ?_
 refine G_seq ?_
 refine G_block ?_
 refine G_seq ?_
 refine G_region ?_
 refine GL_step rfl (PS_loadA rfl tya34 (.tail _ (.head _)) (Lens.id Land.fl.len Land.fl.one) rfl) ?_
 refine GL_step rfl (PS_move rfl) ?_
 refine GL_pure rfl cf74 (.cons rfl (.cons rfl .nil)) (fun w hS => sense_being_spec _ _ w) ?_
 refine GL_step rfl (PS_not rfl) ?_
 refine GL_step rfl (PS_assign rfl) ?_
 refine GL_nil ?_
 refine GQ_sub (.cons (k := 1) rfl (.cons (k := 3) rfl (.cons (k := 5) rfl (.cons (k := 8) rfl (.nil _))))) ?_
 refine GQ_then ?_
 refine G_cond rfl (fun c1 => ?_) (fun c1 => ?_)
 ·
  have c1p := kz c1
  refine G_seq ?_
  refine G_region ?_
  refine GL_step rfl (PS_assign rfl) ?_
  refine GL_nil ?_
  refine GQ_sub (.cons (k := 6) rfl (.nil _)) ?_
  refine GQ_then ?_
  refine G_ret ?_
  refine GQ_block_ret ?_
  refine GQ_then_ret ?_
  refine GQ_ret rfl (.tmp rfl .nil) ?_
  intro w1 hS; refine ⟨?_, hS.toKeep⟩; rw [show X.perceives b e = _ from (if_t c1)]; rfl
 have c1p := kz c1
 have hr : 0 ≤ b ∧ b < 6 := by simp at c1; have h1 := Land.being_rng c1; omega
 refine G_seq ?_
 refine G_region ?_
 refine GL_step rfl (PS_move rfl) ?_
 refine GL_step rfl (PS_fieldAddr fa60_2 rfl) ?_
 refine GL_step rfl (PS_load rfl tys3 (.head _) Ing.Event.l2 rfl rfl) ?_
 refine GL_step rfl (PS_eql rfl rfl) ?_
 refine GL_step rfl (PS_assign rfl) ?_
 refine GL_nil ?_
 refine GQ_sub (.cons (k := 1) rfl (.cons (k := 3) rfl (.cons (k := 5) rfl (.cons (k := 13) rfl (.nil _))))) ?_
 refine GQ_then ?_
 refine G_cond rfl (fun c2 => ?_) (fun c2 => ?_)
 ·
  have c2p := kz c2
  refine G_seq ?_
  refine G_seq ?_
  refine G_region ?_
  refine GL_step rfl (PS_fieldAddr fa60_3 rfl) ?_
  refine GL_step rfl (PS_load rfl tys3 (.head _) Ing.Event.l3 rfl rfl) ?_
  refine GL_step rfl (PS_lss rfl rfl) ?_
  refine GL_step rfl (PS_move rfl) ?_
  refine GL_gf (t := 21) rfl rfl rfl (fun q => PS_fieldAddr fa60_3 rfl) ?_
  refine GL_gf (t := 21) rfl rfl rfl (fun q => PS_load (cvE rfl (by rw [q]; rfl)) tys3 (.head _) Ing.Event.l3 rfl rfl) ?_
  refine GL_gf (t := 21) rfl rfl rfl (fun q => PS_geq (cvE rfl (by rw [q]; rfl)) rfl) ?_
  refine GL_step rfl (PS_or rfl rfl (fun h => by rw [h]; rfl)) ?_
  refine GL_step rfl (PS_move rfl) ?_
  refine GL_gf (t := 26) rfl rfl rfl (fun q => PS_loadA rfl tya34 (.tail _ (.head _)) (Lens.id Land.fl.len Land.fl.one) rfl) ?_
  refine GL_gf (t := 26) rfl rfl rfl (fun q => PS_move rfl) ?_
  refine GL_gf (t := 26) rfl rfl rfl (fun q => PS_fieldAddr fa60_3 rfl) ?_
  refine GL_gf (t := 26) rfl rfl rfl (fun q => PS_load (cvE rfl (by rw [q]; rfl)) tys3 (.head _) Ing.Event.l3 rfl rfl) ?_
  refine GL_pgf (t := 26) rfl rfl rfl (fun q => by have q1 := q; (try simp at q1); exact PC_of cf47 (.cons (cvE rfl (by rw [q]; rfl)) (.cons (cvE rfl (by rw [q]; rfl)) (.cons (cvE rfl (by rw [q]; rfl)) .nil))) (fun w hS => sense_Sees_spec _ _ _ w)) ?_
  refine GL_step rfl (PS_or rfl rfl (fun h => by rw [h]; rfl)) ?_
  refine GL_nil ?_
  refine GQ_sub (.cons (k := 32) rfl (.nil _)) ?_
  refine GQ_then ?_
  refine G_cond rfl (fun c3 => ?_) (fun c3 => ?_)
  ·
   have c3p := kz c3
   refine G_seq ?_
   refine G_region ?_
   refine GL_step rfl (PS_assign rfl) ?_
   refine GL_nil ?_
   refine GQ_sub (.cons (k := 6) rfl (.nil _)) ?_
   refine GQ_then ?_
   refine G_ret ?_
   refine GQ_then_ret ?_
   refine GQ_block_ret ?_
   refine GQ_then_ret ?_
   refine GQ_ret rfl (.tmp rfl .nil) ?_
   intro w1 hS; refine ⟨?_, hS.toKeep⟩; rw [show X.perceives b e = _ from ((if_f c1).trans ((if_t c2).trans (if_t c3)))]; rfl
  have c3p := kz c3
  refine G_skip ?_
  refine GQ_sub (.nil _) ?_
  refine GQ_then ?_
  refine G_seq ?_
  refine G_region ?_
  refine GL_step rfl (PS_assign rfl) ?_
  refine GL_nil ?_
  refine GQ_then ?_
  refine G_ret ?_
  refine GQ_block_ret ?_
  refine GQ_then_ret ?_
  refine GQ_ret rfl (.tmp rfl .nil) ?_
  intro w1 hS; refine ⟨?_, hS.toKeep⟩; rw [show X.perceives b e = _ from ((if_f c1).trans ((if_t c2).trans (if_f c3)))]; rfl
 have c2p := kz c2
 refine G_seq ?_
 refine G_planN (N := 14) [0, 1, 3, 7, 15, 15, 63, 127, 255, 15, 527, 2047, 4095, 8191] mix (by kernel_rfl) rfl ?_
 refine Plan_float 0 rfl rfl (by kernel_rfl) (OK_s (EX_s (PS_fieldAddr fa60_0 rfl))) ?_
 refine Plan_float 1 rfl rfl (by kernel_rfl) (OK_s (EX_s (PS_load rfl tys3 (.head _) Ing.Event.l0 rfl rfl))) ?_
 refine Plan_float 2 rfl rfl (by kernel_rfl) (OK_s (EX_s (PS_eql rfl rfl))) ?_
 refine Plan_float 3 rfl rfl (by kernel_rfl) (OK_s (EX_s (PS_move rfl))) ?_
 refine Plan_float 4 rfl rfl (by kernel_rfl) (OK_gf (t := 37) rfl rfl (fun q => EX_s (PS_move rfl))) ?_
 refine Plan_float 5 rfl rfl (by kernel_rfl) (OK_gf (t := 37) rfl rfl (fun q => EX_s (PS_fieldAddr fa34_2 rfl))) ?_
 refine Plan_float 6 rfl rfl (by kernel_rfl) (OK_gf (t := 37) rfl rfl (fun q => by have q1 := q; (try simp at q1); exact EX_s (PS_indexAddr ia32 (cvE rfl (by rw [q]; rfl)) (cvE rfl (by rw [q]; rfl)) (by omega) (by omega)))) ?_
 refine Plan_float 7 rfl rfl (by kernel_rfl) (OK_gf (t := 37) rfl rfl (fun q => EX_s (PS_fieldAddr fa31_3 (cvE rfl (by rw [q]; rfl))))) ?_
 refine Plan_float 8 rfl rfl (by kernel_rfl) (OK_gf (t := 37) rfl rfl (fun q => by have q1 := q; (try simp at q1); exact EX_s (PS_load (cvE rfl (by rw [q]; rfl)) tys3 (.tail _ (.head _)) ((Land.l2.comp (Lens.arr (n := 6) Being.fl (by omega) (by omega))).comp Being.l3) rfl rfl))) ?_
 refine Plan_float 9 rfl rfl (by kernel_rfl) (OK_gf (t := 37) rfl rfl (fun q => EX_s (PS_fieldAddr fa60_1 rfl))) ?_
 refine Plan_float 10 rfl rfl (by kernel_rfl) (OK_gf (t := 37) rfl rfl (fun q => EX_s (PS_load (cvE rfl (by rw [q]; rfl)) tys3 (.head _) Ing.Event.l1 rfl rfl))) ?_
 refine Plan_float 11 rfl rfl (by kernel_rfl) (OK_gf (t := 37) rfl rfl (fun q => EX_s (PS_neq (cvE rfl (by rw [q]; rfl)) (cvE rfl (by rw [q]; rfl))))) ?_
 refine Plan_float 12 rfl rfl (by kernel_rfl) (OK_s (EX_s (PS_or rfl rfl (fun h => by rw [h]; rfl)))) ?_
 refine Plan_float 13 rfl rfl (by kernel_rfl) (OK_s (EX_s (PS_assign rfl))) ?_
 refine Plan_end (by kernel_rfl) ?_
 refine GQ_sub (.cons (k := 1) rfl (.cons (k := 3) rfl (.cons (k := 5) rfl (.cons (k := 33) rfl (.nil _))))) ?_
 refine GQ_then ?_
 refine G_cond rfl (fun c4 => ?_) (fun c4 => ?_)
 ·
  have c4p := kz c4
  refine G_seq ?_
  refine G_region ?_
  refine GL_step rfl (PS_assign rfl) ?_
  refine GL_nil ?_
  refine GQ_sub (.cons (k := 6) rfl (.nil _)) ?_
  refine GQ_then ?_
  refine G_ret ?_
  refine GQ_block_ret ?_
  refine GQ_then_ret ?_
  refine GQ_ret rfl (.tmp rfl .nil) ?_
  intro w1 hS; refine ⟨?_, hS.toKeep⟩; rw [show X.perceives b e = _ from ((if_f c1).trans ((if_f c2).trans (if_t c4)))]; rfl
 have c4p := kz c4
 refine G_skip ?_
 refine GQ_sub (.cons (k := 1) rfl (.cons (k := 3) rfl (.cons (k := 5) rfl (.nil _)))) ?_
 refine GQ_block ?_
 refine GQ_then ?_
 refine G_seq ?_
 refine G_region ?_
 refine GL_step rfl (PS_assign rfl) ?_
 refine GL_nil ?_
 refine GQ_then ?_
 refine G_seq ?_
 refine G_seq ?_
 refine G_region ?_
 refine GL_step rfl (PS_loadA rfl tya34 (.tail _ (.head _)) (Lens.id Land.fl.len Land.fl.one) rfl) ?_
 refine GL_step rfl (PS_move rfl) ?_
 refine GL_step rfl (PS_fieldAddr fa60_2 rfl) ?_
 refine GL_step rfl (PS_load rfl tys3 (.head _) Ing.Event.l2 rfl rfl) ?_
 refine GL_pure rfl cf47 (.cons rfl (.cons rfl (.cons rfl .nil))) (fun w hS => sense_Sees_spec _ _ _ w) ?_
 refine GL_step rfl (PS_not rfl) ?_
 refine GL_nil ?_
 refine GQ_sub (.cons (k := 1) rfl (.cons (k := 3) rfl (.cons (k := 5) rfl (.cons (k := 7) rfl (.cons (k := 52) rfl (.nil _)))))) ?_
 refine GQ_then ?_
 refine G_cond rfl (fun c5 => ?_) (fun c5 => ?_)
 ·
  have c5p := kz c5
  refine G_seq ?_
  refine G_seq ?_
  refine G_region ?_
  refine GL_step rfl (PS_fieldAddr fa60_0 rfl) ?_
  refine GL_step rfl (PS_load rfl tys3 (.head _) Ing.Event.l0 rfl rfl) ?_
  refine GL_pure rfl cf83 (.cons rfl .nil) (fun w hS => sense_loud_spec _ w) ?_
  refine GL_step rfl (PS_not rfl) ?_
  refine GL_nil ?_
  refine GQ_sub (.cons (k := 1) rfl (.cons (k := 3) rfl (.cons (k := 5) rfl (.cons (k := 7) rfl (.cons (k := 56) rfl (.nil _)))))) ?_
  refine GQ_then ?_
  refine G_cond rfl (fun c6 => ?_) (fun c6 => ?_)
  ·
   have c6p := kz c6
   refine G_seq ?_
   refine G_region ?_
   refine GL_step rfl (PS_assign rfl) ?_
   refine GL_nil ?_
   refine GQ_sub (.cons (k := 6) rfl (.nil _)) ?_
   refine GQ_then ?_
   refine G_ret ?_
   refine GQ_then_ret ?_
   refine GQ_then_ret ?_
   refine GQ_ret rfl (.tmp rfl .nil) ?_
   intro w1 hS; refine ⟨?_, hS.toKeep⟩; rw [show X.perceives b e = _ from ((if_f c1).trans ((if_f c2).trans ((if_f c4).trans ((if_t c5).trans (if_t c6)))))]; rfl
  have c6p := kz c6
  refine G_skip ?_
  refine GQ_sub (.cons (k := 1) rfl (.cons (k := 3) rfl (.cons (k := 5) rfl (.cons (k := 7) rfl (.nil _))))) ?_
  refine GQ_then ?_
  refine G_region ?_
  refine GL_step rfl (PS_move rfl) ?_
  refine GL_step rfl (PS_add rfl rfl (IntWalk.i64_in _ (by omega))) ?_
  refine GL_step rfl (PS_assign rfl) ?_
  refine GL_nil ?_
  refine GQ_sub (.cons (k := 1) rfl (.cons (k := 3) rfl (.cons (k := 5) rfl (.cons (k := 7) rfl (.nil _))))) ?_
  refine GQ_then ?_
  refine G_seq ?_
  refine G_seq ?_
  refine G_region ?_
  refine GL_step rfl (PS_fieldAddr fa60_3 rfl) ?_
  refine GL_step rfl (PS_load rfl tys3 (.head _) Ing.Event.l3 rfl rfl) ?_
  refine GL_step rfl (PS_geq rfl rfl) ?_
  refine GL_step rfl (PS_move rfl) ?_
  refine GL_gt (t := 62) rfl rfl rfl (fun q => PS_fieldAddr fa60_3 rfl) ?_
  refine GL_gt (t := 62) rfl rfl rfl (fun q => PS_load (cvE rfl q) tys3 (.head _) Ing.Event.l3 rfl rfl) ?_
  refine GL_gt (t := 62) rfl rfl rfl (fun q => PS_lss (cvE rfl q) rfl) ?_
  refine GL_step rfl (PS_and rfl rfl (fun h => h)) ?_
  refine GL_step rfl (PS_move rfl) ?_
  refine GL_gt (t := 67) rfl rfl rfl (fun q => PS_loadA rfl tya34 (.tail _ (.head _)) (Lens.id Land.fl.len Land.fl.one) rfl) ?_
  refine GL_gt (t := 67) rfl rfl rfl (fun q => PS_move rfl) ?_
  refine GL_gt (t := 67) rfl rfl rfl (fun q => PS_fieldAddr fa60_3 rfl) ?_
  refine GL_gt (t := 67) rfl rfl rfl (fun q => PS_load (cvE rfl q) tys3 (.head _) Ing.Event.l3 rfl rfl) ?_
  refine GL_pgt (t := 67) rfl rfl rfl (fun q => PC_of cf47 (.cons (cvE rfl q) (.cons (cvE rfl q) (.cons (cvE rfl q) .nil))) (fun w hS => sense_Sees_spec _ _ _ w)) ?_
  refine GL_gt (t := 67) rfl rfl rfl (fun q => PS_not (cvE rfl q)) ?_
  refine GL_step rfl (PS_and rfl rfl (fun h => h)) ?_
  refine GL_nil ?_
  refine GQ_sub (.cons (k := 7) rfl (.cons (k := 74) rfl (.nil _))) ?_
  refine GQ_then ?_
  refine G_cond rfl (fun c7 => ?_) (fun c7 => ?_)
  ·
   have c7p := kz c7
   refine G_region ?_
   refine GL_step rfl (PS_move rfl) ?_
   refine GL_step rfl (PS_add rfl rfl (IntWalk.i64_in _ (by omega))) ?_
   refine GL_step rfl (PS_assign rfl) ?_
   refine GL_nil ?_
   refine GQ_sub (.cons (k := 7) rfl (.nil _)) ?_
   refine GQ_then ?_
   refine G_seq ?_
   refine G_region ?_
   refine GL_step rfl (PS_move rfl) ?_
   refine GL_step rfl (PS_assign rfl) ?_
   refine GL_nil ?_
   refine GQ_sub (.cons (k := 6) rfl (.nil _)) ?_
   refine GQ_then ?_
   refine G_ret ?_
   refine GQ_ret rfl (.tmp rfl .nil) ?_
   intro w1 hS; refine ⟨?_, hS.toKeep⟩; rw [show X.perceives b e = _ from ((if_f c1).trans ((if_f c2).trans ((if_f c4).trans ((if_t c5).trans ((if_f c6).trans (if_t c7))))))]; rfl
  have c7p := kz c7
  refine G_skip ?_
  refine GQ_sub (.cons (k := 7) rfl (.nil _)) ?_
  refine GQ_then ?_
  refine G_seq ?_
  refine G_region ?_
  refine GL_step rfl (PS_move rfl) ?_
  refine GL_step rfl (PS_assign rfl) ?_
  refine GL_nil ?_
  refine GQ_sub (.cons (k := 6) rfl (.nil _)) ?_
  refine GQ_then ?_
  refine G_ret ?_
  refine GQ_ret rfl (.tmp rfl .nil) ?_
  intro w1 hS; refine ⟨?_, hS.toKeep⟩; rw [show X.perceives b e = _ from ((if_f c1).trans ((if_f c2).trans ((if_f c4).trans ((if_t c5).trans ((if_f c6).trans (if_f c7))))))]; rfl
 have c5p := kz c5
 refine G_skip ?_
 refine GQ_sub (.cons (k := 1) rfl (.cons (k := 3) rfl (.cons (k := 5) rfl (.cons (k := 7) rfl (.nil _))))) ?_
 refine GQ_then ?_
 refine G_seq ?_
 refine G_seq ?_
 refine G_region ?_
 refine GL_step rfl (PS_fieldAddr fa60_3 rfl) ?_
 refine GL_step rfl (PS_load rfl tys3 (.head _) Ing.Event.l3 rfl rfl) ?_
 refine GL_step rfl (PS_geq rfl rfl) ?_
 refine GL_step rfl (PS_move rfl) ?_
 refine GL_gt (t := 62) rfl rfl rfl (fun q => PS_fieldAddr fa60_3 rfl) ?_
 refine GL_gt (t := 62) rfl rfl rfl (fun q => PS_load (cvE rfl q) tys3 (.head _) Ing.Event.l3 rfl rfl) ?_
 refine GL_gt (t := 62) rfl rfl rfl (fun q => PS_lss (cvE rfl q) rfl) ?_
 refine GL_step rfl (PS_and rfl rfl (fun h => h)) ?_
 refine GL_step rfl (PS_move rfl) ?_
 refine GL_gt (t := 67) rfl rfl rfl (fun q => PS_loadA rfl tya34 (.tail _ (.head _)) (Lens.id Land.fl.len Land.fl.one) rfl) ?_
 refine GL_gt (t := 67) rfl rfl rfl (fun q => PS_move rfl) ?_
 refine GL_gt (t := 67) rfl rfl rfl (fun q => PS_fieldAddr fa60_3 rfl) ?_
 refine GL_gt (t := 67) rfl rfl rfl (fun q => PS_load (cvE rfl q) tys3 (.head _) Ing.Event.l3 rfl rfl) ?_
 refine GL_pgt (t := 67) rfl rfl rfl (fun q => PC_of cf47 (.cons (cvE rfl q) (.cons (cvE rfl q) (.cons (cvE rfl q) .nil))) (fun w hS => sense_Sees_spec _ _ _ w)) ?_
 refine GL_gt (t := 67) rfl rfl rfl (fun q => PS_not (cvE rfl q)) ?_
 refine GL_step rfl (PS_and rfl rfl (fun h => h)) ?_
 refine GL_nil ?_
 refine GQ_sub (.cons (k := 7) rfl (.cons (k := 74) rfl (.nil _))) ?_
 refine GQ_then ?_
 refine G_cond rfl (fun c8 => ?_) (fun c8 => ?_)
 ·
  have c8p := kz c8
  refine G_region ?_
  refine GL_step rfl (PS_move rfl) ?_
  refine GL_step rfl (PS_add rfl rfl (IntWalk.i64_in _ (by omega))) ?_
  refine GL_step rfl (PS_assign rfl) ?_
  refine GL_nil ?_
  refine GQ_sub (.cons (k := 7) rfl (.nil _)) ?_
  refine GQ_then ?_
  refine G_seq ?_
  refine G_region ?_
  refine GL_step rfl (PS_move rfl) ?_
  refine GL_step rfl (PS_assign rfl) ?_
  refine GL_nil ?_
  refine GQ_sub (.cons (k := 6) rfl (.nil _)) ?_
  refine GQ_then ?_
  refine G_ret ?_
  refine GQ_ret rfl (.tmp rfl .nil) ?_
  intro w1 hS; refine ⟨?_, hS.toKeep⟩; rw [show X.perceives b e = _ from ((if_f c1).trans ((if_f c2).trans ((if_f c4).trans ((if_f c5).trans (if_t c8)))))]; rfl
 have c8p := kz c8
 refine G_skip ?_
 refine GQ_sub (.cons (k := 7) rfl (.nil _)) ?_
 refine GQ_then ?_
 refine G_seq ?_
 refine G_region ?_
 refine GL_step rfl (PS_move rfl) ?_
 refine GL_step rfl (PS_assign rfl) ?_
 refine GL_nil ?_
 refine GQ_sub (.cons (k := 6) rfl (.nil _)) ?_
 refine GQ_then ?_
 refine G_ret ?_
 refine GQ_ret rfl (.tmp rfl .nil) ?_
 intro w1 hS; refine ⟨?_, hS.toKeep⟩; rw [show X.perceives b e = _ from ((if_f c1).trans ((if_f c2).trans ((if_f c4).trans ((if_f c5).trans (if_f c8)))))]; rfl
theorem sense_All_spec (X : Land) (e : Ing.Event) (w : World) : Ret Tryz.prog 54 #[.agg X.enc.toArray, .agg e.enc.toArray] w fun v w' => v = .agg (X.allN e 6).enc.toArray ∧ Keep w w' := by
 refine Ret_body [] [] Tryz.func54 rfl rfl rfl (St.start w []) ?_
 refine G_seq ?_
 refine G_region ?_
 refine GL_box rfl rfl rfl (fun b1 => ?_)
 refine GL_box rfl rfl rfl (fun b2 => ?_)
 refine GL_alloc rfl zv60 rfl (fun b3 => ?_)
 refine GL_nil ?_
 refine GQ_sub (.cons (k := 2) rfl (.cons (k := 3) rfl (.cons (k := 4) rfl (.nil _)))) ?_
 refine GQ_then ?_
 refine G_seq ?_
 refine G_seq ?_
 refine G_region ?_
 refine GL_step rfl (PS_move rfl) ?_
 refine GL_nil ?_
 refine GQ_then ?_
 refine G_block ?_
 refine G_subF (.cons (k := 6) rfl (.cons (k := 2) rfl (.cons (k := 3) rfl (.cons (k := 4) rfl (.nil _))))) ?_
 refine G_pull (.tail .head) ?_
 refine G_loop1_ (fun (k : Int) => 0 ≤ k ∧ k ≤ 6) (fun (k : Int) => (6 - k).toNat) (fun (k : Int) => [(6, .int .i64 k)]) (fun (k : Int) => [Res.box b2 60 (Ing.Event.enc (X.allN e k.toNat))]) (0) ?_ rfl rfl (fun k hI1 => ?_)
 · exact ⟨Int.le_refl _, by omega⟩
 obtain ⟨hI11, hI12⟩ := hI1
 refine G_seq ?_
 refine G_region ?_
 refine GL_step rfl (PS_lss rfl rfl) ?_
 refine GL_nil ?_
 refine GQ_then ?_
 refine G_seq ?_
 refine G_cond rfl (fun c1 => ?_) (fun c1 => ?_)
 ·
  have c1p := kz c1
  try dsimp only at c1p
  refine G_skip ?_
  refine GQ_sub (.cons (k := 2) rfl (.cons (k := 3) rfl (.cons (k := 4) rfl (.cons (k := 6) rfl (.nil _))))) ?_
  refine GQ_then ?_
  refine G_seq ?_
  refine G_block ?_
  refine G_seq ?_
  refine G_region ?_
  refine GL_step rfl (PS_move rfl) ?_
  refine GL_step rfl (PS_assign rfl) ?_
  refine GL_nil ?_
  refine GQ_sub (.cons (k := 2) rfl (.cons (k := 3) rfl (.cons (k := 4) rfl (.cons (k := 5) rfl (.cons (k := 6) rfl (.nil _)))))) ?_
  refine GQ_then ?_
  refine G_region ?_
  refine GL_step rfl (PS_move rfl) ?_
  refine GL_step rfl (PS_loadA rfl tya34 (.tail _ (.tail _ (.head _))) (Lens.id Land.fl.len Land.fl.one) rfl) ?_
  refine GL_step rfl (PS_move rfl) ?_
  refine GL_step rfl (PS_loadA rfl tya60 (.head _) (Lens.id Ing.Event.fl.len Ing.Event.fl.one) rfl) ?_
  refine GL_pure rfl cf79 (.cons rfl (.cons rfl (.cons rfl .nil))) (fun w hS => sense_Perceives_spec _ _ _ w) ?_
  refine GL_step rfl (PS_fieldAddr fa60_10 rfl) ?_
  refine GL_step rfl (PS_indexAddr ia22 rfl rfl (by omega) (by omega)) ?_
  refine GL_unit (PU_store (Ing.Event.l10.comp (Lens.arr (n := 6) flI (by omega) (by omega))) rfl rfl rfl sz3 rfl .head) ?_
  refine GL_nil ?_
  refine GQ_sub (.cons (k := 2) rfl (.cons (k := 3) rfl (.cons (k := 4) rfl (.cons (k := 6) rfl (.nil _))))) ?_
  refine GQ_block ?_
  refine GQ_then ?_
  refine G_region ?_
  refine GL_step rfl (PS_add rfl rfl (IntWalk.i64_in _ (by omega))) ?_
  refine GL_step rfl (PS_move rfl) ?_
  refine GL_nil ?_
  refine GQ_sub (.cons (k := 2) rfl (.cons (k := 3) rfl (.cons (k := 4) rfl (.cons (k := 6) rfl (.nil _))))) ?_
  refine GQ_next1_ (k + 1) ?_ ?_ (.cons (k := 6) rfl (.cons (k := 2) rfl (.cons (k := 3) rfl (.cons (k := 4) rfl (.nil _))))) (by rw [Land.allN_step (by omega)]; exact (.refl _))
  · exact ⟨by omega, by omega⟩
  · omega
 have c1p := kz c1
 try dsimp only at c1p
 obtain rfl : k = 6 := by omega
 refine G_exit ?_
 refine GQ_then_exit ?_
 refine GQ_then_exit ?_
 refine GQ_block_exit ?_
 refine GQ_sub (.cons (k := 3) rfl (.cons (k := 4) rfl (.nil _))) ?_
 refine GQ_then ?_
 refine G_seq ?_
 refine G_region ?_
 refine GL_step rfl (PS_loadA rfl tya60 (.head _) (Lens.id Ing.Event.fl.len Ing.Event.fl.one) rfl) ?_
 refine GL_unit (PU_store (Lens.id Ing.Event.fl.len Ing.Event.fl.one) rfl rfl rfl sz60 rfl (.tail .head)) ?_
 refine GL_nil ?_
 refine GQ_sub (.cons (k := 4) rfl (.nil _)) ?_
 refine GQ_then ?_
 refine G_ret ?_
 refine GQ_ret rfl (.cell rfl (.tail _ (.head _)) (.inl ⟨(by rw [Ing.Event.fl.len]; exact tya60), rfl⟩) .nil) ?_
 intro w1 hS; refine ⟨?_, hS.toKeep⟩; rfl
theorem rules_turn_happens_spec (b : Nat) (T : Turn) (g : Hd) (e : Ing.Event) (hg : g.len = T.out.length) (hb : 0 ≤ T.b ∧ T.b < 6) (ho : e.other < 6) (hn : T.out.length ≤ 100000) : Ctr Tryz.prog 23 #[.pointer (some ⟨b, 0, none⟩), .agg e.enc.toArray] [Res.box b 53 (TurnV.enc ⟨T.w, T.b, g⟩), Res.own g 60 16 (T.out.flatMap Ing.Event.enc)] (fun v B => ∃ g' : Hd, v = .tuple #[] ∧ g'.len = (T.happens e).out.length ∧ B = [Res.box b 53 (TurnV.enc ⟨(T.happens e).w, (T.happens e).b, g'⟩), Res.own g' 60 16 ((T.happens e).out.flatMap Ing.Event.enc)]) := by
 intro w hS0
 refine Ret_body _ _ Tryz.func23 rfl rfl rfl (hS0) ?_
 refine G_seq ?_
 refine G_region ?_
 refine GL_box rfl rfl rfl (fun b1 => ?_)
 refine GL_nil ?_
 refine GQ_sub (.cons (k := 0) rfl (.cons (k := 3) rfl (.nil _))) ?_
 refine GQ_then ?_
 refine G_seq ?_
 refine G_planN (N := 12) [0, 0, 2, 6, 14, 1, 33, 97, 255, 511, 0, 2047] mix (by kernel_rfl) rfl ?_
 refine Plan_float 0 rfl rfl (by kernel_rfl) (OK_s (EX_s (PS_move rfl))) ?_
 refine Plan_float 1 rfl rfl (by kernel_rfl) (OK_s (EX_s (PS_move rfl))) ?_
 refine Plan_float 2 rfl rfl (by kernel_rfl) (OK_s (EX_s (PS_nilCheck rfl))) ?_
 refine Plan_float 3 rfl rfl (by kernel_rfl) (OK_s (EX_s (PS_fieldAddr fa53_1 rfl))) ?_
 refine Plan_float 4 rfl rfl (by kernel_rfl) (OK_s (EX_s (PS_load rfl tys3 (.tail _ (.head _)) TurnV.l1 rfl rfl))) ?_
 refine Plan_float 5 rfl rfl (by kernel_rfl) (OK_s (EX_s (PS_nilCheck rfl))) ?_
 refine Plan_float 6 rfl rfl (by kernel_rfl) (OK_s (EX_s (PS_fieldAddr fa53_0 rfl))) ?_
 refine Plan_float 7 rfl rfl (by kernel_rfl) (OK_s (EX_s (PS_fieldAddr fa34_2 rfl))) ?_
 refine Plan_float 8 rfl rfl (by kernel_rfl) (OK_s (EX_s (PS_indexAddr ia32 rfl rfl (by (try dsimp only at *); omega) (by (try dsimp only at *); omega)))) ?_
 refine Plan_float 9 rfl rfl (by kernel_rfl) (OK_s (EX_s (PS_loadA rfl tya31 (.tail _ (.head _)) ((TurnV.l0.comp Land.l2).comp (Lens.arr (n := 6) Being.fl (by (try dsimp only at *); omega) (by (try dsimp only at *); omega))) rfl))) ?_
 refine Plan_chain 10 rfl (by kernel_rfl) ?_
 refine GL_alloc rfl zv31 rfl (fun b2 => ?_)
 refine GL_hand rfl ⟨?_, ?_⟩
 · exact (Pend_okv rfl (OK_s (EX_s (PS_loadA rfl tya31 (.tail _ (.tail _ (.head _))) ((TurnV.l0.comp Land.l2).comp (Lens.arr (n := 6) Being.fl (by (try dsimp only at *); omega) (by (try dsimp only at *); omega))) rfl))) rfl rfl (Pend_okv rfl (OK_s (EX_s (PS_indexAddr ia32 rfl rfl (by (try dsimp only at *); omega) (by (try dsimp only at *); omega)))) rfl rfl (Pend_okv rfl (OK_s (EX_s (PS_fieldAddr fa34_2 rfl))) rfl rfl (Pend_okv rfl (OK_s (EX_s (PS_fieldAddr fa53_0 rfl))) rfl rfl (Pend_okv rfl (OK_s (EX_s (PS_nilCheck rfl))) rfl rfl (Pend_okv rfl (OK_s (EX_s (PS_load rfl tys3 (.tail _ (.tail _ (.head _))) TurnV.l1 rfl rfl))) rfl rfl (Pend_okv rfl (OK_s (EX_s (PS_fieldAddr fa53_1 rfl))) rfl rfl (Pend_okv rfl (OK_s (EX_s (PS_nilCheck rfl))) rfl rfl (Pend_okv rfl (OK_s (EX_s (PS_move rfl))) rfl rfl (Pend_okv rfl (OK_s (EX_s (PS_move rfl))) rfl rfl Pend_nil))))))))))
 refine Plan_chain 11 rfl (by kernel_rfl) ?_
 refine GL_unit (PU_store (Lens.id Being.fl.len Being.fl.one) rfl rfl rfl sz31 rfl .head) ?_
 refine GL_hand0 rfl ⟨?_, ?_⟩
 · exact (Pend_skip (by kernel_rfl) (Pend_skip (by kernel_rfl) (Pend_skip (by kernel_rfl) (Pend_skip (by kernel_rfl) (Pend_skip (by kernel_rfl) (Pend_skip (by kernel_rfl) (Pend_skip (by kernel_rfl) (Pend_skip (by kernel_rfl) (Pend_skip (by kernel_rfl) (Pend_skip (by kernel_rfl) Pend_nil))))))))))
 refine Plan_end (by kernel_rfl) ?_
 refine GQ_sub (.cons (k := 0) rfl (.cons (k := 3) rfl (.cons (k := 4) rfl (.nil _)))) ?_
 refine GQ_then ?_
 refine G_seq ?_
 refine G_planN (N := 14) [0, 1, 3, 7, 0, 16, 0, 64, 15, 271, 831, 1855, 4095, 8191] mix (by kernel_rfl) rfl ?_
 refine Plan_float 0 rfl rfl (by kernel_rfl) (OK_s (EX_s (PS_move rfl))) ?_
 refine Plan_float 1 rfl rfl (by kernel_rfl) (OK_s (EX_s (PS_nilCheck rfl))) ?_
 refine Plan_float 2 rfl rfl (by kernel_rfl) (OK_s (EX_s (PS_fieldAddr fa53_1 rfl))) ?_
 refine Plan_float 3 rfl rfl (by kernel_rfl) (OK_s (EX_s (PS_load rfl tys3 (.tail _ (.tail _ (.head _))) TurnV.l1 rfl rfl))) ?_
 refine Plan_float 4 rfl rfl (by kernel_rfl) (OK_s (EX_s (PS_fieldAddr fa31_0 rfl))) ?_
 refine Plan_float 5 rfl rfl (by kernel_rfl) (OK_s (EX_s (PS_load rfl tys9 (.head _) Being.l0 rfl rfl))) ?_
 refine Plan_float 6 rfl rfl (by kernel_rfl) (OK_s (EX_s (PS_fieldAddr fa31_3 rfl))) ?_
 refine Plan_float 7 rfl rfl (by kernel_rfl) (OK_s (EX_s (PS_load rfl tys3 (.head _) Being.l3 rfl rfl))) ?_
 refine Plan_float 8 rfl rfl (by kernel_rfl) (OK_s (EX_s (PS_fieldAddr fa60_2 rfl))) ?_
 refine Plan_chain 9 rfl (by kernel_rfl) ?_
 refine GL_unit (PU_store Ing.Event.l2 rfl rfl rfl sz3 rfl (.tail .head)) ?_
 refine GL_hand0 rfl ⟨?_, ?_⟩
 · exact (Pend_skip (by kernel_rfl) (Pend_okv rfl (OK_s (EX_s (PS_load rfl tys3 (.head _) Being.l3 rfl rfl))) rfl rfl (Pend_okv rfl (OK_s (EX_s (PS_fieldAddr fa31_3 rfl))) rfl rfl (Pend_okv rfl (OK_s (EX_s (PS_load rfl tys9 (.head _) Being.l0 rfl rfl))) rfl rfl (Pend_okv rfl (OK_s (EX_s (PS_fieldAddr fa31_0 rfl))) rfl rfl (Pend_skip (by kernel_rfl) (Pend_skip (by kernel_rfl) (Pend_skip (by kernel_rfl) (Pend_skip (by kernel_rfl) Pend_nil)))))))))
 refine Plan_float 10 rfl rfl (by kernel_rfl) (OK_s (EX_s (PS_fieldAddr fa60_6 rfl))) ?_
 refine Plan_chain 11 rfl (by kernel_rfl) ?_
 refine GL_unit (PU_store Ing.Event.l6 rfl rfl rfl sz9 rfl (.tail .head)) ?_
 refine GL_hand0 rfl ⟨?_, ?_⟩
 · exact (Pend_skip (by kernel_rfl) (Pend_skip (by kernel_rfl) (Pend_okv rfl (OK_s (EX_s (PS_load rfl tys3 (.head _) Being.l3 rfl rfl))) rfl rfl (Pend_okv rfl (OK_s (EX_s (PS_fieldAddr fa31_3 rfl))) rfl rfl (Pend_skip (by kernel_rfl) (Pend_skip (by kernel_rfl) (Pend_skip (by kernel_rfl) (Pend_skip (by kernel_rfl) (Pend_skip (by kernel_rfl) (Pend_skip (by kernel_rfl) Pend_nil))))))))))
 refine Plan_float 12 rfl rfl (by kernel_rfl) (OK_s (EX_s (PS_fieldAddr fa60_1 rfl))) ?_
 refine Plan_chain 13 rfl (by kernel_rfl) ?_
 refine GL_unit (PU_store Ing.Event.l1 rfl rfl rfl sz3 rfl (.tail .head)) ?_
 refine GL_hand0 rfl ⟨?_, ?_⟩
 · exact (Pend_skip (by kernel_rfl) (Pend_skip (by kernel_rfl) (Pend_skip (by kernel_rfl) (Pend_skip (by kernel_rfl) (Pend_skip (by kernel_rfl) (Pend_skip (by kernel_rfl) (Pend_skip (by kernel_rfl) (Pend_skip (by kernel_rfl) (Pend_skip (by kernel_rfl) (Pend_skip (by kernel_rfl) (Pend_skip (by kernel_rfl) Pend_nil)))))))))))
 refine Plan_end (by kernel_rfl) ?_
 refine GQ_sub (.cons (k := 0) rfl (.cons (k := 3) rfl (.nil _))) ?_
 refine GQ_then ?_
 refine G_seq ?_
 refine G_seq ?_
 refine G_region ?_
 refine GL_step rfl (PS_fieldAddr fa60_3 rfl) ?_
 refine GL_step rfl (PS_load rfl tys3 (.tail _ (.head _)) Ing.Event.l3 rfl rfl) ?_
 refine GL_step rfl (PS_geq rfl rfl) ?_
 refine GL_nil ?_
 refine GQ_sub (.cons (k := 0) rfl (.cons (k := 3) rfl (.cons (k := 28) rfl (.nil _)))) ?_
 refine GQ_then ?_
 refine G_cond rfl (fun c1 => ?_) (fun c1 => ?_)
 ·
  have c1p := kz c1
  refine G_planN (N := 11) [0, 0, 2, 1, 9, 25, 63, 127, 255, 511, 1023] mix (by kernel_rfl) rfl ?_
  refine Plan_float 0 rfl rfl (by kernel_rfl) (OK_s (EX_s (PS_move rfl))) ?_
  refine Plan_float 1 rfl rfl (by kernel_rfl) (OK_s (EX_s (PS_fieldAddr fa60_3 rfl))) ?_
  refine Plan_float 2 rfl rfl (by kernel_rfl) (OK_s (EX_s (PS_load rfl tys3 (.tail _ (.head _)) Ing.Event.l3 rfl rfl))) ?_
  refine Plan_float 3 rfl rfl (by kernel_rfl) (OK_s (EX_s (PS_nilCheck rfl))) ?_
  refine Plan_float 4 rfl rfl (by kernel_rfl) (OK_s (EX_s (PS_fieldAddr fa53_0 rfl))) ?_
  refine Plan_float 5 rfl rfl (by kernel_rfl) (OK_s (EX_s (PS_fieldAddr fa34_2 rfl))) ?_
  refine Plan_float 6 rfl rfl (by kernel_rfl) (OK_s (EX_s (PS_indexAddr ia32 rfl rfl (by (try dsimp only at *); omega) (by (try dsimp only at *); omega)))) ?_
  refine Plan_float 7 rfl rfl (by kernel_rfl) (OK_s (EX_s (PS_fieldAddr fa31_0 rfl))) ?_
  refine Plan_float 8 rfl rfl (by kernel_rfl) (OK_s (EX_s (PS_load rfl tys9 (.tail _ (.tail _ (.head _))) (((TurnV.l0.comp Land.l2).comp (Lens.arr (n := 6) Being.fl (by (try dsimp only at *); omega) (by (try dsimp only at *); omega))).comp Being.l0) rfl rfl))) ?_
  refine Plan_float 9 rfl rfl (by kernel_rfl) (OK_s (EX_s (PS_fieldAddr fa60_7 rfl))) ?_
  refine Plan_chain 10 rfl (by kernel_rfl) ?_
  refine GL_unit (PU_store Ing.Event.l7 rfl rfl rfl sz9 rfl (.tail .head)) ?_
  refine GL_hand0 rfl ⟨?_, ?_⟩
  · exact (Pend_skip (by kernel_rfl) (Pend_skip (by kernel_rfl) (Pend_skip (by kernel_rfl) (Pend_skip (by kernel_rfl) (Pend_skip (by kernel_rfl) (Pend_skip (by kernel_rfl) (Pend_skip (by kernel_rfl) (Pend_skip (by kernel_rfl) (Pend_skip (by kernel_rfl) (Pend_skip (by kernel_rfl) Pend_nil))))))))))
  refine Plan_end (by kernel_rfl) ?_
  refine GQ_sub (.cons (k := 0) rfl (.cons (k := 3) rfl (.nil _))) ?_
  refine GQ_then ?_
  refine G_planN (N := 16) [0, 0, 2, 6, 14, 0, 32, 96, 224, 0, 992, 2016, 4094, 8191, 16383, 32767] mix (by kernel_rfl) rfl ?_
  refine Plan_float 0 rfl rfl (by kernel_rfl) (OK_s (EX_s (PS_move rfl))) ?_
  refine Plan_float 1 rfl rfl (by kernel_rfl) (OK_s (EX_s (PS_move rfl))) ?_
  refine Plan_float 2 rfl rfl (by kernel_rfl) (OK_s (EX_s (PS_nilCheck rfl))) ?_
  refine Plan_float 3 rfl rfl (by kernel_rfl) (OK_s (EX_s (PS_fieldAddr fa53_2 rfl))) ?_
  refine Plan_float 4 rfl rfl (by kernel_rfl) (OK_s (EX_s (PS_load rfl tys35 (.tail _ (.tail _ (.head _))) TurnV.l2 rfl rfl))) ?_
  refine Plan_float 5 rfl rfl (by kernel_rfl) (OK_s (EX_s (PS_move rfl))) ?_
  refine Plan_float 6 rfl rfl (by kernel_rfl) (OK_s (EX_s (PS_nilCheck rfl))) ?_
  refine Plan_float 7 rfl rfl (by kernel_rfl) (OK_s (EX_s (PS_fieldAddr fa53_0 rfl))) ?_
  refine Plan_float 8 rfl rfl (by kernel_rfl) (OK_s (EX_s (PS_loadA rfl tya34 (.tail _ (.tail _ (.head _))) TurnV.l0 rfl))) ?_
  refine Plan_float 9 rfl rfl (by kernel_rfl) (OK_s (EX_s (PS_loadA rfl tya60 (.tail _ (.head _)) (Lens.id Ing.Event.fl.len Ing.Event.fl.one) rfl))) ?_
  refine Plan_float 10 rfl rfl (by kernel_rfl) (OK_s (EX_c (PC_of cf54 (.cons rfl (.cons rfl .nil)) (fun w hS => sense_All_spec _ _ w)))) ?_
  refine Plan_chain 11 rfl (by kernel_rfl) ?_
  refine GL_bs1F Ing.Event.enc Ing.Event.fl rfl Tryz.underlying35 sz60 zv60 rfl (by decide) (by decide) rfl rfl (fun b3 => ?_)
  refine GL_hand rfl ⟨?_, ?_⟩
  · exact (Pend_skip (by kernel_rfl) (Pend_skip (by kernel_rfl) (Pend_skip (by kernel_rfl) (Pend_skip (by kernel_rfl) (Pend_skip (by kernel_rfl) (Pend_skip (by kernel_rfl) (Pend_okv rfl (OK_s (EX_s (PS_load rfl tys35 (.tail _ (.tail _ (.tail _ (.head _)))) TurnV.l2 rfl rfl))) rfl rfl (Pend_okv rfl (OK_s (EX_s (PS_fieldAddr fa53_2 rfl))) rfl rfl (Pend_okv rfl (OK_s (EX_s (PS_nilCheck rfl))) rfl rfl (Pend_okv rfl (OK_s (EX_s (PS_move rfl))) rfl rfl (Pend_okv rfl (OK_s (EX_s (PS_move rfl))) rfl rfl Pend_nil)))))))))))
  refine Plan_chain 12 rfl (by kernel_rfl) ?_
  refine GL_appendF Ing.Event.fl rfl Tryz.underlying35 sz60 zv60 rfl by60 (by decide) (by decide) rfl rfl (fun w hS => Src.sliceT Tryz.underlying35 ((Kn.own (.head _)) w hS)) (by (try dsimp only); omega) (fun _ => (.tail (.tail (.tail (.tail .head))))) (fun h1 h1l h1z => ?_)
  refine GL_hand rfl ⟨?_, ?_⟩
  · exact (Pend_skip (by kernel_rfl) (Pend_skip (by kernel_rfl) (Pend_skip (by kernel_rfl) (Pend_skip (by kernel_rfl) (Pend_skip (by kernel_rfl) (Pend_skip (by kernel_rfl) (Pend_skip (by kernel_rfl) (Pend_skip (by kernel_rfl) (Pend_skip (by kernel_rfl) (Pend_skip (by kernel_rfl) (Pend_okv rfl (OK_s (EX_s (PS_move rfl))) rfl rfl Pend_nil)))))))))))
  refine Plan_float 13 rfl rfl (by kernel_rfl) (OK_s (EX_s (PS_nilCheck rfl))) ?_
  refine Plan_float 14 rfl rfl (by kernel_rfl) (OK_s (EX_s (PS_fieldAddr fa53_2 rfl))) ?_
  refine Plan_chain 15 rfl (by kernel_rfl) ?_
  refine GL_unit (PU_store TurnV.l2 rfl rfl rfl sz35 rfl (.tail (.tail (.tail .head)))) ?_
  refine GL_hand0 rfl ⟨?_, ?_⟩
  · exact (Pend_skip (by kernel_rfl) (Pend_skip (by kernel_rfl) (Pend_skip (by kernel_rfl) (Pend_skip (by kernel_rfl) (Pend_skip (by kernel_rfl) (Pend_skip (by kernel_rfl) (Pend_skip (by kernel_rfl) (Pend_skip (by kernel_rfl) (Pend_skip (by kernel_rfl) (Pend_skip (by kernel_rfl) (Pend_skip (by kernel_rfl) (Pend_skip (by kernel_rfl) (Pend_skip (by kernel_rfl) Pend_nil)))))))))))))
  refine Plan_end (by kernel_rfl) ?_
  refine GQ_end rfl .nil ?_
  intro w1 hS
  have hS := (hS.perm (Pulls.perm (.cons (.tail (.tail (.tail .head))) (.cons (.tail (.tail (.tail .head))) .nil)))).headL
  refine ⟨_, ⟨?gqTrue, rfl, ?hlTrue, ?hBTrue⟩, hS⟩
  case hBTrue => rw [Turn.happens, show T.event2 e = _ from if_t c1]; rfl
  case hlTrue => simp only [Turn.happens_len]; (try dsimp only at *); omega
 have c1p := kz c1
 refine G_skip ?_
 refine GQ_sub (.cons (k := 0) rfl (.cons (k := 3) rfl (.nil _))) ?_
 refine GQ_then ?_
 refine G_planN (N := 16) [0, 0, 2, 6, 14, 0, 32, 96, 224, 0, 992, 2016, 4094, 8191, 16383, 32767] mix (by kernel_rfl) rfl ?_
 refine Plan_float 0 rfl rfl (by kernel_rfl) (OK_s (EX_s (PS_move rfl))) ?_
 refine Plan_float 1 rfl rfl (by kernel_rfl) (OK_s (EX_s (PS_move rfl))) ?_
 refine Plan_float 2 rfl rfl (by kernel_rfl) (OK_s (EX_s (PS_nilCheck rfl))) ?_
 refine Plan_float 3 rfl rfl (by kernel_rfl) (OK_s (EX_s (PS_fieldAddr fa53_2 rfl))) ?_
 refine Plan_float 4 rfl rfl (by kernel_rfl) (OK_s (EX_s (PS_load rfl tys35 (.tail _ (.tail _ (.head _))) TurnV.l2 rfl rfl))) ?_
 refine Plan_float 5 rfl rfl (by kernel_rfl) (OK_s (EX_s (PS_move rfl))) ?_
 refine Plan_float 6 rfl rfl (by kernel_rfl) (OK_s (EX_s (PS_nilCheck rfl))) ?_
 refine Plan_float 7 rfl rfl (by kernel_rfl) (OK_s (EX_s (PS_fieldAddr fa53_0 rfl))) ?_
 refine Plan_float 8 rfl rfl (by kernel_rfl) (OK_s (EX_s (PS_loadA rfl tya34 (.tail _ (.tail _ (.head _))) TurnV.l0 rfl))) ?_
 refine Plan_float 9 rfl rfl (by kernel_rfl) (OK_s (EX_s (PS_loadA rfl tya60 (.tail _ (.head _)) (Lens.id Ing.Event.fl.len Ing.Event.fl.one) rfl))) ?_
 refine Plan_float 10 rfl rfl (by kernel_rfl) (OK_s (EX_c (PC_of cf54 (.cons rfl (.cons rfl .nil)) (fun w hS => sense_All_spec _ _ w)))) ?_
 refine Plan_chain 11 rfl (by kernel_rfl) ?_
 refine GL_bs1F Ing.Event.enc Ing.Event.fl rfl Tryz.underlying35 sz60 zv60 rfl (by decide) (by decide) rfl rfl (fun b4 => ?_)
 refine GL_hand rfl ⟨?_, ?_⟩
 · exact (Pend_skip (by kernel_rfl) (Pend_skip (by kernel_rfl) (Pend_skip (by kernel_rfl) (Pend_skip (by kernel_rfl) (Pend_skip (by kernel_rfl) (Pend_skip (by kernel_rfl) (Pend_okv rfl (OK_s (EX_s (PS_load rfl tys35 (.tail _ (.tail _ (.tail _ (.head _)))) TurnV.l2 rfl rfl))) rfl rfl (Pend_okv rfl (OK_s (EX_s (PS_fieldAddr fa53_2 rfl))) rfl rfl (Pend_okv rfl (OK_s (EX_s (PS_nilCheck rfl))) rfl rfl (Pend_okv rfl (OK_s (EX_s (PS_move rfl))) rfl rfl (Pend_okv rfl (OK_s (EX_s (PS_move rfl))) rfl rfl Pend_nil)))))))))))
 refine Plan_chain 12 rfl (by kernel_rfl) ?_
 refine GL_appendF Ing.Event.fl rfl Tryz.underlying35 sz60 zv60 rfl by60 (by decide) (by decide) rfl rfl (fun w hS => Src.sliceT Tryz.underlying35 ((Kn.own (.head _)) w hS)) (by (try dsimp only); omega) (fun _ => (.tail (.tail (.tail (.tail .head))))) (fun h2 h2l h2z => ?_)
 refine GL_hand rfl ⟨?_, ?_⟩
 · exact (Pend_skip (by kernel_rfl) (Pend_skip (by kernel_rfl) (Pend_skip (by kernel_rfl) (Pend_skip (by kernel_rfl) (Pend_skip (by kernel_rfl) (Pend_skip (by kernel_rfl) (Pend_skip (by kernel_rfl) (Pend_skip (by kernel_rfl) (Pend_skip (by kernel_rfl) (Pend_skip (by kernel_rfl) (Pend_okv rfl (OK_s (EX_s (PS_move rfl))) rfl rfl Pend_nil)))))))))))
 refine Plan_float 13 rfl rfl (by kernel_rfl) (OK_s (EX_s (PS_nilCheck rfl))) ?_
 refine Plan_float 14 rfl rfl (by kernel_rfl) (OK_s (EX_s (PS_fieldAddr fa53_2 rfl))) ?_
 refine Plan_chain 15 rfl (by kernel_rfl) ?_
 refine GL_unit (PU_store TurnV.l2 rfl rfl rfl sz35 rfl (.tail (.tail (.tail .head)))) ?_
 refine GL_hand0 rfl ⟨?_, ?_⟩
 · exact (Pend_skip (by kernel_rfl) (Pend_skip (by kernel_rfl) (Pend_skip (by kernel_rfl) (Pend_skip (by kernel_rfl) (Pend_skip (by kernel_rfl) (Pend_skip (by kernel_rfl) (Pend_skip (by kernel_rfl) (Pend_skip (by kernel_rfl) (Pend_skip (by kernel_rfl) (Pend_skip (by kernel_rfl) (Pend_skip (by kernel_rfl) (Pend_skip (by kernel_rfl) (Pend_skip (by kernel_rfl) Pend_nil)))))))))))))
 refine Plan_end (by kernel_rfl) ?_
 refine GQ_end rfl .nil ?_
 intro w1 hS
 have hS := (hS.perm (Pulls.perm (.cons (.tail (.tail (.tail .head))) (.cons (.tail (.tail (.tail .head))) .nil)))).headL
 refine ⟨_, ⟨?gqFalse, rfl, ?hlFalse, ?hBFalse⟩, hS⟩
 case hBFalse => rw [Turn.happens, show T.event2 e = _ from if_f c1]; rfl
 case hlFalse => simp only [Turn.happens_len]; (try dsimp only at *); omega
theorem rules_turn_event_spec (b : Nat) (T : Turn) (g : Hd) (k : Int) (hg : g.len = T.out.length) (hb : 0 ≤ T.b ∧ T.b < 6) (hn : T.out.length ≤ 100000) : Ctr Tryz.prog 17 #[.pointer (some ⟨b, 0, none⟩), .int .i64 k] [Res.box b 53 (TurnV.enc ⟨T.w, T.b, g⟩), Res.own g 60 16 (T.out.flatMap Ing.Event.enc)] (fun v B => ∃ g' : Hd, v = .tuple #[] ∧ g'.len = (T.kind k).out.length ∧ B = [Res.box b 53 (TurnV.enc ⟨(T.kind k).w, (T.kind k).b, g'⟩), Res.own g' 60 16 ((T.kind k).out.flatMap Ing.Event.enc)]) := by
 intro w hS0
 refine Ret_body _ _ Tryz.func17 rfl rfl rfl (hS0) ?_
 refine G_region ?_
 refine GL_step rfl (PS_move rfl) ?_
 refine GL_step rfl (PS_move rfl) ?_
 refine GL_step rfl (PS_build pl60 zv60 rfl (.cons Ing.Event.l0 rfl rfl rfl (.cons Ing.Event.l3 rfl rfl rfl .nil))) ?_
 refine GL_callL rfl cf23 (.cons rfl (.cons rfl .nil)) (.cons .head (.cons .head .nil)) (rules_turn_happens_spec _ _ _ (Turn.evk k) hg hb (show (-1 : Int) < 6 by decide) hn) (fun v1 B hv => ?_)
 obtain ⟨y2, rfl, y3, rfl⟩ := hv
 refine GL_nil ?_
 refine GQ_end rfl .nil ?_
 intro w1 hS
 have hS := (hS.perm (Pulls.perm (.cons .head (.cons .head .nil)))).headL
 exact ⟨_, ⟨_, rfl, by assumption, rfl⟩, hS⟩
theorem land_Has_spec (X : Land) (whr at_ : Int) : Ctr Tryz.prog 29 #[.agg X.enc.toArray, .int .i64 whr, .int .i64 at_] [] (fun v B => ∃ h' : Hd, v = h'.val ∧ h'.len = (X.has whr at_).length ∧ B = [Res.own h' 3 1 ((X.has whr at_).flatMap encI)]) := by
 intro w hS0
 refine Ret_body _ _ Tryz.func29 rfl rfl rfl (hS0) ?_
 refine G_seq ?_
 refine G_region ?_
 refine GL_box rfl rfl rfl (fun b1 => ?_)
 refine GL_step rfl (PS_assign rfl) ?_
 refine GL_nil ?_
 refine GQ_sub (.cons (k := 1) rfl (.cons (k := 2) rfl (.cons (k := 3) rfl (.nil _)))) ?_
 refine GQ_then ?_
 refine G_seq ?_
 refine G_region ?_
 refine GL_step rfl (PS_assign rfl) ?_
 refine GL_nil ?_
 refine GQ_then ?_
 refine G_seq ?_
 refine G_seq ?_
 refine G_region ?_
 refine GL_step rfl (PS_fieldAddr fa34_1 rfl) ?_
 refine GL_step rfl (PS_loadA rfl tya29 (.head _) Land.l1 rfl) ?_
 refine GL_step rfl (PS_move rfl) ?_
 refine GL_nil ?_
 refine GQ_sub (.cons (k := 1) rfl (.cons (k := 2) rfl (.cons (k := 7) rfl (.cons (k := 11) rfl (.cons (k := 12) rfl (.nil _)))))) ?_
 refine GQ_then ?_
 refine G_block ?_
 refine G_subF (.cons (k := 7) rfl (.cons (k := 12) rfl (.cons (k := 1) rfl (.cons (k := 2) rfl (.cons (k := 11) rfl (.nil _)))))) ?_
 refine G_nilF encI 3 1 ?_
 refine G_loop3_ (fun (k : Int) (xs : List Int) (g : Hd) => 0 ≤ k ∧ k ≤ 9 ∧ xs = X.hasL whr at_ k.toNat ∧ g.len = xs.length) (fun (k : Int) (xs : List Int) (g : Hd) => (9 - k).toNat) (fun (k : Int) (xs : List Int) (g : Hd) => [(7, g.val), (12, .int .i64 k)]) (fun (k : Int) (xs : List Int) (g : Hd) => [Res.own g 3 1 (xs.flatMap encI)]) (0) ([]) (_) ?_ rfl rfl (fun k xs g hI1 => ?_)
 · exact ⟨by omega, by omega, rfl, rfl⟩
 obtain ⟨hI11, hI12, hI13, hI14⟩ := hI1
 refine G_seq ?_
 refine G_region ?_
 refine GL_step rfl (PS_lss rfl rfl) ?_
 refine GL_nil ?_
 refine GQ_then ?_
 refine G_seq ?_
 refine G_cond rfl (fun c1 => ?_) (fun c1 => ?_)
 ·
  have c1p := kz c1
  have hxl := Land.hasL_len X whr at_ k.toNat
  rw [← hI13] at hxl
  refine G_skip ?_
  refine GQ_sub (.cons (k := 1) rfl (.cons (k := 2) rfl (.cons (k := 7) rfl (.cons (k := 11) rfl (.cons (k := 12) rfl (.nil _)))))) ?_
  refine GQ_then ?_
  refine G_seq ?_
  refine G_block ?_
  refine G_seq ?_
  refine G_region ?_
  refine GL_step rfl (PS_move rfl) ?_
  refine GL_step rfl (PS_indexAA Thing.fl Tryz.underlying29 tya28 rfl rfl (by omega) (by omega)) ?_
  refine GL_alloc rfl zv28 rfl (fun b2 => ?_)
  refine GL_step rfl (PS_assign rfl) ?_
  refine GL_unit (PU_store (Lens.id Thing.fl.len Thing.fl.one) rfl rfl rfl sz28 rfl .head) ?_
  refine GL_nil ?_
  refine GQ_sub (.cons (k := 1) rfl (.cons (k := 2) rfl (.cons (k := 7) rfl (.cons (k := 8) rfl (.cons (k := 9) rfl (.cons (k := 11) rfl (.cons (k := 12) rfl (.nil _)))))))) ?_
  refine GQ_then ?_
  refine G_seq ?_
  refine G_region ?_
  refine GL_step rfl (PS_fieldAddr fa28_2 rfl) ?_
  refine GL_step rfl (PS_load rfl tys3 (.head _) Thing.l2 rfl rfl) ?_
  refine GL_step rfl (PS_move rfl) ?_
  refine GL_step rfl (PS_eql rfl rfl) ?_
  refine GL_step rfl (PS_move rfl) ?_
  refine GL_gt (t := 20) rfl rfl rfl (fun q => PS_fieldAddr fa28_3 rfl) ?_
  refine GL_gt (t := 20) rfl rfl rfl (fun q => PS_load (cvE rfl q) tys3 (.head _) Thing.l3 rfl rfl) ?_
  refine GL_gt (t := 20) rfl rfl rfl (fun q => PS_move rfl) ?_
  refine GL_gt (t := 20) rfl rfl rfl (fun q => PS_eql (cvE rfl q) (cvE rfl q)) ?_
  refine GL_step rfl (PS_and rfl rfl (fun h => h)) ?_
  refine GL_nil ?_
  refine GQ_sub (.cons (k := 1) rfl (.cons (k := 2) rfl (.cons (k := 7) rfl (.cons (k := 8) rfl (.cons (k := 11) rfl (.cons (k := 12) rfl (.cons (k := 25) rfl (.nil _)))))))) ?_
  refine GQ_then ?_
  refine G_cond rfl (fun c2 => ?_) (fun c2 => ?_)
  ·
   have c2p := kz c2
   refine G_region ?_
   refine GL_step rfl (PS_move rfl) ?_
   refine GL_step rfl (PS_move rfl) ?_
   refine GL_bs1F encI flI rfl Tryz.underlying66 sz3 zv3 rfl (by decide) (by decide) rfl rfl (fun b3 => ?_)
   refine GL_appendF flI rfl Tryz.underlying66 sz3 zv3 rfl by3 (by decide) (by decide) rfl rfl (fun w hS => Src.sliceT Tryz.underlying66 ((Kn.own (.head _)) w hS)) (by (try dsimp only); omega) (fun _ => (.tail (.tail .head))) (fun h1 h1l h1z => ?_)
   refine GL_step rfl (PS_assign rfl) ?_
   refine GL_nil ?_
   refine GQ_sub (.cons (k := 1) rfl (.cons (k := 2) rfl (.cons (k := 7) rfl (.cons (k := 11) rfl (.cons (k := 12) rfl (.nil _)))))) ?_
   refine GQ_block ?_
   refine GQ_then ?_
   refine G_region ?_
   refine GL_step rfl (PS_add rfl rfl (IntWalk.i64_in _ (by omega))) ?_
   refine GL_step rfl (PS_move rfl) ?_
   refine GL_nil ?_
   refine GQ_sub (.cons (k := 1) rfl (.cons (k := 2) rfl (.cons (k := 7) rfl (.cons (k := 11) rfl (.cons (k := 12) rfl (.nil _)))))) ?_
   refine GQ_next3_ (k + 1) _ _ ?_ ?_ (.cons (k := 7) rfl (.cons (k := 12) rfl (.cons (k := 1) rfl (.cons (k := 2) rfl (.cons (k := 11) rfl (.nil _)))))) (.cons _ (.cons _ (.refl _)))
   · exact ⟨by omega, by omega, by rw [Land.hasL_t hI11 c2, ← hI13], (by (try dsimp only at *) <;> (try simp only [List.length_append, List.length_cons, List.length_nil]) <;> omega)⟩
   · omega
  have c2p := kz c2
  refine G_skip ?_
  refine GQ_sub (.cons (k := 1) rfl (.cons (k := 2) rfl (.cons (k := 7) rfl (.cons (k := 11) rfl (.cons (k := 12) rfl (.nil _)))))) ?_
  refine GQ_block ?_
  refine GQ_then ?_
  refine G_region ?_
  refine GL_step rfl (PS_add rfl rfl (IntWalk.i64_in _ (by omega))) ?_
  refine GL_step rfl (PS_move rfl) ?_
  refine GL_nil ?_
  refine GQ_sub (.cons (k := 1) rfl (.cons (k := 2) rfl (.cons (k := 7) rfl (.cons (k := 11) rfl (.cons (k := 12) rfl (.nil _)))))) ?_
  refine GQ_next3_ (k + 1) _ _ ?_ ?_ (.cons (k := 7) rfl (.cons (k := 12) rfl (.cons (k := 1) rfl (.cons (k := 2) rfl (.cons (k := 11) rfl (.nil _)))))) (.cons _ (.refl _))
  · exact ⟨by omega, by omega, by rw [Land.hasL_f hI11 c2, ← hI13], (by (try dsimp only at *) <;> (try simp only [List.length_append, List.length_cons, List.length_nil]) <;> omega)⟩
  · omega
 have c1p := kz c1
 obtain rfl : k = 9 := by omega
 refine G_exit ?_
 refine GQ_then_exit ?_
 refine GQ_then_exit ?_
 refine GQ_block_exit ?_
 refine GQ_sub (.cons (k := 7) rfl (.nil _)) ?_
 refine GQ_then ?_
 refine G_seq ?_
 refine G_region ?_
 refine GL_step rfl (PS_move rfl) ?_
 refine GL_step rfl (PS_assign rfl) ?_
 refine GL_nil ?_
 refine GQ_sub (.cons (k := 6) rfl (.nil _)) ?_
 refine GQ_then ?_
 refine G_ret ?_
 refine GQ_ret rfl (.tmp rfl .nil) ?_
 intro w1 hS
 have hS := (hS.perm (Pulls.perm (.cons .head .nil))).headL
 exact ⟨_, ⟨_, rfl, by rw [Land.has_eq, ← hI13]; assumption, by rw [Land.has_eq, ← hI13]⟩, hS⟩
theorem rules_turn_own_spec (b : Nat) (T : Turn) (g : Hd) (hF : T.Fit) : Ctr Tryz.prog 62 #[.pointer (some ⟨b, 0, none⟩)] [Res.box b 53 (TurnV.enc ⟨T.w, T.b, g⟩)] (fun v B => ∃ f : Hd, v = f.val ∧ f.len = (T.own).length ∧ B = [Res.box b 53 (TurnV.enc ⟨T.w, T.b, g⟩), Res.own f 3 1 ((T.own).flatMap encI)]) := by
 intro w hS0
 have hb := hF.b
 have hr := hF.room
 refine Ret_body _ _ Tryz.func62 rfl rfl rfl (hS0) ?_
 refine G_seq ?_
 refine G_region ?_
 refine GL_step rfl (PS_assign rfl) ?_
 refine GL_nil ?_
 refine GQ_sub (.cons (k := 0) rfl (.nil _)) ?_
 refine GQ_then ?_
 refine G_seq ?_
 refine G_planN (N := 10) [0, 1, 3, 7, 0, 16, 48, 112, 255, 511] mix (by kernel_rfl) rfl ?_
 refine Plan_float 0 rfl rfl (by kernel_rfl) (OK_s (EX_s (PS_move rfl))) ?_
 refine Plan_float 1 rfl rfl (by kernel_rfl) (OK_s (EX_s (PS_nilCheck rfl))) ?_
 refine Plan_float 2 rfl rfl (by kernel_rfl) (OK_s (EX_s (PS_fieldAddr fa53_0 rfl))) ?_
 refine Plan_float 3 rfl rfl (by kernel_rfl) (OK_s (EX_s (PS_loadA rfl tya34 (.head _) TurnV.l0 rfl))) ?_
 refine Plan_float 4 rfl rfl (by kernel_rfl) (OK_s (EX_s (PS_move rfl))) ?_
 refine Plan_float 5 rfl rfl (by kernel_rfl) (OK_s (EX_s (PS_nilCheck rfl))) ?_
 refine Plan_float 6 rfl rfl (by kernel_rfl) (OK_s (EX_s (PS_fieldAddr fa53_1 rfl))) ?_
 refine Plan_float 7 rfl rfl (by kernel_rfl) (OK_s (EX_s (PS_load rfl tys3 (.head _) TurnV.l1 rfl rfl))) ?_
 refine Plan_chain 8 rfl (by kernel_rfl) ?_
 refine GL_callL rfl cf29 (.cons rfl (.cons rfl (.cons rfl .nil))) .nil (land_Has_spec _ _ _) (fun v1 B hv => ?_)
 obtain ⟨y2, rfl, y3, rfl⟩ := hv
 refine GL_hand rfl ⟨?_, ?_⟩
 · exact (Pend_skip (by kernel_rfl) (Pend_skip (by kernel_rfl) (Pend_skip (by kernel_rfl) (Pend_skip (by kernel_rfl) (Pend_skip (by kernel_rfl) (Pend_skip (by kernel_rfl) (Pend_skip (by kernel_rfl) (Pend_skip (by kernel_rfl) Pend_nil))))))))
 refine Plan_float 9 rfl rfl (by kernel_rfl) (OK_s (EX_s (PS_assign rfl))) ?_
 refine Plan_end (by kernel_rfl) ?_
 refine GQ_sub (.cons (k := 2) rfl (.nil _)) ?_
 refine GQ_then ?_
 refine G_ret ?_
 refine GQ_ret rfl (.tmp rfl .nil) ?_
 intro w1 hS
 have hS := (hS.perm (Pulls.perm (.cons (.tail .head) (.cons .head .nil)))).headL
 exact ⟨_, ⟨_, rfl, by assumption, rfl⟩, hS⟩
theorem rules_turn_fall_spec (b : Nat) (T : Turn) (g : Hd) (hF : T.Fit) : Ctr Tryz.prog 55 #[.pointer (some ⟨b, 0, none⟩)] [Res.box b 53 (TurnV.enc ⟨T.w, T.b, g⟩)] (fun v B => ∃ F : Land, F = T.fall.w ∧ v = .tuple #[] ∧ B = [Res.box b 53 (TurnV.enc ⟨F, T.b, g⟩)]) := by
 intro w hS0
 have hb := hF.b
 have hr := hF.room
 have ho9 := T.own_len
 refine Ret_body _ _ Tryz.func55 rfl rfl rfl (hS0) ?_
 refine G_seq ?_
 refine G_seq ?_
 refine G_region ?_
 refine GL_step rfl (PS_move rfl) ?_
 refine GL_callL rfl cf62 (.cons rfl .nil) (.cons .head .nil) (rules_turn_own_spec _ _ _ (by first | assumption | omega)) (fun v1 B hv => ?_)
 obtain ⟨y2, rfl, y3, rfl⟩ := hv
 refine GL_step rfl (PS_len_slice rfl Tryz.underlying66 rfl) ?_
 refine GL_step rfl (PS_move rfl) ?_
 refine GL_nil ?_
 refine GQ_sub (.cons (k := 0) rfl (.cons (k := 7) rfl (.cons (k := 8) rfl (.cons (k := 9) rfl (.nil _))))) ?_
 refine GQ_then ?_
 refine G_block ?_
 refine G_subF (.cons (k := 9) rfl (.cons (k := 0) rfl (.cons (k := 7) rfl (.cons (k := 8) rfl (.nil _))))) ?_
 refine G_loop2_ (fun (k : Int) (X : Turn) => 0 ≤ k ∧ T.dropAll T.own = X.dropAll (T.own.drop k.toNat) ∧ X.b = T.b ∧ k ≤ (T.own.length : Int)) (fun (k : Int) (X : Turn) => ((T.own.length : Int) - k).toNat) (fun (k : Int) (X : Turn) => [(9, .int .i64 k)]) (fun (k : Int) (X : Turn) => [Res.box b 53 (TurnV.enc ⟨X.w, X.b, g⟩)]) (0) (_) ?_ rfl rfl (fun k X hI1 => ?_)
 · exact ⟨by omega, rfl, rfl, by omega⟩
 obtain ⟨hI11, hI12, hI13, hI14⟩ := hI1
 refine G_seq ?_
 refine G_region ?_
 refine GL_step rfl (PS_lss rfl rfl) ?_
 refine GL_nil ?_
 refine GQ_then ?_
 refine G_seq ?_
 refine G_cond rfl (fun c1 => ?_) (fun c1 => ?_)
 ·
  have c1p := kz c1
  have hx := Turn.own_rng (Line.getD_memI (xs := T.own) (i := k.toNat) (by omega))
  refine G_skip ?_
  refine GQ_sub (.cons (k := 0) rfl (.cons (k := 7) rfl (.cons (k := 8) rfl (.cons (k := 9) rfl (.nil _))))) ?_
  refine GQ_then ?_
  refine G_seq ?_
  refine G_block ?_
  refine G_seq ?_
  refine G_region ?_
  refine GL_step rfl (PS_idxS is66 (by decide) (Kn.own (.tail _ (.head _))) rfl rfl (by omega) (by omega)) ?_
  refine GL_step rfl (PS_ldInt rfl tys3 (Kn.own (.tail _ (.head _))) (by omega)) ?_
  refine GL_step rfl (PS_assign rfl) ?_
  refine GL_nil ?_
  refine GQ_sub (.cons (k := 0) rfl (.cons (k := 3) rfl (.cons (k := 7) rfl (.cons (k := 8) rfl (.cons (k := 9) rfl (.nil _)))))) ?_
  refine GQ_then ?_
  refine G_seq ?_
  refine G_region ?_
  refine GL_step rfl (PS_move rfl) ?_
  refine GL_step rfl (PS_move rfl) ?_
  refine GL_step rfl (PS_nilCheck rfl) ?_
  refine GL_step rfl (PS_fieldAddr fa53_0 rfl) ?_
  refine GL_step rfl (PS_fieldAddr fa34_1 rfl) ?_
  refine GL_step rfl (PS_indexAddr ia29 rfl rfl (by first | omega | (rw [hI13]; first | exact hb.1 | exact hb.2) | (dsimp only; omega)) (by first | omega | (rw [hI13]; first | exact hb.1 | exact hb.2) | (dsimp only; omega))) ?_
  refine GL_step rfl (PS_assign rfl) ?_
  refine GL_nil ?_
  refine GQ_sub (.cons (k := 0) rfl (.cons (k := 4) rfl (.cons (k := 7) rfl (.cons (k := 8) rfl (.cons (k := 9) rfl (.nil _)))))) ?_
  refine GQ_then ?_
  refine G_seq ?_
  refine G_seq ?_
  refine G_region ?_
  refine GL_step rfl (PS_move rfl) ?_
  refine GL_step rfl (PS_nilCheck rfl) ?_
  refine GL_step rfl (PS_fieldAddr fa28_1 rfl) ?_
  refine GL_step rfl (PS_load rfl tys3 (.head _) (((TurnV.l0.comp Land.l1).comp (Lens.arr (n := 9) Thing.fl (by first | omega | (rw [hI13]; first | exact hb.1 | exact hb.2) | (dsimp only; omega)) (by first | omega | (rw [hI13]; first | exact hb.1 | exact hb.2) | (dsimp only; omega)))).comp Thing.l1) rfl rfl) ?_
  refine GL_step rfl (PS_eql rfl rfl) ?_
  refine GL_nil ?_
  refine GQ_sub (.cons (k := 0) rfl (.cons (k := 4) rfl (.cons (k := 7) rfl (.cons (k := 8) rfl (.cons (k := 9) rfl (.cons (k := 23) rfl (.nil _))))))) ?_
  refine GQ_then ?_
  refine G_cond rfl (fun c2 => ?_) (fun c2 => ?_)
  ·
   have c2p := kz c2
   refine G_region ?_
   refine GL_step rfl (PS_move rfl) ?_
   refine GL_step rfl (PS_nilCheck rfl) ?_
   refine GL_step rfl (PS_fieldAddr fa28_4 rfl) ?_
   refine GL_unit (PU_store (((TurnV.l0.comp Land.l1).comp (Lens.arr (n := 9) Thing.fl (by first | omega | (rw [hI13]; first | exact hb.1 | exact hb.2) | (dsimp only; omega)) (by first | omega | (rw [hI13]; first | exact hb.1 | exact hb.2) | (dsimp only; omega)))).comp Thing.l4) rfl rfl rfl sz4 rfl .head) ?_
   refine GL_nil ?_
   refine GQ_sub (.cons (k := 0) rfl (.cons (k := 4) rfl (.cons (k := 7) rfl (.cons (k := 8) rfl (.cons (k := 9) rfl (.nil _)))))) ?_
   refine GQ_then ?_
   refine G_planN (N := 19) [0, 0, 0, 0, 8, 24, 56, 4, 132, 388, 1020, 2044, 4092, 8189, 16381, 32765, 65535, 131071, 262143] mix (by kernel_rfl) rfl ?_
   refine Plan_float 0 rfl rfl (by kernel_rfl) (OK_s (EX_s (PS_move rfl))) ?_
   refine Plan_float 1 rfl rfl (by kernel_rfl) (OK_s (EX_s (PS_move rfl))) ?_
   refine Plan_float 2 rfl rfl (by kernel_rfl) (OK_s (EX_s (PS_move rfl))) ?_
   refine Plan_float 3 rfl rfl (by kernel_rfl) (OK_s (EX_s (PS_move rfl))) ?_
   refine Plan_float 4 rfl rfl (by kernel_rfl) (OK_s (EX_s (PS_nilCheck rfl))) ?_
   refine Plan_float 5 rfl rfl (by kernel_rfl) (OK_s (EX_s (PS_fieldAddr fa53_1 rfl))) ?_
   refine Plan_float 6 rfl rfl (by kernel_rfl) (OK_s (EX_s (PS_load rfl tys3 (.head _) TurnV.l1 rfl rfl))) ?_
   refine Plan_float 7 rfl rfl (by kernel_rfl) (OK_s (EX_s (PS_nilCheck rfl))) ?_
   refine Plan_float 8 rfl rfl (by kernel_rfl) (OK_s (EX_s (PS_fieldAddr fa53_0 rfl))) ?_
   refine Plan_float 9 rfl rfl (by kernel_rfl) (OK_s (EX_s (PS_fieldAddr fa34_2 rfl))) ?_
   refine Plan_float 10 rfl rfl (by kernel_rfl) (OK_s (EX_s (PS_indexAddr ia32 rfl rfl (by first | omega | (rw [hI13]; first | exact hb.1 | exact hb.2) | (dsimp only; omega)) (by first | omega | (rw [hI13]; first | exact hb.1 | exact hb.2) | (dsimp only; omega))))) ?_
   refine Plan_float 11 rfl rfl (by kernel_rfl) (OK_s (EX_s (PS_fieldAddr fa31_3 rfl))) ?_
   refine Plan_float 12 rfl rfl (by kernel_rfl) (OK_s (EX_s (PS_load rfl tys3 (.head _) (((TurnV.l0.comp Land.l2).comp (Lens.arr (n := 6) Being.fl (by first | omega | (rw [hI13]; first | exact hb.1 | exact hb.2) | (dsimp only; omega)) (by first | omega | (rw [hI13]; first | exact hb.1 | exact hb.2) | (dsimp only; omega)))).comp Being.l3) rfl rfl))) ?_
   refine Plan_float 13 rfl rfl (by kernel_rfl) (OK_s (EX_s (PS_nilCheck rfl))) ?_
   refine Plan_float 14 rfl rfl (by kernel_rfl) (OK_s (EX_s (PS_fieldAddr fa28_2 rfl))) ?_
   refine Plan_chain 15 rfl (by kernel_rfl) ?_
   refine GL_unit (PU_store (((TurnV.l0.comp Land.l1).comp (Lens.arr (n := 9) Thing.fl (by first | omega | (rw [hI13]; first | exact hb.1 | exact hb.2) | (dsimp only; omega)) (by first | omega | (rw [hI13]; first | exact hb.1 | exact hb.2) | (dsimp only; omega)))).comp Thing.l2) rfl rfl rfl sz3 rfl .head) ?_
   refine GL_hand0 rfl ⟨?_, ?_⟩
   · exact (Pend_skip (by kernel_rfl) (Pend_skip (by kernel_rfl) (Pend_skip (by kernel_rfl) (Pend_skip (by kernel_rfl) (Pend_skip (by kernel_rfl) (Pend_skip (by kernel_rfl) (Pend_skip (by kernel_rfl) (Pend_skip (by kernel_rfl) (Pend_skip (by kernel_rfl) (Pend_skip (by kernel_rfl) (Pend_skip (by kernel_rfl) (Pend_skip (by kernel_rfl) (Pend_skip (by kernel_rfl) (Pend_okv rfl (OK_s (EX_s (PS_move rfl))) rfl rfl (Pend_skip (by kernel_rfl) Pend_nil)))))))))))))))
   refine Plan_float 16 rfl rfl (by kernel_rfl) (OK_s (EX_s (PS_nilCheck rfl))) ?_
   refine Plan_float 17 rfl rfl (by kernel_rfl) (OK_s (EX_s (PS_fieldAddr fa28_3 rfl))) ?_
   refine Plan_chain 18 rfl (by kernel_rfl) ?_
   refine GL_unit (PU_store (((TurnV.l0.comp Land.l1).comp (Lens.arr (n := 9) Thing.fl (by first | omega | (rw [hI13]; first | exact hb.1 | exact hb.2) | (dsimp only; omega)) (by first | omega | (rw [hI13]; first | exact hb.1 | exact hb.2) | (dsimp only; omega)))).comp Thing.l3) rfl rfl rfl sz3 rfl .head) ?_
   refine GL_hand0 rfl ⟨?_, ?_⟩
   · exact (Pend_skip (by kernel_rfl) (Pend_skip (by kernel_rfl) (Pend_skip (by kernel_rfl) (Pend_skip (by kernel_rfl) (Pend_skip (by kernel_rfl) (Pend_skip (by kernel_rfl) (Pend_skip (by kernel_rfl) (Pend_skip (by kernel_rfl) (Pend_skip (by kernel_rfl) (Pend_skip (by kernel_rfl) (Pend_skip (by kernel_rfl) (Pend_skip (by kernel_rfl) (Pend_skip (by kernel_rfl) (Pend_skip (by kernel_rfl) (Pend_skip (by kernel_rfl) (Pend_skip (by kernel_rfl) (Pend_skip (by kernel_rfl) Pend_nil)))))))))))))))))
   refine Plan_end (by kernel_rfl) ?_
   refine GQ_sub (.cons (k := 0) rfl (.cons (k := 7) rfl (.cons (k := 8) rfl (.cons (k := 9) rfl (.nil _))))) ?_
   refine GQ_block ?_
   refine GQ_then ?_
   refine G_swap (fun _ => .head) (congrArg (fun q => TurnV.enc ⟨q, _, _⟩) (Turn.dropOne_t X hx.1 hx.2 c2)) ?_
   refine G_region ?_
   refine GL_step rfl (PS_add rfl rfl (IntWalk.i64_in _ (by first | omega | (rw [hI13]; first | exact hb.1 | exact hb.2) | (dsimp only; omega)))) ?_
   refine GL_step rfl (PS_move rfl) ?_
   refine GL_nil ?_
   refine GQ_sub (.cons (k := 0) rfl (.cons (k := 7) rfl (.cons (k := 8) rfl (.cons (k := 9) rfl (.nil _))))) ?_
   refine GQ_next2_ (k + 1) _ ?_ ?_ (.cons (k := 9) rfl (.cons (k := 0) rfl (.cons (k := 7) rfl (.cons (k := 8) rfl (.nil _))))) (.refl _)
   · exact ⟨by omega, by rw [hI12, Turn.dropAll_step hI11 (by omega)], hI13, by omega⟩
   · omega
  have c2p := kz c2
  refine G_skip ?_
  refine GQ_sub (.cons (k := 0) rfl (.cons (k := 4) rfl (.cons (k := 7) rfl (.cons (k := 8) rfl (.cons (k := 9) rfl (.nil _)))))) ?_
  refine GQ_then ?_
  refine G_planN (N := 19) [0, 0, 0, 0, 8, 24, 56, 4, 132, 388, 1020, 2044, 4092, 8189, 16381, 32765, 65535, 131071, 262143] mix (by kernel_rfl) rfl ?_
  refine Plan_float 0 rfl rfl (by kernel_rfl) (OK_s (EX_s (PS_move rfl))) ?_
  refine Plan_float 1 rfl rfl (by kernel_rfl) (OK_s (EX_s (PS_move rfl))) ?_
  refine Plan_float 2 rfl rfl (by kernel_rfl) (OK_s (EX_s (PS_move rfl))) ?_
  refine Plan_float 3 rfl rfl (by kernel_rfl) (OK_s (EX_s (PS_move rfl))) ?_
  refine Plan_float 4 rfl rfl (by kernel_rfl) (OK_s (EX_s (PS_nilCheck rfl))) ?_
  refine Plan_float 5 rfl rfl (by kernel_rfl) (OK_s (EX_s (PS_fieldAddr fa53_1 rfl))) ?_
  refine Plan_float 6 rfl rfl (by kernel_rfl) (OK_s (EX_s (PS_load rfl tys3 (.head _) TurnV.l1 rfl rfl))) ?_
  refine Plan_float 7 rfl rfl (by kernel_rfl) (OK_s (EX_s (PS_nilCheck rfl))) ?_
  refine Plan_float 8 rfl rfl (by kernel_rfl) (OK_s (EX_s (PS_fieldAddr fa53_0 rfl))) ?_
  refine Plan_float 9 rfl rfl (by kernel_rfl) (OK_s (EX_s (PS_fieldAddr fa34_2 rfl))) ?_
  refine Plan_float 10 rfl rfl (by kernel_rfl) (OK_s (EX_s (PS_indexAddr ia32 rfl rfl (by first | omega | (rw [hI13]; first | exact hb.1 | exact hb.2) | (dsimp only; omega)) (by first | omega | (rw [hI13]; first | exact hb.1 | exact hb.2) | (dsimp only; omega))))) ?_
  refine Plan_float 11 rfl rfl (by kernel_rfl) (OK_s (EX_s (PS_fieldAddr fa31_3 rfl))) ?_
  refine Plan_float 12 rfl rfl (by kernel_rfl) (OK_s (EX_s (PS_load rfl tys3 (.head _) (((TurnV.l0.comp Land.l2).comp (Lens.arr (n := 6) Being.fl (by first | omega | (rw [hI13]; first | exact hb.1 | exact hb.2) | (dsimp only; omega)) (by first | omega | (rw [hI13]; first | exact hb.1 | exact hb.2) | (dsimp only; omega)))).comp Being.l3) rfl rfl))) ?_
  refine Plan_float 13 rfl rfl (by kernel_rfl) (OK_s (EX_s (PS_nilCheck rfl))) ?_
  refine Plan_float 14 rfl rfl (by kernel_rfl) (OK_s (EX_s (PS_fieldAddr fa28_2 rfl))) ?_
  refine Plan_chain 15 rfl (by kernel_rfl) ?_
  refine GL_unit (PU_store (((TurnV.l0.comp Land.l1).comp (Lens.arr (n := 9) Thing.fl (by first | omega | (rw [hI13]; first | exact hb.1 | exact hb.2) | (dsimp only; omega)) (by first | omega | (rw [hI13]; first | exact hb.1 | exact hb.2) | (dsimp only; omega)))).comp Thing.l2) rfl rfl rfl sz3 rfl .head) ?_
  refine GL_hand0 rfl ⟨?_, ?_⟩
  · exact (Pend_skip (by kernel_rfl) (Pend_skip (by kernel_rfl) (Pend_skip (by kernel_rfl) (Pend_skip (by kernel_rfl) (Pend_skip (by kernel_rfl) (Pend_skip (by kernel_rfl) (Pend_skip (by kernel_rfl) (Pend_skip (by kernel_rfl) (Pend_skip (by kernel_rfl) (Pend_skip (by kernel_rfl) (Pend_skip (by kernel_rfl) (Pend_skip (by kernel_rfl) (Pend_skip (by kernel_rfl) (Pend_okv rfl (OK_s (EX_s (PS_move rfl))) rfl rfl (Pend_skip (by kernel_rfl) Pend_nil)))))))))))))))
  refine Plan_float 16 rfl rfl (by kernel_rfl) (OK_s (EX_s (PS_nilCheck rfl))) ?_
  refine Plan_float 17 rfl rfl (by kernel_rfl) (OK_s (EX_s (PS_fieldAddr fa28_3 rfl))) ?_
  refine Plan_chain 18 rfl (by kernel_rfl) ?_
  refine GL_unit (PU_store (((TurnV.l0.comp Land.l1).comp (Lens.arr (n := 9) Thing.fl (by first | omega | (rw [hI13]; first | exact hb.1 | exact hb.2) | (dsimp only; omega)) (by first | omega | (rw [hI13]; first | exact hb.1 | exact hb.2) | (dsimp only; omega)))).comp Thing.l3) rfl rfl rfl sz3 rfl .head) ?_
  refine GL_hand0 rfl ⟨?_, ?_⟩
  · exact (Pend_skip (by kernel_rfl) (Pend_skip (by kernel_rfl) (Pend_skip (by kernel_rfl) (Pend_skip (by kernel_rfl) (Pend_skip (by kernel_rfl) (Pend_skip (by kernel_rfl) (Pend_skip (by kernel_rfl) (Pend_skip (by kernel_rfl) (Pend_skip (by kernel_rfl) (Pend_skip (by kernel_rfl) (Pend_skip (by kernel_rfl) (Pend_skip (by kernel_rfl) (Pend_skip (by kernel_rfl) (Pend_skip (by kernel_rfl) (Pend_skip (by kernel_rfl) (Pend_skip (by kernel_rfl) (Pend_skip (by kernel_rfl) Pend_nil)))))))))))))))))
  refine Plan_end (by kernel_rfl) ?_
  refine GQ_sub (.cons (k := 0) rfl (.cons (k := 7) rfl (.cons (k := 8) rfl (.cons (k := 9) rfl (.nil _))))) ?_
  refine GQ_block ?_
  refine GQ_then ?_
  refine G_swap (fun _ => .head) (congrArg (fun q => TurnV.enc ⟨q, _, _⟩) (Turn.dropOne_f X hx.1 hx.2 c2)) ?_
  refine G_region ?_
  refine GL_step rfl (PS_add rfl rfl (IntWalk.i64_in _ (by first | omega | (rw [hI13]; first | exact hb.1 | exact hb.2) | (dsimp only; omega)))) ?_
  refine GL_step rfl (PS_move rfl) ?_
  refine GL_nil ?_
  refine GQ_sub (.cons (k := 0) rfl (.cons (k := 7) rfl (.cons (k := 8) rfl (.cons (k := 9) rfl (.nil _))))) ?_
  refine GQ_next2_ (k + 1) _ ?_ ?_ (.cons (k := 9) rfl (.cons (k := 0) rfl (.cons (k := 7) rfl (.cons (k := 8) rfl (.nil _))))) (.refl _)
  · exact ⟨by omega, by rw [hI12, Turn.dropAll_step hI11 (by omega)], hI13, by omega⟩
  · omega
 have c1p := kz c1
 obtain rfl : k = (T.own.length : Int) := by omega
 rw [Turn.drop_end] at hI12
 have hY : X = T.dropAll T.own := hI12.symm
 refine G_exit ?_
 refine GQ_then_exit ?_
 refine GQ_then_exit ?_
 refine GQ_block_exit ?_
 refine GQ_sub (.cons (k := 0) rfl (.nil _)) ?_
 refine GQ_then ?_
 refine G_seq ?_
 refine G_seq ?_
 refine G_region ?_
 refine GL_step rfl (PS_move rfl) ?_
 refine GL_nil ?_
 refine GQ_then ?_
 refine G_block ?_
 refine G_subF (.cons (k := 45) rfl (.cons (k := 0) rfl (.nil _))) ?_
 refine G_loop2_ (fun (k : Int) (Y : Turn) => 0 ≤ k ∧ k ≤ 6 ∧ Y = (T.dropAll T.own).calmK k.toNat ∧ Y.b = T.b) (fun (k : Int) (Y : Turn) => (6 - k).toNat) (fun (k : Int) (Y : Turn) => [(45, .int .i64 k)]) (fun (k : Int) (Y : Turn) => [Res.box b 53 (TurnV.enc ⟨Y.w, Y.b, g⟩)]) (0) (_) ?_ rfl rfl (fun k Y hI2 => ?_)
 · exact ⟨by omega, by omega, hY, hI13⟩
 obtain ⟨hI21, hI22, hI23, hI24⟩ := hI2
 refine G_seq ?_
 refine G_region ?_
 refine GL_step rfl (PS_lss rfl rfl) ?_
 refine GL_nil ?_
 refine GQ_then ?_
 refine G_seq ?_
 refine G_cond rfl (fun c3 => ?_) (fun c3 => ?_)
 ·
  have c3p := kz c3
  refine G_skip ?_
  refine GQ_sub (.cons (k := 0) rfl (.cons (k := 45) rfl (.nil _))) ?_
  refine GQ_then ?_
  refine G_seq ?_
  refine G_block ?_
  refine G_seq ?_
  refine G_region ?_
  refine GL_step rfl (PS_move rfl) ?_
  refine GL_step rfl (PS_assign rfl) ?_
  refine GL_nil ?_
  refine GQ_sub (.cons (k := 0) rfl (.cons (k := 5) rfl (.cons (k := 45) rfl (.nil _)))) ?_
  refine GQ_then ?_
  refine G_seq ?_
  refine G_planN (N := 14) [0, 0, 1, 5, 13, 31, 63, 127, 0, 256, 768, 1792, 3840, 8191] mix (by kernel_rfl) rfl ?_
  refine Plan_float 0 rfl rfl (by kernel_rfl) (OK_s (EX_s (PS_move rfl))) ?_
  refine Plan_float 1 rfl rfl (by kernel_rfl) (OK_s (EX_s (PS_move rfl))) ?_
  refine Plan_float 2 rfl rfl (by kernel_rfl) (OK_s (EX_s (PS_nilCheck rfl))) ?_
  refine Plan_float 3 rfl rfl (by kernel_rfl) (OK_s (EX_s (PS_fieldAddr fa53_0 rfl))) ?_
  refine Plan_float 4 rfl rfl (by kernel_rfl) (OK_s (EX_s (PS_fieldAddr fa34_2 rfl))) ?_
  refine Plan_float 5 rfl rfl (by kernel_rfl) (OK_s (EX_s (PS_indexAddr ia32 rfl rfl (by first | omega | (rw [hI13]; first | exact hb.1 | exact hb.2) | (dsimp only; omega)) (by first | omega | (rw [hI13]; first | exact hb.1 | exact hb.2) | (dsimp only; omega))))) ?_
  refine Plan_float 6 rfl rfl (by kernel_rfl) (OK_s (EX_s (PS_fieldAddr fa31_5 rfl))) ?_
  refine Plan_float 7 rfl rfl (by kernel_rfl) (OK_s (EX_s (PS_load rfl tys3 (.head _) (((TurnV.l0.comp Land.l2).comp (Lens.arr (n := 6) Being.fl (by first | omega | (rw [hI13]; first | exact hb.1 | exact hb.2) | (dsimp only; omega)) (by first | omega | (rw [hI13]; first | exact hb.1 | exact hb.2) | (dsimp only; omega)))).comp Being.l5) rfl rfl))) ?_
  refine Plan_float 8 rfl rfl (by kernel_rfl) (OK_s (EX_s (PS_move rfl))) ?_
  refine Plan_float 9 rfl rfl (by kernel_rfl) (OK_s (EX_s (PS_nilCheck rfl))) ?_
  refine Plan_float 10 rfl rfl (by kernel_rfl) (OK_s (EX_s (PS_fieldAddr fa53_1 rfl))) ?_
  refine Plan_float 11 rfl rfl (by kernel_rfl) (OK_s (EX_s (PS_load rfl tys3 (.head _) TurnV.l1 rfl rfl))) ?_
  refine Plan_float 12 rfl rfl (by kernel_rfl) (OK_s (EX_s (PS_add rfl rfl (IntWalk.i64_in _ (by first | omega | (rw [hI13]; first | exact hb.1 | exact hb.2) | (dsimp only; omega)))))) ?_
  refine Plan_float 13 rfl rfl (by kernel_rfl) (OK_s (EX_s (PS_eql rfl rfl))) ?_
  refine Plan_end (by kernel_rfl) ?_
  refine GQ_sub (.cons (k := 0) rfl (.cons (k := 5) rfl (.cons (k := 45) rfl (.cons (k := 61) rfl (.nil _))))) ?_
  refine GQ_then ?_
  refine G_cond rfl (fun c4 => ?_) (fun c4 => ?_)
  ·
   have c4p := kz c4
   have hcb : decide ((Y.w.beings.at k).foe = (T.dropAll T.own).b + 1) = true := by rw [(Turn.dropAll_b T.own T).1, ← hI24]; exact c4
   refine G_region ?_
   refine GL_step rfl (PS_move rfl) ?_
   refine GL_step rfl (PS_move rfl) ?_
   refine GL_step rfl (PS_nilCheck rfl) ?_
   refine GL_step rfl (PS_fieldAddr fa53_0 rfl) ?_
   refine GL_step rfl (PS_fieldAddr fa34_2 rfl) ?_
   refine GL_step rfl (PS_indexAddr ia32 rfl rfl (by first | omega | (rw [hI13]; first | exact hb.1 | exact hb.2) | (dsimp only; omega)) (by first | omega | (rw [hI13]; first | exact hb.1 | exact hb.2) | (dsimp only; omega))) ?_
   refine GL_step rfl (PS_fieldAddr fa31_5 rfl) ?_
   refine GL_unit (PU_store (((TurnV.l0.comp Land.l2).comp (Lens.arr (n := 6) Being.fl (by first | omega | (rw [hI13]; first | exact hb.1 | exact hb.2) | (dsimp only; omega)) (by first | omega | (rw [hI13]; first | exact hb.1 | exact hb.2) | (dsimp only; omega)))).comp Being.l5) rfl rfl rfl sz3 rfl .head) ?_
   refine GL_nil ?_
   refine GQ_sub (.cons (k := 0) rfl (.cons (k := 45) rfl (.nil _))) ?_
   refine GQ_block ?_
   refine GQ_then ?_
   refine G_region ?_
   refine GL_step rfl (PS_add rfl rfl (IntWalk.i64_in _ (by first | omega | (rw [hI13]; first | exact hb.1 | exact hb.2) | (dsimp only; omega)))) ?_
   refine GL_step rfl (PS_move rfl) ?_
   refine GL_nil ?_
   refine GQ_sub (.cons (k := 0) rfl (.cons (k := 45) rfl (.nil _))) ?_
   refine GQ_next2_ (k + 1) (Y.setFoe k 0) ?_ ?_ (.cons (k := 45) rfl (.cons (k := 0) rfl (.nil _))) (.refl _)
   · exact ⟨by omega, by omega, by rw [Turn.calmK_step hI21, ← hI23, if_t hcb], hI24⟩
   · omega
  have c4p := kz c4
  have hcb : decide ((Y.w.beings.at k).foe = (T.dropAll T.own).b + 1) = false := by rw [(Turn.dropAll_b T.own T).1, ← hI24]; exact c4
  refine G_skip ?_
  refine GQ_sub (.cons (k := 0) rfl (.cons (k := 45) rfl (.nil _))) ?_
  refine GQ_block ?_
  refine GQ_then ?_
  refine G_region ?_
  refine GL_step rfl (PS_add rfl rfl (IntWalk.i64_in _ (by first | omega | (rw [hI13]; first | exact hb.1 | exact hb.2) | (dsimp only; omega)))) ?_
  refine GL_step rfl (PS_move rfl) ?_
  refine GL_nil ?_
  refine GQ_sub (.cons (k := 0) rfl (.cons (k := 45) rfl (.nil _))) ?_
  refine GQ_next2_ (k + 1) (Y) ?_ ?_ (.cons (k := 45) rfl (.cons (k := 0) rfl (.nil _))) (.refl _)
  · exact ⟨by omega, by omega, by rw [Turn.calmK_step hI21, ← hI23, if_f hcb], hI24⟩
  · omega
 have c3p := kz c3
 obtain rfl : k = 6 := by omega
 refine G_exit ?_
 refine GQ_then_exit ?_
 refine GQ_then_exit ?_
 refine GQ_block_exit ?_
 refine GQ_sub (.cons (k := 0) rfl (.nil _)) ?_
 refine GQ_then ?_
 refine G_planN (N := 11) [0, 0, 2, 6, 14, 1, 33, 97, 255, 511, 1023] mix (by kernel_rfl) rfl ?_
 refine Plan_float 0 rfl rfl (by kernel_rfl) (OK_s (EX_s (PS_move rfl))) ?_
 refine Plan_float 1 rfl rfl (by kernel_rfl) (OK_s (EX_s (PS_move rfl))) ?_
 refine Plan_float 2 rfl rfl (by kernel_rfl) (OK_s (EX_s (PS_nilCheck rfl))) ?_
 refine Plan_float 3 rfl rfl (by kernel_rfl) (OK_s (EX_s (PS_fieldAddr fa53_1 rfl))) ?_
 refine Plan_float 4 rfl rfl (by kernel_rfl) (OK_s (EX_s (PS_load rfl tys3 (.head _) TurnV.l1 rfl rfl))) ?_
 refine Plan_float 5 rfl rfl (by kernel_rfl) (OK_s (EX_s (PS_nilCheck rfl))) ?_
 refine Plan_float 6 rfl rfl (by kernel_rfl) (OK_s (EX_s (PS_fieldAddr fa53_0 rfl))) ?_
 refine Plan_float 7 rfl rfl (by kernel_rfl) (OK_s (EX_s (PS_fieldAddr fa34_2 rfl))) ?_
 refine Plan_float 8 rfl rfl (by kernel_rfl) (OK_s (EX_s (PS_indexAddr ia32 rfl rfl (by first | omega | (rw [hI13]; first | exact hb.1 | exact hb.2) | (dsimp only; omega)) (by first | omega | (rw [hI13]; first | exact hb.1 | exact hb.2) | (dsimp only; omega))))) ?_
 refine Plan_float 9 rfl rfl (by kernel_rfl) (OK_s (EX_s (PS_fieldAddr fa31_5 rfl))) ?_
 refine Plan_chain 10 rfl (by kernel_rfl) ?_
 refine GL_unit (PU_store (((TurnV.l0.comp Land.l2).comp (Lens.arr (n := 6) Being.fl (by first | omega | (rw [hI13]; first | exact hb.1 | exact hb.2) | (dsimp only; omega)) (by first | omega | (rw [hI13]; first | exact hb.1 | exact hb.2) | (dsimp only; omega)))).comp Being.l5) rfl rfl rfl sz3 rfl .head) ?_
 refine GL_hand0 rfl ⟨?_, ?_⟩
 · exact (Pend_skip (by kernel_rfl) (Pend_skip (by kernel_rfl) (Pend_skip (by kernel_rfl) (Pend_skip (by kernel_rfl) (Pend_skip (by kernel_rfl) (Pend_skip (by kernel_rfl) (Pend_skip (by kernel_rfl) (Pend_skip (by kernel_rfl) (Pend_skip (by kernel_rfl) (Pend_skip (by kernel_rfl) Pend_nil))))))))))
 refine Plan_end (by kernel_rfl) ?_
 refine GQ_end rfl .nil ?_
 intro w1 hS
 have hS := (hS.perm (Pulls.perm (.cons .head .nil))).headL
 have hq : T.fall = Y.setFoe Y.b 0 := by rw [hI24, hI23]; unfold Turn.fall; rfl
 exact ⟨_, ⟨_, rfl, rfl, by rw [hq, ← hI24]; rfl⟩, hS⟩
theorem rules_turn_tell_spec (b : Nat) (T : Turn) (g : Hd) (u : Str) (hg : g.len = T.out.length) (hb : 0 ≤ T.b ∧ T.b < 6) (hn : T.out.length ≤ 100000) : Ctr Tryz.prog 45 #[.pointer (some ⟨b, 0, none⟩), vstr u] [Res.box b 53 (TurnV.enc ⟨T.w, T.b, g⟩), Res.own g 60 16 (T.out.flatMap Ing.Event.enc)] (fun v B => ∃ g' : Hd, v = .tuple #[] ∧ g'.len = (T.tell u).out.length ∧ B = [Res.box b 53 (TurnV.enc ⟨(T.tell u).w, (T.tell u).b, g'⟩), Res.own g' 60 16 ((T.tell u).out.flatMap Ing.Event.enc)]) := by
 intro w hS0
 refine Ret_body _ _ Tryz.func45 rfl rfl rfl (hS0) ?_
 refine G_region ?_
 refine GL_step rfl (PS_move rfl) ?_
 refine GL_step rfl (PS_move rfl) ?_
 refine GL_step rfl (PS_build pl60 zv60 rfl (.cons Ing.Event.l0 rfl rfl rfl (.cons Ing.Event.l3 rfl rfl rfl (.cons Ing.Event.l9 rfl rfl rfl .nil)))) ?_
 refine GL_callL rfl cf23 (.cons rfl (.cons rfl .nil)) (.cons .head (.cons .head .nil)) (rules_turn_happens_spec _ _ _ { Turn.evk 16 with text := u } hg hb (show (-1 : Int) < 6 by decide) hn) (fun v1 B hv => ?_)
 obtain ⟨y2, rfl, y3, rfl⟩ := hv
 refine GL_nil ?_
 refine GQ_end rfl .nil ?_
 intro w1 hS
 have hS := (hS.perm (Pulls.perm (.cons .head (.cons .head .nil)))).headL
 exact ⟨_, ⟨_, rfl, by assumption, rfl⟩, hS⟩
theorem words_Called_spec (d : Int) (w : World) (gl0 : GV 1 Land.verbsV w) : Ret Tryz.prog 46 #[.int .i64 d] w fun v w' => v = vstr (Land.called d) ∧ Keep w w' := by
 refine Ret_body [] [] Tryz.func46 rfl rfl rfl (St.start w []) ?_
 refine G_seq ?_
 refine G_region ?_
 refine GL_step rfl (PS_assign rfl) ?_
 refine GL_nil ?_
 refine GQ_sub (.cons (k := 0) rfl (.nil _)) ?_
 refine GQ_then ?_
 refine G_seq ?_
 refine G_seq ?_
 refine G_region ?_
 refine GL_step rfl (PS_move rfl) ?_
 refine GL_step rfl (PS_lss rfl rfl) ?_
 refine GL_step rfl (PS_move rfl) ?_
 refine GL_gf (t := 5) rfl rfl rfl (fun q => PS_move rfl) ?_
 refine GL_gf (t := 5) rfl rfl rfl (fun q => PS_geq (cvE rfl (by rw [q]; rfl)) rfl) ?_
 refine GL_step rfl (PS_or rfl rfl (fun h => by rw [h]; rfl)) ?_
 refine GL_nil ?_
 refine GQ_sub (.cons (k := 0) rfl (.cons (k := 8) rfl (.nil _))) ?_
 refine GQ_then ?_
 refine G_cond rfl (fun c1 => ?_) (fun c1 => ?_)
 ·
  have c1p := kz c1
  refine G_seq ?_
  refine G_region ?_
  refine GL_step rfl (PS_assign rfl) ?_
  refine GL_nil ?_
  refine GQ_sub (.cons (k := 2) rfl (.nil _)) ?_
  refine GQ_then ?_
  refine G_ret ?_
  refine GQ_then_ret ?_
  refine GQ_ret rfl (.tmp rfl .nil) ?_
  intro w1 hS; refine ⟨?_, hS.toKeep⟩; rw [show Land.called d = _ from if_t c1]; rfl
 have c1p := kz c1
 have hr : 0 ≤ d ∧ d < 6 := by simp at c1; omega
 refine G_skip ?_
 refine GQ_sub (.cons (k := 0) rfl (.nil _)) ?_
 refine GQ_then ?_
 refine G_seq ?_
 refine G_region ?_
 refine GL_step rfl (PS_move rfl) ?_
 refine GL_step rfl (PS_indexAddr ia80 rfl rfl (by omega) (by omega)) ?_
 refine GL_step rfl (PS_ldGV gl0 rfl tys9 (Land.verbs_at hr.1 hr.2)) ?_
 refine GL_step rfl (PS_assign rfl) ?_
 refine GL_nil ?_
 refine GQ_sub (.cons (k := 2) rfl (.nil _)) ?_
 refine GQ_then ?_
 refine G_ret ?_
 refine GQ_ret rfl (.tmp rfl .nil) ?_
 intro w1 hS; refine ⟨?_, hS.toKeep⟩; rw [show Land.called d = _ from if_f c1]; rfl
theorem rules_turn_list_spec (b : Nat) (T : Turn) (g : Hd) (u : Str) (f : Hd) (l : List Int) (hg : g.len = T.out.length) (hb : 0 ≤ T.b ∧ T.b < 6) (hf : f.len = l.length) (hl : l.length ≤ 9) (hi : ∀ i ∈ l, 0 ≤ i ∧ i < 9) (hw : T.w.Brief) (hu : u.length ≤ 1000) (hn : T.out.length ≤ 100000) : Ctr Tryz.prog 28 #[.pointer (some ⟨b, 0, none⟩), vstr u, f.val] [Res.box b 53 (TurnV.enc ⟨T.w, T.b, g⟩), Res.own g 60 16 (T.out.flatMap Ing.Event.enc), Res.own f 3 1 (l.flatMap encI)] (fun v B => ∃ g' : Hd, v = .tuple #[] ∧ g'.len = (T.list u l).out.length ∧ B = [Res.box b 53 (TurnV.enc ⟨(T.list u l).w, (T.list u l).b, g'⟩), Res.own g' 60 16 ((T.list u l).out.flatMap Ing.Event.enc), Res.own f 3 1 (l.flatMap encI)]) := by
 intro w hS0
 refine Ret_body _ _ Tryz.func28 rfl rfl rfl (hS0) ?_
 refine G_seq ?_
 refine G_seq ?_
 refine G_region ?_
 refine GL_step rfl (PS_move rfl) ?_
 refine GL_step rfl (PS_len_slice rfl Tryz.underlying66 rfl) ?_
 refine GL_step rfl (PS_move rfl) ?_
 refine GL_nil ?_
 refine GQ_then ?_
 refine G_block ?_
 refine G_subF (.cons (k := 1) rfl (.cons (k := 10) rfl (.cons (k := 0) rfl (.cons (k := 2) rfl (.cons (k := 8) rfl (.cons (k := 9) rfl (.nil _))))))) ?_
 refine G_loop2_ (fun (k : Int) (x : Str) => 0 ≤ k ∧ k ≤ (l.length : Int) ∧ Turn.listS T.w u l = Turn.listS T.w x (l.drop k.toNat) ∧ x.length ≤ 1000 + k.toNat * 140737488351300) (fun (k : Int) (x : Str) => ((l.length : Int) - k).toNat) (fun (k : Int) (x : Str) => [(1, vstr x), (10, .int .i64 k)]) (fun (k : Int) (x : Str) => []) (0) (u) ?_ rfl rfl (fun k x hI1 => ?_)
 · exact ⟨by omega, by omega, by simp, by simp; omega⟩
 obtain ⟨hI11, hI12, hI13, hI14⟩ := hI1
 refine G_seq ?_
 refine G_region ?_
 refine GL_step rfl (PS_lss rfl rfl) ?_
 refine GL_nil ?_
 refine GQ_then ?_
 refine G_seq ?_
 refine G_cond rfl (fun c1 => ?_) (fun c1 => ?_)
 ·
  have c1p := kz c1
  have hx := hi _ (Line.getD_memI (xs := l) (i := k.toNat) (by omega))
  have hnl := hw.th (l.getD k.toNat 0)
  refine G_skip ?_
  refine GQ_sub (.cons (k := 0) rfl (.cons (k := 1) rfl (.cons (k := 2) rfl (.cons (k := 8) rfl (.cons (k := 9) rfl (.cons (k := 10) rfl (.nil _))))))) ?_
  refine GQ_then ?_
  refine G_seq ?_
  refine G_block ?_
  refine G_seq ?_
  refine G_region ?_
  refine GL_step rfl (PS_idxS is66 (by decide) (Kn.own (.tail _ (.tail _ (.head _)))) rfl rfl (by omega) (by omega)) ?_
  refine GL_step rfl (PS_ldInt rfl tys3 (Kn.own (.tail _ (.tail _ (.head _)))) (by omega)) ?_
  refine GL_step rfl (PS_assign rfl) ?_
  refine GL_nil ?_
  refine GQ_sub (.cons (k := 0) rfl (.cons (k := 1) rfl (.cons (k := 2) rfl (.cons (k := 7) rfl (.cons (k := 8) rfl (.cons (k := 9) rfl (.cons (k := 10) rfl (.nil _)))))))) ?_
  refine GQ_then ?_
  refine G_seq ?_
  refine G_region ?_
  refine GL_step rfl (PS_move rfl) ?_
  refine GL_step rfl (PS_move rfl) ?_
  refine GL_step rfl (PS_move rfl) ?_
  refine GL_step rfl (PS_nilCheck rfl) ?_
  refine GL_step rfl (PS_fieldAddr fa53_0 rfl) ?_
  refine GL_step rfl (PS_fieldAddr fa34_1 rfl) ?_
  refine GL_step rfl (PS_indexAddr ia29 rfl rfl (by (try dsimp only at *); (try simp only [List.length_append, List.length_cons, List.length_nil]); omega) (by (try dsimp only at *); (try simp only [List.length_append, List.length_cons, List.length_nil]); omega)) ?_
  refine GL_step rfl (PS_fieldAddr fa28_0 rfl) ?_
  refine GL_step rfl (PS_load rfl tys9 (.head _) (((TurnV.l0.comp Land.l1).comp (Lens.arr (n := 9) Thing.fl (by (try dsimp only at *); (try simp only [List.length_append, List.length_cons, List.length_nil]); omega) (by (try dsimp only at *); (try simp only [List.length_append, List.length_cons, List.length_nil]); omega))).comp Thing.l0) rfl rfl) ?_
  refine GL_step rfl (PS_add_str rfl rfl (by (try dsimp only at *); (try simp only [List.length_append, List.length_cons, List.length_nil]); omega)) ?_
  refine GL_step rfl (PS_add_str rfl rfl (by (try dsimp only at *); (try simp only [List.length_append, List.length_cons, List.length_nil]); omega)) ?_
  refine GL_step rfl (PS_assign rfl) ?_
  refine GL_nil ?_
  refine GQ_sub (.cons (k := 0) rfl (.cons (k := 1) rfl (.cons (k := 2) rfl (.cons (k := 7) rfl (.cons (k := 8) rfl (.cons (k := 9) rfl (.cons (k := 10) rfl (.nil _)))))))) ?_
  refine GQ_then ?_
  refine G_seq ?_
  refine G_region ?_
  refine GL_step rfl (PS_move rfl) ?_
  refine GL_step rfl (PS_move rfl) ?_
  refine GL_step rfl (PS_nilCheck rfl) ?_
  refine GL_step rfl (PS_fieldAddr fa53_0 rfl) ?_
  refine GL_step rfl (PS_fieldAddr fa34_1 rfl) ?_
  refine GL_step rfl (PS_indexAddr ia29 rfl rfl (by (try dsimp only at *); (try simp only [List.length_append, List.length_cons, List.length_nil]); omega) (by (try dsimp only at *); (try simp only [List.length_append, List.length_cons, List.length_nil]); omega)) ?_
  refine GL_step rfl (PS_fieldAddr fa28_4 rfl) ?_
  refine GL_step rfl (PS_load rfl tys4 (.head _) (((TurnV.l0.comp Land.l1).comp (Lens.arr (n := 9) Thing.fl (by (try dsimp only at *); (try simp only [List.length_append, List.length_cons, List.length_nil]); omega) (by (try dsimp only at *); (try simp only [List.length_append, List.length_cons, List.length_nil]); omega))).comp Thing.l4) rfl rfl) ?_
  refine GL_nil ?_
  refine GQ_sub (.cons (k := 0) rfl (.cons (k := 1) rfl (.cons (k := 2) rfl (.cons (k := 8) rfl (.cons (k := 9) rfl (.cons (k := 10) rfl (.cons (k := 32) rfl (.nil _)))))))) ?_
  refine GQ_then ?_
  refine G_cond rfl (fun c2 => ?_) (fun c2 => ?_)
  ·
   have c2p := kz c2
   refine G_region ?_
   refine GL_step rfl (PS_move rfl) ?_
   refine GL_step rfl (PS_add_str rfl rfl (by (try dsimp only at *); (try simp only [List.length_append, List.length_cons, List.length_nil]); omega)) ?_
   refine GL_step rfl (PS_assign rfl) ?_
   refine GL_nil ?_
   refine GQ_sub (.cons (k := 0) rfl (.cons (k := 1) rfl (.cons (k := 2) rfl (.cons (k := 8) rfl (.cons (k := 9) rfl (.cons (k := 10) rfl (.nil _))))))) ?_
   refine GQ_block ?_
   refine GQ_then ?_
   refine G_region ?_
   refine GL_step rfl (PS_add rfl rfl (IntWalk.i64_in _ (by (try dsimp only at *); (try simp only [List.length_append, List.length_cons, List.length_nil]); omega))) ?_
   refine GL_step rfl (PS_move rfl) ?_
   refine GL_nil ?_
   refine GQ_sub (.cons (k := 0) rfl (.cons (k := 1) rfl (.cons (k := 2) rfl (.cons (k := 8) rfl (.cons (k := 9) rfl (.cons (k := 10) rfl (.nil _))))))) ?_
   refine GQ_next2_ (k + 1) _ ?_ ?_ (.cons (k := 1) rfl (.cons (k := 10) rfl (.cons (k := 0) rfl (.cons (k := 2) rfl (.cons (k := 8) rfl (.cons (k := 9) rfl (.nil _))))))) (.refl _)
   · exact ⟨by omega, by omega, by rw [hI13, Turn.listS_t hI11 (by omega) c2], by simp only [List.length_append, List.length_cons, List.length_nil]; omega⟩
   · omega
  have c2p := kz c2
  refine G_skip ?_
  refine GQ_sub (.cons (k := 0) rfl (.cons (k := 1) rfl (.cons (k := 2) rfl (.cons (k := 8) rfl (.cons (k := 9) rfl (.cons (k := 10) rfl (.nil _))))))) ?_
  refine GQ_block ?_
  refine GQ_then ?_
  refine G_region ?_
  refine GL_step rfl (PS_add rfl rfl (IntWalk.i64_in _ (by (try dsimp only at *); (try simp only [List.length_append, List.length_cons, List.length_nil]); omega))) ?_
  refine GL_step rfl (PS_move rfl) ?_
  refine GL_nil ?_
  refine GQ_sub (.cons (k := 0) rfl (.cons (k := 1) rfl (.cons (k := 2) rfl (.cons (k := 8) rfl (.cons (k := 9) rfl (.cons (k := 10) rfl (.nil _))))))) ?_
  refine GQ_next2_ (k + 1) _ ?_ ?_ (.cons (k := 1) rfl (.cons (k := 10) rfl (.cons (k := 0) rfl (.cons (k := 2) rfl (.cons (k := 8) rfl (.cons (k := 9) rfl (.nil _))))))) (.refl _)
  · exact ⟨by omega, by omega, by rw [hI13, Turn.listS_f hI11 (by omega) c2], by simp only [List.length_append, List.length_cons, List.length_nil]; omega⟩
  · omega
 have c1p := kz c1
 obtain rfl : k = (l.length : Int) := by omega
 rw [show (l.length : Int).toNat = l.length by omega, List.drop_length] at hI13
 refine G_exit ?_
 refine GQ_then_exit ?_
 refine GQ_then_exit ?_
 refine GQ_block_exit ?_
 refine GQ_sub (.cons (k := 0) rfl (.cons (k := 1) rfl (.cons (k := 2) rfl (.nil _)))) ?_
 refine GQ_then ?_
 refine G_seq ?_
 refine G_seq ?_
 refine G_region ?_
 refine GL_step rfl (PS_move rfl) ?_
 refine GL_step rfl (PS_len_slice rfl Tryz.underlying66 rfl) ?_
 refine GL_step rfl (PS_eql rfl rfl) ?_
 refine GL_nil ?_
 refine GQ_sub (.cons (k := 0) rfl (.cons (k := 1) rfl (.cons (k := 38) rfl (.nil _)))) ?_
 refine GQ_then ?_
 refine G_cond rfl (fun c3 => ?_) (fun c3 => ?_)
 ·
  have c3p := kz c3
  rw [hf] at c3
  refine G_region ?_
  refine GL_step rfl (PS_move rfl) ?_
  refine GL_step rfl (PS_add_str rfl rfl (by (try dsimp only at *); (try simp only [List.length_append, List.length_cons, List.length_nil]); omega)) ?_
  refine GL_step rfl (PS_assign rfl) ?_
  refine GL_nil ?_
  refine GQ_sub (.cons (k := 0) rfl (.cons (k := 1) rfl (.nil _))) ?_
  refine GQ_then ?_
  refine G_region ?_
  refine GL_step rfl (PS_move rfl) ?_
  refine GL_step rfl (PS_move rfl) ?_
  refine GL_step rfl (PS_add_str rfl rfl (by (try dsimp only at *); (try simp only [List.length_append, List.length_cons, List.length_nil]); omega)) ?_
  refine GL_callL rfl cf45 (.cons rfl (.cons rfl .nil)) (.cons .head (.cons .head .nil)) (rules_turn_tell_spec _ _ _ _ hg hb hn) (fun v1 B hv => ?_)
  obtain ⟨y2, rfl, y3, rfl⟩ := hv
  refine GL_nil ?_
  refine GQ_end rfl .nil ?_
  intro w1 hS
  have hS := (hS.perm (Pulls.perm (.cons .head (.cons .head (.cons .head .nil))))).headL
  refine ⟨_, ⟨?gqTrue, rfl, ?hlTrue, ?hBTrue⟩, hS⟩
  case hBTrue => rw [Turn.list, show Turn.listT T.w u l = _ from if_t c3, hI13]; rfl
  case hlTrue => (try simp only [Turn.tell_len] at *); rw [(Turn.list_w T u l).2.2]; assumption
 have c3p := kz c3
 rw [hf] at c3
 refine G_skip ?_
 refine GQ_sub (.cons (k := 0) rfl (.cons (k := 1) rfl (.nil _))) ?_
 refine GQ_then ?_
 refine G_region ?_
 refine GL_step rfl (PS_move rfl) ?_
 refine GL_step rfl (PS_move rfl) ?_
 refine GL_step rfl (PS_add_str rfl rfl (by (try dsimp only at *); (try simp only [List.length_append, List.length_cons, List.length_nil]); omega)) ?_
 refine GL_callL rfl cf45 (.cons rfl (.cons rfl .nil)) (.cons .head (.cons .head .nil)) (rules_turn_tell_spec _ _ _ _ hg hb hn) (fun v4 B hv => ?_)
 obtain ⟨y5, rfl, y6, rfl⟩ := hv
 refine GL_nil ?_
 refine GQ_end rfl .nil ?_
 intro w1 hS
 have hS := (hS.perm (Pulls.perm (.cons .head (.cons .head (.cons .head .nil))))).headL
 refine ⟨_, ⟨?gqFalse, rfl, ?hlFalse, ?hBFalse⟩, hS⟩
 case hBFalse => rw [Turn.list, show Turn.listT T.w u l = _ from if_f c3, hI13]; rfl
 case hlFalse => (try simp only [Turn.tell_len] at *); rw [(Turn.list_w T u l).2.2]; assumption
theorem rules_turn_look_spec (b : Nat) (T : Turn) (g : Hd) (hg : g.len = T.out.length) (hb : 0 ≤ T.b ∧ T.b < 6) (hw : T.w.Brief) (hn : T.out.length ≤ 90000) : CtrR Tryz.prog 18 #[.pointer (some ⟨b, 0, none⟩)] [Res.box b 53 (TurnV.enc ⟨T.w, T.b, g⟩), Res.own g 60 16 (T.out.flatMap Ing.Event.enc)] (fun w => (GV 1 Land.verbsV w ∧ 1 ∉ feet [Res.box b 53 (TurnV.enc ⟨T.w, T.b, g⟩), Res.own g 60 16 (T.out.flatMap Ing.Event.enc)])) (fun v B => ∃ g' : Hd, v = .tuple #[] ∧ g'.len = (T.look).out.length ∧ B = [Res.box b 53 (TurnV.enc ⟨(T.look).w, (T.look).b, g'⟩), Res.own g' 60 16 ((T.look).out.flatMap Ing.Event.enc)]) := by
 intro w hS0 hH
 obtain ⟨gl0, gm0⟩ := hH
 refine Ret_body _ _ Tryz.func18 rfl rfl rfl (hS0) ?_
 refine G_seq ?_
 refine G_planN (N := 12) [0, 0, 2, 6, 14, 1, 33, 97, 255, 511, 0, 2047] mix (by kernel_rfl) rfl ?_
 refine Plan_float 0 rfl rfl (by kernel_rfl) (OK_s (EX_s (PS_move rfl))) ?_
 refine Plan_float 1 rfl rfl (by kernel_rfl) (OK_s (EX_s (PS_move rfl))) ?_
 refine Plan_float 2 rfl rfl (by kernel_rfl) (OK_s (EX_s (PS_nilCheck rfl))) ?_
 refine Plan_float 3 rfl rfl (by kernel_rfl) (OK_s (EX_s (PS_fieldAddr fa53_1 rfl))) ?_
 refine Plan_float 4 rfl rfl (by kernel_rfl) (OK_s (EX_s (PS_load rfl tys3 (.head _) TurnV.l1 rfl rfl))) ?_
 refine Plan_float 5 rfl rfl (by kernel_rfl) (OK_s (EX_s (PS_nilCheck rfl))) ?_
 refine Plan_float 6 rfl rfl (by kernel_rfl) (OK_s (EX_s (PS_fieldAddr fa53_0 rfl))) ?_
 refine Plan_float 7 rfl rfl (by kernel_rfl) (OK_s (EX_s (PS_fieldAddr fa34_2 rfl))) ?_
 refine Plan_float 8 rfl rfl (by kernel_rfl) (OK_s (EX_s (PS_indexAddr ia32 rfl rfl (by (try dsimp only at *); (try simp only [List.length_append, List.length_cons, List.length_nil]); omega) (by (try dsimp only at *); (try simp only [List.length_append, List.length_cons, List.length_nil]); omega)))) ?_
 refine Plan_float 9 rfl rfl (by kernel_rfl) (OK_s (EX_s (PS_loadA rfl tya31 (.head _) ((TurnV.l0.comp Land.l2).comp (Lens.arr (n := 6) Being.fl (by (try dsimp only at *); (try simp only [List.length_append, List.length_cons, List.length_nil]); omega) (by (try dsimp only at *); (try simp only [List.length_append, List.length_cons, List.length_nil]); omega))) rfl))) ?_
 refine Plan_chain 10 rfl (by kernel_rfl) ?_
 refine GL_alloc rfl zv31 rfl (fun b1 => ?_)
 refine GL_hand rfl ⟨?_, ?_⟩
 · exact (Pend_okv rfl (OK_s (EX_s (PS_loadA rfl tya31 (.tail _ (.head _)) ((TurnV.l0.comp Land.l2).comp (Lens.arr (n := 6) Being.fl (by (try dsimp only at *); (try simp only [List.length_append, List.length_cons, List.length_nil]); omega) (by (try dsimp only at *); (try simp only [List.length_append, List.length_cons, List.length_nil]); omega))) rfl))) rfl rfl (Pend_okv rfl (OK_s (EX_s (PS_indexAddr ia32 rfl rfl (by (try dsimp only at *); (try simp only [List.length_append, List.length_cons, List.length_nil]); omega) (by (try dsimp only at *); (try simp only [List.length_append, List.length_cons, List.length_nil]); omega)))) rfl rfl (Pend_okv rfl (OK_s (EX_s (PS_fieldAddr fa34_2 rfl))) rfl rfl (Pend_okv rfl (OK_s (EX_s (PS_fieldAddr fa53_0 rfl))) rfl rfl (Pend_okv rfl (OK_s (EX_s (PS_nilCheck rfl))) rfl rfl (Pend_okv rfl (OK_s (EX_s (PS_load rfl tys3 (.tail _ (.head _)) TurnV.l1 rfl rfl))) rfl rfl (Pend_okv rfl (OK_s (EX_s (PS_fieldAddr fa53_1 rfl))) rfl rfl (Pend_okv rfl (OK_s (EX_s (PS_nilCheck rfl))) rfl rfl (Pend_okv rfl (OK_s (EX_s (PS_move rfl))) rfl rfl (Pend_okv rfl (OK_s (EX_s (PS_move rfl))) rfl rfl Pend_nil))))))))))
 refine Plan_chain 11 rfl (by kernel_rfl) ?_
 refine GL_unit (PU_store (Lens.id Being.fl.len Being.fl.one) rfl rfl rfl sz31 rfl .head) ?_
 refine GL_hand0 rfl ⟨?_, ?_⟩
 · exact (Pend_skip (by kernel_rfl) (Pend_skip (by kernel_rfl) (Pend_skip (by kernel_rfl) (Pend_skip (by kernel_rfl) (Pend_skip (by kernel_rfl) (Pend_skip (by kernel_rfl) (Pend_skip (by kernel_rfl) (Pend_skip (by kernel_rfl) (Pend_skip (by kernel_rfl) (Pend_skip (by kernel_rfl) Pend_nil))))))))))
 refine Plan_end (by kernel_rfl) ?_
 refine GQ_sub (.cons (k := 0) rfl (.cons (k := 2) rfl (.nil _))) ?_
 refine GQ_then ?_
 refine G_seq ?_
 refine G_seq ?_
 refine G_planN (N := 8) [0, 1, 3, 7, 0, 16, 63, 127] mix (by kernel_rfl) rfl ?_
 refine Plan_float 0 rfl rfl (by kernel_rfl) (OK_s (EX_s (PS_move rfl))) ?_
 refine Plan_float 1 rfl rfl (by kernel_rfl) (OK_s (EX_s (PS_nilCheck rfl))) ?_
 refine Plan_float 2 rfl rfl (by kernel_rfl) (OK_s (EX_s (PS_fieldAddr fa53_0 rfl))) ?_
 refine Plan_float 3 rfl rfl (by kernel_rfl) (OK_s (EX_s (PS_loadA rfl tya34 (.tail _ (.head _)) TurnV.l0 rfl))) ?_
 refine Plan_float 4 rfl rfl (by kernel_rfl) (OK_s (EX_s (PS_fieldAddr fa31_3 rfl))) ?_
 refine Plan_float 5 rfl rfl (by kernel_rfl) (OK_s (EX_s (PS_load rfl tys3 (.head _) Being.l3 rfl rfl))) ?_
 refine Plan_float 6 rfl rfl (by kernel_rfl) (OK_s (EX_c (PC_of cf44 (.cons rfl (.cons rfl .nil)) (fun w hS => sense_Bright_spec _ _ w)))) ?_
 refine Plan_float 7 rfl rfl (by kernel_rfl) (OK_s (EX_s (PS_not rfl))) ?_
 refine Plan_end (by kernel_rfl) ?_
 refine GQ_sub (.cons (k := 0) rfl (.cons (k := 2) rfl (.cons (k := 26) rfl (.nil _)))) ?_
 refine GQ_then ?_
 refine G_cond rfl (fun c1 => ?_) (fun c1 => ?_)
 ·
  have c1p := kz c1
  refine G_seq ?_
  refine G_region ?_
  refine GL_step rfl (PS_move rfl) ?_
  refine GL_callL rfl cf45 (.cons rfl (.cons rfl .nil)) (.cons (.tail .head) (.cons (.tail .head) .nil)) (rules_turn_tell_spec _ _ _ _ (by assumption) (by first | exact hb | (rw [hXb]; exact hb)) (by (try simp only [Turn.tell_len, Turn.happens_len, (Turn.list_w _ _ _).2.2] at *); (try dsimp only at *); omega)) (fun v1 B hv => ?_)
  obtain ⟨y2, rfl, y3, rfl⟩ := hv
  refine GL_nil ?_
  refine GQ_sub (.nil _) ?_
  refine GQ_then ?_
  refine G_ret ?_
  refine GQ_then_ret ?_
  refine GQ_ret rfl .nil ?_
  intro w1 hS
  have hS := (hS.perm (Pulls.perm (.cons .head (.cons .head .nil)))).headL
  refine ⟨_, ⟨?gq1, rfl, ?hl1, ?hB1⟩, hS⟩
  case hB1 => rw [show T.look = _ from if_t c1]; rfl
  case hl1 => rw [show T.look = _ from if_t c1]; assumption
 have c1p := kz c1
 have hr := Land.bright_rng c1
 have hnr := hw.ro (T.w.beings.at T.b).room
 refine G_skip ?_
 refine GQ_sub (.cons (k := 0) rfl (.cons (k := 2) rfl (.nil _))) ?_
 refine GQ_then ?_
 refine G_seq ?_
 refine G_planN (N := 10) [0, 0, 2, 1, 9, 25, 63, 127, 0, 511] mix (by kernel_rfl) rfl ?_
 refine Plan_float 0 rfl rfl (by kernel_rfl) (OK_s (EX_s (PS_move rfl))) ?_
 refine Plan_float 1 rfl rfl (by kernel_rfl) (OK_s (EX_s (PS_fieldAddr fa31_3 rfl))) ?_
 refine Plan_float 2 rfl rfl (by kernel_rfl) (OK_s (EX_s (PS_load rfl tys3 (.head _) Being.l3 rfl rfl))) ?_
 refine Plan_float 3 rfl rfl (by kernel_rfl) (OK_s (EX_s (PS_nilCheck rfl))) ?_
 refine Plan_float 4 rfl rfl (by kernel_rfl) (OK_s (EX_s (PS_fieldAddr fa53_0 rfl))) ?_
 refine Plan_float 5 rfl rfl (by kernel_rfl) (OK_s (EX_s (PS_fieldAddr fa34_0 rfl))) ?_
 refine Plan_float 6 rfl rfl (by kernel_rfl) (OK_s (EX_s (PS_indexAddr ia26 rfl rfl (by (try dsimp only at *); (try simp only [List.length_append, List.length_cons, List.length_nil]); omega) (by (try dsimp only at *); (try simp only [List.length_append, List.length_cons, List.length_nil]); omega)))) ?_
 refine Plan_float 7 rfl rfl (by kernel_rfl) (OK_s (EX_s (PS_loadA rfl tya25 (.tail _ (.head _)) ((TurnV.l0.comp Land.l0).comp (Lens.arr (n := 6) Room.fl (by (try dsimp only at *); (try simp only [List.length_append, List.length_cons, List.length_nil]); omega) (by (try dsimp only at *); (try simp only [List.length_append, List.length_cons, List.length_nil]); omega))) rfl))) ?_
 refine Plan_chain 8 rfl (by kernel_rfl) ?_
 refine GL_alloc rfl zv25 rfl (fun b2 => ?_)
 refine GL_hand rfl ⟨?_, ?_⟩
 · exact (Pend_okv rfl (OK_s (EX_s (PS_loadA rfl tya25 (.tail _ (.tail _ (.head _))) ((TurnV.l0.comp Land.l0).comp (Lens.arr (n := 6) Room.fl (by (try dsimp only at *); (try simp only [List.length_append, List.length_cons, List.length_nil]); omega) (by (try dsimp only at *); (try simp only [List.length_append, List.length_cons, List.length_nil]); omega))) rfl))) rfl rfl (Pend_okv rfl (OK_s (EX_s (PS_indexAddr ia26 rfl rfl (by (try dsimp only at *); (try simp only [List.length_append, List.length_cons, List.length_nil]); omega) (by (try dsimp only at *); (try simp only [List.length_append, List.length_cons, List.length_nil]); omega)))) rfl rfl (Pend_okv rfl (OK_s (EX_s (PS_fieldAddr fa34_0 rfl))) rfl rfl (Pend_okv rfl (OK_s (EX_s (PS_fieldAddr fa53_0 rfl))) rfl rfl (Pend_okv rfl (OK_s (EX_s (PS_nilCheck rfl))) rfl rfl (Pend_okv rfl (OK_s (EX_s (PS_load rfl tys3 (.tail _ (.head _)) Being.l3 rfl rfl))) rfl rfl (Pend_okv rfl (OK_s (EX_s (PS_fieldAddr fa31_3 rfl))) rfl rfl (Pend_okv rfl (OK_s (EX_s (PS_move rfl))) rfl rfl Pend_nil))))))))
 refine Plan_chain 9 rfl (by kernel_rfl) ?_
 refine GL_unit (PU_store (Lens.id Room.fl.len Room.fl.one) rfl rfl rfl sz25 rfl .head) ?_
 refine GL_hand0 rfl ⟨?_, ?_⟩
 · exact (Pend_skip (by kernel_rfl) (Pend_skip (by kernel_rfl) (Pend_skip (by kernel_rfl) (Pend_skip (by kernel_rfl) (Pend_skip (by kernel_rfl) (Pend_skip (by kernel_rfl) (Pend_skip (by kernel_rfl) (Pend_skip (by kernel_rfl) Pend_nil))))))))
 refine Plan_end (by kernel_rfl) ?_
 refine GQ_sub (.cons (k := 0) rfl (.cons (k := 2) rfl (.cons (k := 3) rfl (.nil _)))) ?_
 refine GQ_then ?_
 refine G_seq ?_
 refine G_region ?_
 refine GL_step rfl (PS_move rfl) ?_
 refine GL_step rfl (PS_fieldAddr fa25_0 rfl) ?_
 refine GL_step rfl (PS_load rfl tys9 (.head _) Room.l0 rfl rfl) ?_
 refine GL_step rfl (PS_add_str rfl rfl (by (try dsimp only at *); (try simp only [List.length_append, List.length_cons, List.length_nil]); omega)) ?_
 refine GL_step rfl (PS_add_str rfl rfl (by (try dsimp only at *); (try simp only [List.length_append, List.length_cons, List.length_nil]); omega)) ?_
 refine GL_callL rfl cf45 (.cons rfl (.cons rfl .nil)) (.cons (.tail (.tail .head)) (.cons (.tail (.tail .head)) .nil)) (rules_turn_tell_spec _ _ _ _ (by assumption) (by first | exact hb | (rw [hXb]; exact hb)) (by (try simp only [Turn.tell_len, Turn.happens_len, (Turn.list_w _ _ _).2.2] at *); (try dsimp only at *); omega)) (fun v4 B hv => ?_)
 obtain ⟨y5, rfl, y6, rfl⟩ := hv
 refine GL_nil ?_
 refine GQ_sub (.cons (k := 0) rfl (.cons (k := 2) rfl (.cons (k := 3) rfl (.nil _)))) ?_
 refine GQ_then ?_
 refine G_seq ?_
 refine G_region ?_
 refine GL_step rfl (PS_assign rfl) ?_
 refine GL_nil ?_
 refine GQ_then ?_
 refine G_seq ?_
 refine G_seq ?_
 refine G_region ?_
 refine GL_step rfl (PS_fieldAddr fa25_2 rfl) ?_
 refine GL_step rfl (PS_loadA rfl tya22 (.tail _ (.tail _ (.head _))) Room.l2 rfl) ?_
 refine GL_step rfl (PS_move rfl) ?_
 refine GL_nil ?_
 refine GQ_sub (.cons (k := 0) rfl (.cons (k := 2) rfl (.cons (k := 3) rfl (.cons (k := 4) rfl (.cons (k := 44) rfl (.cons (k := 45) rfl (.nil _))))))) ?_
 refine GQ_then ?_
 refine G_block ?_
 refine G_subF (.cons (k := 4) rfl (.cons (k := 45) rfl (.cons (k := 0) rfl (.cons (k := 2) rfl (.cons (k := 3) rfl (.cons (k := 44) rfl (.nil _))))))) ?_
 refine G_loop2_ (fun (k : Int) (x : Str) => 0 ≤ k ∧ k ≤ 6 ∧ x = Turn.waysK (T.w.rooms.at T.me.room) k.toNat) (fun (k : Int) (x : Str) => (6 - k).toNat) (fun (k : Int) (x : Str) => [(4, vstr x), (45, .int .i64 k)]) (fun (k : Int) (x : Str) => []) (0) (_) ?_ rfl rfl (fun k x hI1 => ?_)
 · exact ⟨by omega, by omega, rfl⟩
 obtain ⟨hI11, hI12, hI13⟩ := hI1
 refine G_seq ?_
 refine G_region ?_
 refine GL_step rfl (PS_lss rfl rfl) ?_
 refine GL_nil ?_
 refine GQ_then ?_
 refine G_seq ?_
 refine G_cond rfl (fun c2 => ?_) (fun c2 => ?_)
 ·
  have c2p := kz c2
  have hcl := Land.called_len k
  have hwl := Turn.waysK_len (T.w.rooms.at T.me.room) k.toNat
  rw [← hI13] at hwl
  have hst := Turn.waysK_step (r := T.w.rooms.at T.me.room) hI11
  refine G_skip ?_
  refine GQ_sub (.cons (k := 0) rfl (.cons (k := 2) rfl (.cons (k := 3) rfl (.cons (k := 4) rfl (.cons (k := 44) rfl (.cons (k := 45) rfl (.nil _))))))) ?_
  refine GQ_then ?_
  refine G_seq ?_
  refine G_block ?_
  refine G_seq ?_
  refine G_region ?_
  refine GL_step rfl (PS_move rfl) ?_
  refine GL_step rfl (PS_indexA flI Tryz.underlying22 sz3 tys3 rfl rfl (by (try dsimp only at *); (try simp only [List.length_append, List.length_cons, List.length_nil]); omega) (by (try dsimp only at *); (try simp only [List.length_append, List.length_cons, List.length_nil]); omega) rfl) ?_
  refine GL_step rfl (PS_assign rfl) ?_
  refine GL_step rfl (PS_assign rfl) ?_
  refine GL_nil ?_
  refine GQ_sub (.cons (k := 0) rfl (.cons (k := 2) rfl (.cons (k := 3) rfl (.cons (k := 4) rfl (.cons (k := 5) rfl (.cons (k := 6) rfl (.cons (k := 44) rfl (.cons (k := 45) rfl (.nil _))))))))) ?_
  refine GQ_then ?_
  refine G_seq ?_
  refine G_seq ?_
  refine G_region ?_
  refine GL_step rfl (PS_move rfl) ?_
  refine GL_step rfl (PS_eql rfl rfl) ?_
  refine GL_nil ?_
  refine GQ_sub (.cons (k := 0) rfl (.cons (k := 2) rfl (.cons (k := 3) rfl (.cons (k := 4) rfl (.cons (k := 5) rfl (.cons (k := 44) rfl (.cons (k := 45) rfl (.cons (k := 50) rfl (.nil _))))))))) ?_
  refine GQ_then ?_
  refine G_cond rfl (fun c3 => ?_) (fun c3 => ?_)
  ·
   have c3p := kz c3
   have cp3 : decide ((T.w.rooms.at T.me.room).exits.at k = 0) = true := c3
   rw [if_t cp3] at hst
   refine G_exit ?_
   refine GQ_then_exit ?_
   refine GQ_block_exit ?_
   refine GQ_sub (.cons (k := 0) rfl (.cons (k := 2) rfl (.cons (k := 3) rfl (.cons (k := 4) rfl (.cons (k := 44) rfl (.cons (k := 45) rfl (.nil _))))))) ?_
   refine GQ_then ?_
   refine G_region ?_
   refine GL_step rfl (PS_add rfl rfl (IntWalk.i64_in _ (by (try dsimp only at *); (try simp only [List.length_append, List.length_cons, List.length_nil]); omega))) ?_
   refine GL_step rfl (PS_move rfl) ?_
   refine GL_nil ?_
   refine GQ_sub (.cons (k := 0) rfl (.cons (k := 2) rfl (.cons (k := 3) rfl (.cons (k := 4) rfl (.cons (k := 44) rfl (.cons (k := 45) rfl (.nil _))))))) ?_
   refine GQ_next2_ (k + 1) _ ?_ ?_ (.cons (k := 4) rfl (.cons (k := 45) rfl (.cons (k := 0) rfl (.cons (k := 2) rfl (.cons (k := 3) rfl (.cons (k := 44) rfl (.nil _))))))) (.refl _)
   · exact ⟨by omega, by omega, by rw [hst, ← hI13]⟩
   · omega
  have c3p := kz c3
  have cp3 : decide ((T.w.rooms.at T.me.room).exits.at k = 0) = false := c3
  rw [if_f cp3] at hst
  refine G_skip ?_
  refine GQ_sub (.cons (k := 0) rfl (.cons (k := 2) rfl (.cons (k := 3) rfl (.cons (k := 4) rfl (.cons (k := 5) rfl (.cons (k := 44) rfl (.cons (k := 45) rfl (.nil _)))))))) ?_
  refine GQ_then ?_
  refine G_seq ?_
  refine G_region ?_
  refine GL_step rfl (PS_move rfl) ?_
  refine GL_step rfl (PS_move rfl) ?_
  refine GL_pure rfl cf46 (.cons rfl .nil) (fun w hS => words_Called_spec _ w (gl0.stM gm0 hS)) ?_
  refine GL_step rfl (PS_add_str rfl rfl (by (try dsimp only at *); (try simp only [List.length_append, List.length_cons, List.length_nil]); omega)) ?_
  refine GL_step rfl (PS_add_str rfl rfl (by (try dsimp only at *); (try simp only [List.length_append, List.length_cons, List.length_nil]); omega)) ?_
  refine GL_step rfl (PS_assign rfl) ?_
  refine GL_nil ?_
  refine GQ_sub (.cons (k := 0) rfl (.cons (k := 2) rfl (.cons (k := 3) rfl (.cons (k := 4) rfl (.cons (k := 5) rfl (.cons (k := 44) rfl (.cons (k := 45) rfl (.nil _)))))))) ?_
  refine GQ_then ?_
  refine G_seq ?_
  refine G_region ?_
  refine GL_step rfl (PS_move rfl) ?_
  refine GL_step rfl (PS_fieldAddr fa25_3 rfl) ?_
  refine GL_step rfl (PS_indexAddr ia23 rfl rfl (by (try dsimp only at *); (try simp only [List.length_append, List.length_cons, List.length_nil]); omega) (by (try dsimp only at *); (try simp only [List.length_append, List.length_cons, List.length_nil]); omega)) ?_
  refine GL_step rfl (PS_load rfl tys4 (.tail _ (.tail _ (.head _))) (Room.l3.comp (Lens.arr (n := 6) flB (by (try dsimp only at *); (try simp only [List.length_append, List.length_cons, List.length_nil]); omega) (by (try dsimp only at *); (try simp only [List.length_append, List.length_cons, List.length_nil]); omega))) rfl rfl) ?_
  refine GL_nil ?_
  refine GQ_sub (.cons (k := 0) rfl (.cons (k := 2) rfl (.cons (k := 3) rfl (.cons (k := 4) rfl (.cons (k := 44) rfl (.cons (k := 45) rfl (.cons (k := 59) rfl (.nil _)))))))) ?_
  refine GQ_then ?_
  refine G_cond rfl (fun c4 => ?_) (fun c4 => ?_)
  ·
   have c4p := kz c4
   have cp4 : (T.w.rooms.at T.me.room).shut.at k = true := c4
   rw [if_t cp4] at hst
   refine G_region ?_
   refine GL_step rfl (PS_move rfl) ?_
   refine GL_step rfl (PS_add_str rfl rfl (by (try dsimp only at *); (try simp only [List.length_append, List.length_cons, List.length_nil]); omega)) ?_
   refine GL_step rfl (PS_assign rfl) ?_
   refine GL_nil ?_
   refine GQ_sub (.cons (k := 0) rfl (.cons (k := 2) rfl (.cons (k := 3) rfl (.cons (k := 4) rfl (.cons (k := 44) rfl (.cons (k := 45) rfl (.nil _))))))) ?_
   refine GQ_block ?_
   refine GQ_then ?_
   refine G_region ?_
   refine GL_step rfl (PS_add rfl rfl (IntWalk.i64_in _ (by (try dsimp only at *); (try simp only [List.length_append, List.length_cons, List.length_nil]); omega))) ?_
   refine GL_step rfl (PS_move rfl) ?_
   refine GL_nil ?_
   refine GQ_sub (.cons (k := 0) rfl (.cons (k := 2) rfl (.cons (k := 3) rfl (.cons (k := 4) rfl (.cons (k := 44) rfl (.cons (k := 45) rfl (.nil _))))))) ?_
   refine GQ_next2_ (k + 1) _ ?_ ?_ (.cons (k := 4) rfl (.cons (k := 45) rfl (.cons (k := 0) rfl (.cons (k := 2) rfl (.cons (k := 3) rfl (.cons (k := 44) rfl (.nil _))))))) (.refl _)
   · exact ⟨by omega, by omega, by rw [hst, ← hI13]⟩
   · omega
  have c4p := kz c4
  have cp4 : (T.w.rooms.at T.me.room).shut.at k = false := c4
  rw [if_f cp4] at hst
  refine G_skip ?_
  refine GQ_sub (.cons (k := 0) rfl (.cons (k := 2) rfl (.cons (k := 3) rfl (.cons (k := 4) rfl (.cons (k := 44) rfl (.cons (k := 45) rfl (.nil _))))))) ?_
  refine GQ_block ?_
  refine GQ_then ?_
  refine G_region ?_
  refine GL_step rfl (PS_add rfl rfl (IntWalk.i64_in _ (by (try dsimp only at *); (try simp only [List.length_append, List.length_cons, List.length_nil]); omega))) ?_
  refine GL_step rfl (PS_move rfl) ?_
  refine GL_nil ?_
  refine GQ_sub (.cons (k := 0) rfl (.cons (k := 2) rfl (.cons (k := 3) rfl (.cons (k := 4) rfl (.cons (k := 44) rfl (.cons (k := 45) rfl (.nil _))))))) ?_
  refine GQ_next2_ (k + 1) _ ?_ ?_ (.cons (k := 4) rfl (.cons (k := 45) rfl (.cons (k := 0) rfl (.cons (k := 2) rfl (.cons (k := 3) rfl (.cons (k := 44) rfl (.nil _))))))) (.refl _)
  · exact ⟨by omega, by omega, by rw [hst, ← hI13]⟩
  · omega
 have c2p := kz c2
 obtain rfl : k = 6 := by omega
 subst hI13
 refine G_exit ?_
 refine GQ_then_exit ?_
 refine GQ_then_exit ?_
 refine GQ_block_exit ?_
 refine GQ_sub (.cons (k := 0) rfl (.cons (k := 2) rfl (.cons (k := 4) rfl (.nil _)))) ?_
 refine GQ_then ?_
 refine G_seq ?_
 refine G_region ?_
 refine GL_step rfl (PS_move rfl) ?_
 refine GL_step rfl (PS_move rfl) ?_
 refine GL_callL rfl cf45 (.cons rfl (.cons rfl .nil)) (.cons .head (.cons .head .nil)) (rules_turn_tell_spec _ _ _ _ (by assumption) (by first | exact hb | (rw [hXb]; exact hb)) (by (try simp only [Turn.tell_len, Turn.happens_len, (Turn.list_w _ _ _).2.2] at *); (try dsimp only at *); omega)) (fun v7 B hv => ?_)
 obtain ⟨y8, rfl, y9, rfl⟩ := hv
 refine GL_nil ?_
 refine GQ_sub (.cons (k := 0) rfl (.cons (k := 2) rfl (.nil _))) ?_
 refine GQ_then ?_
 refine G_seq ?_
 refine G_seq ?_
 refine G_planN (N := 8) [0, 1, 3, 7, 0, 16, 63, 127] mix (by kernel_rfl) rfl ?_
 refine Plan_float 0 rfl rfl (by kernel_rfl) (OK_s (EX_s (PS_move rfl))) ?_
 refine Plan_float 1 rfl rfl (by kernel_rfl) (OK_s (EX_s (PS_nilCheck rfl))) ?_
 refine Plan_float 2 rfl rfl (by kernel_rfl) (OK_s (EX_s (PS_fieldAddr fa53_0 rfl))) ?_
 refine Plan_float 3 rfl rfl (by kernel_rfl) (OK_s (EX_s (PS_loadA rfl tya34 (.head _) TurnV.l0 rfl))) ?_
 refine Plan_float 4 rfl rfl (by kernel_rfl) (OK_s (EX_s (PS_fieldAddr fa31_3 rfl))) ?_
 refine Plan_float 5 rfl rfl (by kernel_rfl) (OK_s (EX_s (PS_load rfl tys3 (.tail _ (.tail _ (.tail _ (.head _)))) Being.l3 rfl rfl))) ?_
 refine Plan_chain 6 rfl (by kernel_rfl) ?_
 refine GL_callL rfl cf29 (.cons rfl (.cons rfl (.cons rfl .nil))) .nil (land_Has_spec _ _ _) (fun v10 B hv => ?_)
 obtain ⟨y11, rfl, y12, rfl⟩ := hv
 refine GL_hand rfl ⟨?_, ?_⟩
 · exact (Pend_skip (by kernel_rfl) (Pend_skip (by kernel_rfl) (Pend_skip (by kernel_rfl) (Pend_skip (by kernel_rfl) (Pend_skip (by kernel_rfl) (Pend_skip (by kernel_rfl) Pend_nil))))))
 refine Plan_float 7 rfl rfl (by kernel_rfl) (OK_s (EX_s (PS_assign rfl))) ?_
 refine Plan_end (by kernel_rfl) ?_
 refine GQ_sub (.cons (k := 0) rfl (.cons (k := 7) rfl (.nil _))) ?_
 refine GQ_then ?_
 refine G_seq ?_
 refine G_region ?_
 refine GL_step rfl (PS_move rfl) ?_
 refine GL_step rfl (PS_len_slice rfl Tryz.underlying66 rfl) ?_
 refine GL_step rfl (PS_gtr rfl rfl) ?_
 refine GL_nil ?_
 refine GQ_sub (.cons (k := 0) rfl (.cons (k := 7) rfl (.cons (k := 75) rfl (.nil _)))) ?_
 refine GQ_then ?_
 refine G_cond rfl (fun c5 => ?_) (fun c5 => ?_)
 ·
  have c5p := kz c5
  rw [y12] at c5
  refine G_region ?_
  refine GL_step rfl (PS_move rfl) ?_
  refine GL_step rfl (PS_move rfl) ?_
  refine GL_callL rfl cf28 (.cons rfl (.cons rfl (.cons rfl .nil))) (.cons (.tail .head) (.cons (.tail .head) (.cons .head .nil))) (rules_turn_list_spec _ T.lookA _ [72, 101, 114, 101, 32, 105, 115] _ (T.w.has 0 T.me.room) (by assumption) hb (by assumption) (Land.has_le _ _ _) (fun i hi => Land.has_mem hi) hw (by decide) (by rw [(Turn.lookA_w T).2.2]; omega)) (fun v14 B hv => ?_)
  obtain ⟨y15, rfl, y16, rfl⟩ := hv
  refine GL_nil ?_
  refine GQ_sub (.cons (k := 0) rfl (.nil _)) ?_
  refine GQ_then ?_
  refine G_seq ?_
  refine G_region ?_
  refine GL_step rfl (PS_move rfl) ?_
  refine GL_nil ?_
  refine GQ_then ?_
  refine G_block ?_
  refine G_subF (.cons (k := 79) rfl (.cons (k := 0) rfl (.nil _))) ?_
  refine G_pull (.tail .head) ?_
  refine G_pull (.tail .head) ?_
  refine G_loop3_ (fun (k : Int) (X : Turn) (h : Hd) => 0 ≤ k ∧ k ≤ 6 ∧ X = T.lookB.hereK k.toNat ∧ h.len = X.out.length) (fun (k : Int) (X : Turn) (h : Hd) => (6 - k).toNat) (fun (k : Int) (X : Turn) (h : Hd) => [(79, .int .i64 k)]) (fun (k : Int) (X : Turn) (h : Hd) => [Res.box b 53 (TurnV.enc ⟨X.w, X.b, h⟩), Res.own h 60 16 (X.out.flatMap Ing.Event.enc)]) (0) (_) (_) ?_ rfl rfl (fun k X h hI2 => ?_)
  · exact ⟨by omega, by omega, (show T.lookB = _ from if_t c5).symm, by assumption⟩
  obtain ⟨hI21, hI22, hI23, hI24⟩ := hI2
  refine G_seq ?_
  refine G_region ?_
  refine GL_step rfl (PS_lss rfl rfl) ?_
  refine GL_nil ?_
  refine GQ_then ?_
  refine G_seq ?_
  refine G_cond rfl (fun c6 => ?_) (fun c6 => ?_)
  ·
   have c6p := kz c6
   have hnb := hw.be k
   have hXl := Turn.hereK_w T.lookB k.toNat
   have hBl := Turn.lookB_w T
   rw [← hI23] at hXl
   have hXw : X.w = T.w := hXl.1.trans hBl.1
   have hXb : X.b = T.b := hXl.2.1.trans hBl.2.1
   rw [← hXw] at hnb
   refine G_skip ?_
   refine GQ_sub (.cons (k := 0) rfl (.cons (k := 79) rfl (.nil _))) ?_
   refine GQ_then ?_
   refine G_seq ?_
   refine G_block ?_
   refine G_seq ?_
   refine G_region ?_
   refine GL_step rfl (PS_move rfl) ?_
   refine GL_step rfl (PS_assign rfl) ?_
   refine GL_nil ?_
   refine GQ_sub (.cons (k := 0) rfl (.cons (k := 8) rfl (.cons (k := 79) rfl (.nil _)))) ?_
   refine GQ_then ?_
   refine G_seq ?_
   refine G_planN (N := 18) [0, 0, 2, 6, 14, 31, 63, 127, 255, 511, 1023, 127, 2175, 6271, 14463, 127, 65535, 131071] mix (by kernel_rfl) rfl ?_
   refine Plan_float 0 rfl rfl (by kernel_rfl) (OK_s (EX_s (PS_move rfl))) ?_
   refine Plan_float 1 rfl rfl (by kernel_rfl) (OK_s (EX_s (PS_move rfl))) ?_
   refine Plan_float 2 rfl rfl (by kernel_rfl) (OK_s (EX_s (PS_nilCheck rfl))) ?_
   refine Plan_float 3 rfl rfl (by kernel_rfl) (OK_s (EX_s (PS_fieldAddr fa53_1 rfl))) ?_
   refine Plan_float 4 rfl rfl (by kernel_rfl) (OK_s (EX_s (PS_load rfl tys3 (.head _) TurnV.l1 rfl rfl))) ?_
   refine Plan_float 5 rfl rfl (by kernel_rfl) (OK_s (EX_s (PS_neq rfl rfl))) ?_
   refine Plan_float 6 rfl rfl (by kernel_rfl) (OK_s (EX_s (PS_move rfl))) ?_
   refine Plan_float 7 rfl rfl (by kernel_rfl) (OK_gt (t := 88) rfl rfl (fun q => EX_s (PS_move rfl))) ?_
   refine Plan_float 8 rfl rfl (by kernel_rfl) (OK_gt (t := 88) rfl rfl (fun q => EX_s (PS_nilCheck (cvE rfl q)))) ?_
   refine Plan_float 9 rfl rfl (by kernel_rfl) (OK_gt (t := 88) rfl rfl (fun q => EX_s (PS_fieldAddr fa53_0 (cvE rfl q)))) ?_
   refine Plan_float 10 rfl rfl (by kernel_rfl) (OK_gt (t := 88) rfl rfl (fun q => EX_s (PS_loadA (cvE rfl q) tya34 (.head _) TurnV.l0 rfl))) ?_
   refine Plan_float 11 rfl rfl (by kernel_rfl) (OK_gt (t := 88) rfl rfl (fun q => EX_s (PS_move rfl))) ?_
   refine Plan_float 12 rfl rfl (by kernel_rfl) (OK_gt (t := 88) rfl rfl (fun q => EX_s (PS_nilCheck (cvE rfl q)))) ?_
   refine Plan_float 13 rfl rfl (by kernel_rfl) (OK_gt (t := 88) rfl rfl (fun q => EX_s (PS_fieldAddr fa53_1 (cvE rfl q)))) ?_
   refine Plan_float 14 rfl rfl (by kernel_rfl) (OK_gt (t := 88) rfl rfl (fun q => EX_s (PS_load (cvE rfl q) tys3 (.head _) TurnV.l1 rfl rfl))) ?_
   refine Plan_float 15 rfl rfl (by kernel_rfl) (OK_gt (t := 88) rfl rfl (fun q => EX_s (PS_move rfl))) ?_
   refine Plan_float 16 rfl rfl (by kernel_rfl) (OK_gt (t := 88) rfl rfl (fun q => EX_c (PC_of cf47 (.cons (cvE rfl q) (.cons (cvE rfl q) (.cons (cvE rfl q) .nil))) (fun w hS => sense_Sees_spec _ _ _ w)))) ?_
   refine Plan_float 17 rfl rfl (by kernel_rfl) (OK_s (EX_s (PS_and rfl rfl (fun h => h)))) ?_
   refine Plan_end (by kernel_rfl) ?_
   refine GQ_sub (.cons (k := 0) rfl (.cons (k := 8) rfl (.cons (k := 79) rfl (.cons (k := 99) rfl (.nil _))))) ?_
   refine GQ_then ?_
   refine G_cond rfl (fun c7 => ?_) (fun c7 => ?_)
   ·
    have c7p := kz c7
    have cp7 : (!decide (k = T.lookB.b) && T.lookB.w.sees T.lookB.b k) = true := by rw [hBl.1, hBl.2.1, ← hXw, ← hXb]; exact c7
    refine G_region ?_
    refine GL_step rfl (PS_move rfl) ?_
    refine GL_step rfl (PS_move rfl) ?_
    refine GL_step rfl (PS_move rfl) ?_
    refine GL_step rfl (PS_nilCheck rfl) ?_
    refine GL_step rfl (PS_fieldAddr fa53_0 rfl) ?_
    refine GL_step rfl (PS_fieldAddr fa34_2 rfl) ?_
    refine GL_step rfl (PS_indexAddr ia32 rfl rfl (by (try dsimp only at *); (try simp only [List.length_append, List.length_cons, List.length_nil]); omega) (by (try dsimp only at *); (try simp only [List.length_append, List.length_cons, List.length_nil]); omega)) ?_
    refine GL_step rfl (PS_fieldAddr fa31_0 rfl) ?_
    refine GL_step rfl (PS_load rfl tys9 (.head _) (((TurnV.l0.comp Land.l2).comp (Lens.arr (n := 6) Being.fl (by (try dsimp only at *); (try simp only [List.length_append, List.length_cons, List.length_nil]); omega) (by (try dsimp only at *); (try simp only [List.length_append, List.length_cons, List.length_nil]); omega))).comp Being.l0) rfl rfl) ?_
    refine GL_step rfl (PS_add_str rfl rfl (by (try dsimp only at *); (try simp only [List.length_append, List.length_cons, List.length_nil]); omega)) ?_
    refine GL_callL rfl cf45 (.cons rfl (.cons rfl .nil)) (.cons .head (.cons .head .nil)) (rules_turn_tell_spec _ _ _ _ (by assumption) (by first | exact hb | (rw [hXb]; exact hb)) (by (try simp only [Turn.tell_len, Turn.happens_len, (Turn.list_w _ _ _).2.2] at *); (try dsimp only at *); omega)) (fun v17 B hv => ?_)
    obtain ⟨y18, rfl, y19, rfl⟩ := hv
    refine GL_nil ?_
    refine GQ_sub (.cons (k := 0) rfl (.cons (k := 79) rfl (.nil _))) ?_
    refine GQ_block ?_
    refine GQ_then ?_
    refine G_region ?_
    refine GL_step rfl (PS_add rfl rfl (IntWalk.i64_in _ (by (try dsimp only at *); (try simp only [List.length_append, List.length_cons, List.length_nil]); omega))) ?_
    refine GL_step rfl (PS_move rfl) ?_
    refine GL_nil ?_
    refine GQ_sub (.cons (k := 0) rfl (.cons (k := 79) rfl (.nil _))) ?_
    refine GQ_next3_ (k + 1) _ _ ?_ ?_ (.cons (k := 79) rfl (.cons (k := 0) rfl (.nil _))) (.refl _)
    · exact ⟨by omega, by omega, by rw [Turn.hereK_step hI21, if_t cp7, ← hI23, hBl.1, ← hXw], by assumption⟩
    · omega
   have c7p := kz c7
   have cp7 : (!decide (k = T.lookB.b) && T.lookB.w.sees T.lookB.b k) = false := by rw [hBl.1, hBl.2.1, ← hXw, ← hXb]; exact c7
   refine G_skip ?_
   refine GQ_sub (.cons (k := 0) rfl (.cons (k := 79) rfl (.nil _))) ?_
   refine GQ_block ?_
   refine GQ_then ?_
   refine G_region ?_
   refine GL_step rfl (PS_add rfl rfl (IntWalk.i64_in _ (by (try dsimp only at *); (try simp only [List.length_append, List.length_cons, List.length_nil]); omega))) ?_
   refine GL_step rfl (PS_move rfl) ?_
   refine GL_nil ?_
   refine GQ_sub (.cons (k := 0) rfl (.cons (k := 79) rfl (.nil _))) ?_
   refine GQ_next3_ (k + 1) _ _ ?_ ?_ (.cons (k := 79) rfl (.cons (k := 0) rfl (.nil _))) (.refl _)
   · exact ⟨by omega, by omega, by rw [Turn.hereK_step hI21, if_f cp7, ← hI23], by assumption⟩
   · omega
  have c6p := kz c6
  obtain rfl : k = 6 := by omega
  refine G_exit ?_
  refine GQ_then_exit ?_
  refine GQ_then_exit ?_
  refine GQ_block_exit ?_
  refine GQ_end rfl .nil ?_
  intro w1 hS
  have hS := (hS.perm (Pulls.perm (.cons .head (.cons .head .nil)))).headL
  have hq : T.look = X := (show T.look = _ from if_f c1).trans hI23.symm
  refine ⟨_, ⟨?gqc6, rfl, ?hlc6, ?hBc6⟩, hS⟩
  case hBc6 => rw [hq]
  case hlc6 => rw [hq]; assumption
 have c5p := kz c5
 rw [y12] at c5
 refine G_skip ?_
 refine GQ_sub (.cons (k := 0) rfl (.nil _)) ?_
 refine GQ_then ?_
 refine G_seq ?_
 refine G_region ?_
 refine GL_step rfl (PS_move rfl) ?_
 refine GL_nil ?_
 refine GQ_then ?_
 refine G_block ?_
 refine G_subF (.cons (k := 79) rfl (.cons (k := 0) rfl (.nil _))) ?_
 refine G_pull (.tail (.tail .head)) ?_
 refine G_pull (.tail (.tail .head)) ?_
 refine G_loop3_ (fun (k : Int) (X : Turn) (h : Hd) => 0 ≤ k ∧ k ≤ 6 ∧ X = T.lookB.hereK k.toNat ∧ h.len = X.out.length) (fun (k : Int) (X : Turn) (h : Hd) => (6 - k).toNat) (fun (k : Int) (X : Turn) (h : Hd) => [(79, .int .i64 k)]) (fun (k : Int) (X : Turn) (h : Hd) => [Res.box b 53 (TurnV.enc ⟨X.w, X.b, h⟩), Res.own h 60 16 (X.out.flatMap Ing.Event.enc)]) (0) (_) (_) ?_ rfl rfl (fun k X h hI2 => ?_)
 · exact ⟨by omega, by omega, (show T.lookB = _ from if_f c5).symm, by assumption⟩
 obtain ⟨hI21, hI22, hI23, hI24⟩ := hI2
 refine G_seq ?_
 refine G_region ?_
 refine GL_step rfl (PS_lss rfl rfl) ?_
 refine GL_nil ?_
 refine GQ_then ?_
 refine G_seq ?_
 refine G_cond rfl (fun c8 => ?_) (fun c8 => ?_)
 ·
  have c8p := kz c8
  have hnb := hw.be k
  have hXl := Turn.hereK_w T.lookB k.toNat
  have hBl := Turn.lookB_w T
  rw [← hI23] at hXl
  have hXw : X.w = T.w := hXl.1.trans hBl.1
  have hXb : X.b = T.b := hXl.2.1.trans hBl.2.1
  rw [← hXw] at hnb
  refine G_skip ?_
  refine GQ_sub (.cons (k := 0) rfl (.cons (k := 79) rfl (.nil _))) ?_
  refine GQ_then ?_
  refine G_seq ?_
  refine G_block ?_
  refine G_seq ?_
  refine G_region ?_
  refine GL_step rfl (PS_move rfl) ?_
  refine GL_step rfl (PS_assign rfl) ?_
  refine GL_nil ?_
  refine GQ_sub (.cons (k := 0) rfl (.cons (k := 8) rfl (.cons (k := 79) rfl (.nil _)))) ?_
  refine GQ_then ?_
  refine G_seq ?_
  refine G_planN (N := 18) [0, 0, 2, 6, 14, 31, 63, 127, 255, 511, 1023, 127, 2175, 6271, 14463, 127, 65535, 131071] mix (by kernel_rfl) rfl ?_
  refine Plan_float 0 rfl rfl (by kernel_rfl) (OK_s (EX_s (PS_move rfl))) ?_
  refine Plan_float 1 rfl rfl (by kernel_rfl) (OK_s (EX_s (PS_move rfl))) ?_
  refine Plan_float 2 rfl rfl (by kernel_rfl) (OK_s (EX_s (PS_nilCheck rfl))) ?_
  refine Plan_float 3 rfl rfl (by kernel_rfl) (OK_s (EX_s (PS_fieldAddr fa53_1 rfl))) ?_
  refine Plan_float 4 rfl rfl (by kernel_rfl) (OK_s (EX_s (PS_load rfl tys3 (.head _) TurnV.l1 rfl rfl))) ?_
  refine Plan_float 5 rfl rfl (by kernel_rfl) (OK_s (EX_s (PS_neq rfl rfl))) ?_
  refine Plan_float 6 rfl rfl (by kernel_rfl) (OK_s (EX_s (PS_move rfl))) ?_
  refine Plan_float 7 rfl rfl (by kernel_rfl) (OK_gt (t := 88) rfl rfl (fun q => EX_s (PS_move rfl))) ?_
  refine Plan_float 8 rfl rfl (by kernel_rfl) (OK_gt (t := 88) rfl rfl (fun q => EX_s (PS_nilCheck (cvE rfl q)))) ?_
  refine Plan_float 9 rfl rfl (by kernel_rfl) (OK_gt (t := 88) rfl rfl (fun q => EX_s (PS_fieldAddr fa53_0 (cvE rfl q)))) ?_
  refine Plan_float 10 rfl rfl (by kernel_rfl) (OK_gt (t := 88) rfl rfl (fun q => EX_s (PS_loadA (cvE rfl q) tya34 (.head _) TurnV.l0 rfl))) ?_
  refine Plan_float 11 rfl rfl (by kernel_rfl) (OK_gt (t := 88) rfl rfl (fun q => EX_s (PS_move rfl))) ?_
  refine Plan_float 12 rfl rfl (by kernel_rfl) (OK_gt (t := 88) rfl rfl (fun q => EX_s (PS_nilCheck (cvE rfl q)))) ?_
  refine Plan_float 13 rfl rfl (by kernel_rfl) (OK_gt (t := 88) rfl rfl (fun q => EX_s (PS_fieldAddr fa53_1 (cvE rfl q)))) ?_
  refine Plan_float 14 rfl rfl (by kernel_rfl) (OK_gt (t := 88) rfl rfl (fun q => EX_s (PS_load (cvE rfl q) tys3 (.head _) TurnV.l1 rfl rfl))) ?_
  refine Plan_float 15 rfl rfl (by kernel_rfl) (OK_gt (t := 88) rfl rfl (fun q => EX_s (PS_move rfl))) ?_
  refine Plan_float 16 rfl rfl (by kernel_rfl) (OK_gt (t := 88) rfl rfl (fun q => EX_c (PC_of cf47 (.cons (cvE rfl q) (.cons (cvE rfl q) (.cons (cvE rfl q) .nil))) (fun w hS => sense_Sees_spec _ _ _ w)))) ?_
  refine Plan_float 17 rfl rfl (by kernel_rfl) (OK_s (EX_s (PS_and rfl rfl (fun h => h)))) ?_
  refine Plan_end (by kernel_rfl) ?_
  refine GQ_sub (.cons (k := 0) rfl (.cons (k := 8) rfl (.cons (k := 79) rfl (.cons (k := 99) rfl (.nil _))))) ?_
  refine GQ_then ?_
  refine G_cond rfl (fun c9 => ?_) (fun c9 => ?_)
  ·
   have c9p := kz c9
   have cp7 : (!decide (k = T.lookB.b) && T.lookB.w.sees T.lookB.b k) = true := by rw [hBl.1, hBl.2.1, ← hXw, ← hXb]; exact c9
   refine G_region ?_
   refine GL_step rfl (PS_move rfl) ?_
   refine GL_step rfl (PS_move rfl) ?_
   refine GL_step rfl (PS_move rfl) ?_
   refine GL_step rfl (PS_nilCheck rfl) ?_
   refine GL_step rfl (PS_fieldAddr fa53_0 rfl) ?_
   refine GL_step rfl (PS_fieldAddr fa34_2 rfl) ?_
   refine GL_step rfl (PS_indexAddr ia32 rfl rfl (by (try dsimp only at *); (try simp only [List.length_append, List.length_cons, List.length_nil]); omega) (by (try dsimp only at *); (try simp only [List.length_append, List.length_cons, List.length_nil]); omega)) ?_
   refine GL_step rfl (PS_fieldAddr fa31_0 rfl) ?_
   refine GL_step rfl (PS_load rfl tys9 (.head _) (((TurnV.l0.comp Land.l2).comp (Lens.arr (n := 6) Being.fl (by (try dsimp only at *); (try simp only [List.length_append, List.length_cons, List.length_nil]); omega) (by (try dsimp only at *); (try simp only [List.length_append, List.length_cons, List.length_nil]); omega))).comp Being.l0) rfl rfl) ?_
   refine GL_step rfl (PS_add_str rfl rfl (by (try dsimp only at *); (try simp only [List.length_append, List.length_cons, List.length_nil]); omega)) ?_
   refine GL_callL rfl cf45 (.cons rfl (.cons rfl .nil)) (.cons .head (.cons .head .nil)) (rules_turn_tell_spec _ _ _ _ (by assumption) (by first | exact hb | (rw [hXb]; exact hb)) (by (try simp only [Turn.tell_len, Turn.happens_len, (Turn.list_w _ _ _).2.2] at *); (try dsimp only at *); omega)) (fun v20 B hv => ?_)
   obtain ⟨y21, rfl, y22, rfl⟩ := hv
   refine GL_nil ?_
   refine GQ_sub (.cons (k := 0) rfl (.cons (k := 79) rfl (.nil _))) ?_
   refine GQ_block ?_
   refine GQ_then ?_
   refine G_region ?_
   refine GL_step rfl (PS_add rfl rfl (IntWalk.i64_in _ (by (try dsimp only at *); (try simp only [List.length_append, List.length_cons, List.length_nil]); omega))) ?_
   refine GL_step rfl (PS_move rfl) ?_
   refine GL_nil ?_
   refine GQ_sub (.cons (k := 0) rfl (.cons (k := 79) rfl (.nil _))) ?_
   refine GQ_next3_ (k + 1) _ _ ?_ ?_ (.cons (k := 79) rfl (.cons (k := 0) rfl (.nil _))) (.refl _)
   · exact ⟨by omega, by omega, by rw [Turn.hereK_step hI21, if_t cp7, ← hI23, hBl.1, ← hXw], by assumption⟩
   · omega
  have c9p := kz c9
  have cp7 : (!decide (k = T.lookB.b) && T.lookB.w.sees T.lookB.b k) = false := by rw [hBl.1, hBl.2.1, ← hXw, ← hXb]; exact c9
  refine G_skip ?_
  refine GQ_sub (.cons (k := 0) rfl (.cons (k := 79) rfl (.nil _))) ?_
  refine GQ_block ?_
  refine GQ_then ?_
  refine G_region ?_
  refine GL_step rfl (PS_add rfl rfl (IntWalk.i64_in _ (by (try dsimp only at *); (try simp only [List.length_append, List.length_cons, List.length_nil]); omega))) ?_
  refine GL_step rfl (PS_move rfl) ?_
  refine GL_nil ?_
  refine GQ_sub (.cons (k := 0) rfl (.cons (k := 79) rfl (.nil _))) ?_
  refine GQ_next3_ (k + 1) _ _ ?_ ?_ (.cons (k := 79) rfl (.cons (k := 0) rfl (.nil _))) (.refl _)
  · exact ⟨by omega, by omega, by rw [Turn.hereK_step hI21, if_f cp7, ← hI23], by assumption⟩
  · omega
 have c8p := kz c8
 obtain rfl : k = 6 := by omega
 refine G_exit ?_
 refine GQ_then_exit ?_
 refine GQ_then_exit ?_
 refine GQ_block_exit ?_
 refine GQ_end rfl .nil ?_
 intro w1 hS
 have hS := (hS.perm (Pulls.perm (.cons .head (.cons .head .nil)))).headL
 have hq : T.look = X := (show T.look = _ from if_f c1).trans hI23.symm
 refine ⟨_, ⟨?gqc8, rfl, ?hlc8, ?hBc8⟩, hS⟩
 case hBc8 => rw [hq]
 case hlc8 => rw [hq]; assumption
theorem rules_die_spec (X : Land) (b : Int) (hF : (Turn.die0 X b).Fit) : CtrR Tryz.prog 24 #[.agg X.enc.toArray, .int .i64 b] [] (fun w => (GV 1 Land.verbsV w ∧ 1 ∉ feet [])) (fun v B => ∃ h : Hd, v = .tuple #[.agg ((Turn.dieT X b).w.enc).toArray, h.val] ∧ h.len = (Turn.dieT X b).out.length ∧ B = [Res.own h 60 16 ((Turn.dieT X b).out.flatMap Ing.Event.enc)]) := by
 intro w hS0 hH
 obtain ⟨gl0, gm0⟩ := hH
 have hb : 0 ≤ b ∧ b < 6 := hF.b
 refine Ret_body _ _ Tryz.func24 rfl rfl rfl (hS0) ?_
 refine G_seq ?_
 refine G_region ?_
 refine GL_box rfl rfl rfl (fun b1 => ?_)
 refine GL_alloc rfl zv34 rfl (fun b2 => ?_)
 refine GL_step rfl (PS_assign rfl) ?_
 refine GL_nil ?_
 refine GQ_sub (.cons (k := 1) rfl (.cons (k := 2) rfl (.cons (k := 4) rfl (.nil _)))) ?_
 refine GQ_then ?_
 refine G_seq ?_
 refine G_region ?_
 refine GL_step rfl (PS_loadA rfl tya34 (.tail _ (.head _)) (Lens.id Land.fl.len Land.fl.one) rfl) ?_
 refine GL_step rfl (PS_move rfl) ?_
 refine GL_step rfl (PS_build pl53 zv53 rfl (.cons TurnV.l0 rfl rfl rfl (.cons TurnV.l1 rfl rfl rfl .nil))) ?_
 refine GL_box rfl rfl rfl (fun b3 => ?_)
 refine GL_step rfl (PS_assign rfl) ?_
 refine GL_nil ?_
 refine GQ_sub (.cons (k := 1) rfl (.cons (k := 4) rfl (.cons (k := 6) rfl (.nil _)))) ?_
 refine GQ_then ?_
 refine G_seq ?_
 refine G_region ?_
 refine GL_step rfl (PS_move rfl) ?_
 refine GL_step rfl (PS_move rfl) ?_
 refine GL_step rfl (PS_nilCheck rfl) ?_
 refine GL_step rfl (PS_fieldAddr fa53_0 rfl) ?_
 refine GL_step rfl (PS_fieldAddr fa34_2 rfl) ?_
 refine GL_step rfl (PS_indexAddr ia32 rfl rfl (by first | omega | exact hb.1 | exact hb.2 | (dsimp only; omega)) (by first | omega | exact hb.1 | exact hb.2 | (dsimp only; omega))) ?_
 refine GL_step rfl (PS_fieldAddr fa31_4 rfl) ?_
 refine GL_unit (PU_store (((TurnV.l0.comp Land.l2).comp (Lens.arr (n := 6) Being.fl (by first | omega | exact hb.1 | exact hb.2 | (dsimp only; omega)) (by first | omega | exact hb.1 | exact hb.2 | (dsimp only; omega)))).comp Being.l4) rfl rfl rfl sz3 rfl .head) ?_
 refine GL_nil ?_
 refine GQ_sub (.cons (k := 1) rfl (.cons (k := 4) rfl (.cons (k := 6) rfl (.nil _)))) ?_
 refine GQ_then ?_
 refine G_seq ?_
 refine G_region ?_
 refine GL_step rfl (PS_move rfl) ?_
 refine GL_nilF Ing.Event.enc 60 16 ?_
 refine GL_callL rfl cf17 (.cons rfl (.cons rfl .nil)) (.cons (.tail .head) (.cons .head .nil)) (rules_turn_event_spec _ (Turn.die0 X b) _ 15 rfl hb (Nat.zero_le _)) (fun v2 B hv => ?_)
 obtain ⟨y3, rfl, y4, rfl⟩ := hv
 refine GL_nil ?_
 refine GQ_sub (.cons (k := 1) rfl (.cons (k := 4) rfl (.cons (k := 6) rfl (.nil _)))) ?_
 refine GQ_then ?_
 refine G_seq ?_
 refine G_region ?_
 refine GL_step rfl (PS_move rfl) ?_
 refine GL_callL rfl cf55 (.cons rfl .nil) (.cons .head .nil) (rules_turn_fall_spec _ ((Turn.die0 X b).kind 15) _ (hF.of_w rfl rfl)) (fun v5 B hv => ?_)
 obtain ⟨y6, y7, rfl, rfl⟩ := hv
 refine GL_nil ?_
 refine GQ_sub (.cons (k := 1) rfl (.cons (k := 4) rfl (.cons (k := 6) rfl (.nil _)))) ?_
 refine GQ_then ?_
 refine G_seq ?_
 refine G_seq ?_
 refine G_region ?_
 refine GL_step rfl (PS_move rfl) ?_
 refine GL_step rfl (PS_lss rfl rfl) ?_
 refine GL_nil ?_
 refine GQ_sub (.cons (k := 1) rfl (.cons (k := 4) rfl (.cons (k := 6) rfl (.cons (k := 24) rfl (.nil _))))) ?_
 refine GQ_then ?_
 refine G_cond rfl (fun c1 => ?_) (fun c1 => ?_)
 ·
  have c1p := kz c1
  refine G_seq ?_
  refine G_region ?_
  refine GL_step rfl (PS_move rfl) ?_
  refine GL_step rfl (PS_move rfl) ?_
  refine GL_step rfl (PS_build pl31 zv31 rfl .nil) ?_
  refine GL_step rfl (PS_nilCheck rfl) ?_
  refine GL_step rfl (PS_fieldAddr fa53_0 rfl) ?_
  refine GL_step rfl (PS_fieldAddr fa34_2 rfl) ?_
  refine GL_step rfl (PS_indexAddr ia32 rfl rfl (by first | omega | exact hb.1 | exact hb.2 | (dsimp only; omega)) (by first | omega | exact hb.1 | exact hb.2 | (dsimp only; omega))) ?_
  refine GL_unit (PU_store ((TurnV.l0.comp Land.l2).comp (Lens.arr (n := 6) Being.fl (by first | omega | exact hb.1 | exact hb.2 | (dsimp only; omega)) (by first | omega | exact hb.1 | exact hb.2 | (dsimp only; omega)))) rfl rfl rfl sz31 rfl .head) ?_
  refine GL_nil ?_
  refine GQ_sub (.cons (k := 4) rfl (.cons (k := 6) rfl (.nil _))) ?_
  refine GQ_then ?_
  refine G_seq ?_
  refine G_planN (N := 10) [0, 1, 3, 7, 0, 16, 48, 112, 15, 511] mix (by kernel_rfl) rfl ?_
  refine Plan_float 0 rfl rfl (by kernel_rfl) (OK_s (EX_s (PS_move rfl))) ?_
  refine Plan_float 1 rfl rfl (by kernel_rfl) (OK_s (EX_s (PS_nilCheck rfl))) ?_
  refine Plan_float 2 rfl rfl (by kernel_rfl) (OK_s (EX_s (PS_fieldAddr fa53_0 rfl))) ?_
  refine Plan_float 3 rfl rfl (by kernel_rfl) (OK_s (EX_s (PS_loadA rfl tya34 (.head _) TurnV.l0 rfl))) ?_
  refine Plan_float 4 rfl rfl (by kernel_rfl) (OK_s (EX_s (PS_move rfl))) ?_
  refine Plan_float 5 rfl rfl (by kernel_rfl) (OK_s (EX_s (PS_nilCheck rfl))) ?_
  refine Plan_float 6 rfl rfl (by kernel_rfl) (OK_s (EX_s (PS_fieldAddr fa53_2 rfl))) ?_
  refine Plan_float 7 rfl rfl (by kernel_rfl) (OK_s (EX_s (PS_load rfl tys35 (.head _) TurnV.l2 rfl rfl))) ?_
  refine Plan_chain 8 rfl (by kernel_rfl) ?_
  refine GL_unit (PU_store (Lens.id Land.fl.len Land.fl.one) rfl rfl rfl sz34 rfl (.tail (.tail .head))) ?_
  refine GL_hand0 rfl ⟨?_, ?_⟩
  · exact (Pend_okv rfl (OK_s (EX_s (PS_load rfl tys35 (.head _) TurnV.l2 rfl rfl))) rfl rfl (Pend_okv rfl (OK_s (EX_s (PS_fieldAddr fa53_2 rfl))) rfl rfl (Pend_okv rfl (OK_s (EX_s (PS_nilCheck rfl))) rfl rfl (Pend_okv rfl (OK_s (EX_s (PS_move rfl))) rfl rfl (Pend_skip (by kernel_rfl) (Pend_skip (by kernel_rfl) (Pend_skip (by kernel_rfl) (Pend_skip (by kernel_rfl) Pend_nil))))))))
  refine Plan_float 9 rfl rfl (by kernel_rfl) (OK_s (EX_s (PS_assign rfl))) ?_
  refine Plan_end (by kernel_rfl) ?_
  refine GQ_sub (.cons (k := 4) rfl (.cons (k := 5) rfl (.nil _))) ?_
  refine GQ_then ?_
  refine G_ret ?_
  refine GQ_then_ret ?_
  refine GQ_ret rfl (.cell rfl (.tail _ (.tail _ (.head _))) (.inl ⟨(by rw [Land.fl.len]; exact tya34), rfl⟩) (.tmp rfl .nil)) ?_
  intro w1 hS
  have hS := (hS.perm (Pulls.perm (.cons (.tail .head) .nil))).headL
  have hq : Turn.dieT X b = _ := if_t c1
  rw [Turn.die1_eq y7] at hq
  refine ⟨_, ⟨y3, ?hv, ?hl, ?hB⟩, hS⟩
  case hv => rw [hq]; rfl
  case hl => rw [hq]; exact y4
  case hB => rw [hq]
 have c1p := kz c1
 refine G_skip ?_
 refine GQ_sub (.cons (k := 1) rfl (.cons (k := 4) rfl (.cons (k := 6) rfl (.nil _)))) ?_
 refine GQ_then ?_
 refine G_seq ?_
 refine G_region ?_
 refine GL_step rfl (PS_move rfl) ?_
 refine GL_step rfl (PS_move rfl) ?_
 refine GL_step rfl (PS_nilCheck rfl) ?_
 refine GL_step rfl (PS_fieldAddr fa53_0 rfl) ?_
 refine GL_step rfl (PS_fieldAddr fa34_2 rfl) ?_
 refine GL_step rfl (PS_indexAddr ia32 rfl rfl (by first | omega | exact hb.1 | exact hb.2 | (dsimp only; omega)) (by first | omega | exact hb.1 | exact hb.2 | (dsimp only; omega))) ?_
 refine GL_step rfl (PS_assign rfl) ?_
 refine GL_nil ?_
 refine GQ_sub (.cons (k := 4) rfl (.cons (k := 6) rfl (.cons (k := 7) rfl (.nil _)))) ?_
 refine GQ_then ?_
 refine G_seq ?_
 refine G_region ?_
 refine GL_step rfl (PS_move rfl) ?_
 refine GL_step rfl (PS_move rfl) ?_
 refine GL_step rfl (PS_nilCheck rfl) ?_
 refine GL_step rfl (PS_fieldAddr fa31_3 rfl) ?_
 refine GL_unit (PU_store (((TurnV.l0.comp Land.l2).comp (Lens.arr (n := 6) Being.fl (by first | omega | exact hb.1 | exact hb.2 | (dsimp only; omega)) (by first | omega | exact hb.1 | exact hb.2 | (dsimp only; omega)))).comp Being.l3) rfl rfl rfl sz3 rfl .head) ?_
 refine GL_step rfl (PS_nilCheck rfl) ?_
 refine GL_step rfl (PS_fieldAddr fa31_4 rfl) ?_
 refine GL_unit (PU_store (((TurnV.l0.comp Land.l2).comp (Lens.arr (n := 6) Being.fl (by first | omega | exact hb.1 | exact hb.2 | (dsimp only; omega)) (by first | omega | exact hb.1 | exact hb.2 | (dsimp only; omega)))).comp Being.l4) rfl rfl rfl sz3 rfl .head) ?_
 refine GL_nil ?_
 refine GQ_sub (.cons (k := 4) rfl (.cons (k := 6) rfl (.nil _))) ?_
 refine GQ_then ?_
 refine G_seq ?_
 refine G_swap (fun _ => .head) (congrArg (fun q => TurnV.enc ⟨q, b, y3⟩) (Turn.two_put y6 hb)) ?_
 have hT2 := Turn.die2_eq y7
 have hf2 := Turn.die2_fit hF
 rw [hT2] at hf2
 refine G_region ?_
 refine GL_step rfl (PS_move rfl) ?_
 refine GL_callL rfl cf17 (.cons rfl (.cons rfl .nil)) (.cons .head (.cons .head .nil)) (rules_turn_event_spec _ (⟨y6.putB b { y6.beings.at b with room := 0, health := 10 }, b, ((Turn.die0 X b).kind 15).out⟩ : Turn) _ 17 y4 hb (by decide : (0 : Nat) + 1 ≤ 100000)) (fun v8 B hv => ?_)
 obtain ⟨y9, rfl, y10, rfl⟩ := hv
 refine GL_nil ?_
 refine GQ_sub (.cons (k := 4) rfl (.cons (k := 6) rfl (.nil _))) ?_
 refine GQ_then ?_
 refine G_seq ?_
 refine G_region ?_
 refine GL_step rfl (PS_move rfl) ?_
 refine GL_callR rfl cf18 (.cons rfl .nil) (.cons .head (.cons .head .nil)) (rules_turn_look_spec _ ((⟨y6.putB b { y6.beings.at b with room := 0, health := 10 }, b, ((Turn.die0 X b).kind 15).out⟩ : Turn).kind 17) _ y10 hb hf2.br (by decide : (0 : Nat) + 1 + 1 ≤ 90000)) (fun w hS => gl0.pull gm0 hS (.cons .head (.cons .head .nil))) (fun v11 B hv => ?_)
 obtain ⟨y12, rfl, y13, rfl⟩ := hv
 refine GL_nil ?_
 refine GQ_sub (.cons (k := 4) rfl (.cons (k := 6) rfl (.nil _))) ?_
 refine GQ_then ?_
 refine G_seq ?_
 refine G_planN (N := 10) [0, 1, 3, 7, 0, 16, 48, 112, 15, 511] mix (by kernel_rfl) rfl ?_
 refine Plan_float 0 rfl rfl (by kernel_rfl) (OK_s (EX_s (PS_move rfl))) ?_
 refine Plan_float 1 rfl rfl (by kernel_rfl) (OK_s (EX_s (PS_nilCheck rfl))) ?_
 refine Plan_float 2 rfl rfl (by kernel_rfl) (OK_s (EX_s (PS_fieldAddr fa53_0 rfl))) ?_
 refine Plan_float 3 rfl rfl (by kernel_rfl) (OK_s (EX_s (PS_loadA rfl tya34 (.head _) TurnV.l0 rfl))) ?_
 refine Plan_float 4 rfl rfl (by kernel_rfl) (OK_s (EX_s (PS_move rfl))) ?_
 refine Plan_float 5 rfl rfl (by kernel_rfl) (OK_s (EX_s (PS_nilCheck rfl))) ?_
 refine Plan_float 6 rfl rfl (by kernel_rfl) (OK_s (EX_s (PS_fieldAddr fa53_2 rfl))) ?_
 refine Plan_float 7 rfl rfl (by kernel_rfl) (OK_s (EX_s (PS_load rfl tys35 (.head _) TurnV.l2 rfl rfl))) ?_
 refine Plan_chain 8 rfl (by kernel_rfl) ?_
 refine GL_unit (PU_store (Lens.id Land.fl.len Land.fl.one) rfl rfl rfl sz34 rfl (.tail (.tail .head))) ?_
 refine GL_hand0 rfl ⟨?_, ?_⟩
 · exact (Pend_okv rfl (OK_s (EX_s (PS_load rfl tys35 (.head _) TurnV.l2 rfl rfl))) rfl rfl (Pend_okv rfl (OK_s (EX_s (PS_fieldAddr fa53_2 rfl))) rfl rfl (Pend_okv rfl (OK_s (EX_s (PS_nilCheck rfl))) rfl rfl (Pend_okv rfl (OK_s (EX_s (PS_move rfl))) rfl rfl (Pend_skip (by kernel_rfl) (Pend_skip (by kernel_rfl) (Pend_skip (by kernel_rfl) (Pend_skip (by kernel_rfl) Pend_nil))))))))
 refine Plan_float 9 rfl rfl (by kernel_rfl) (OK_s (EX_s (PS_assign rfl))) ?_
 refine Plan_end (by kernel_rfl) ?_
 refine GQ_sub (.cons (k := 4) rfl (.cons (k := 5) rfl (.nil _))) ?_
 refine GQ_then ?_
 refine G_ret ?_
 refine GQ_ret rfl (.cell rfl (.tail _ (.tail _ (.head _))) (.inl ⟨(by rw [Land.fl.len]; exact tya34), rfl⟩) (.tmp rfl .nil)) ?_
 intro w1 hS
 have hS := (hS.perm (Pulls.perm (.cons (.tail .head) .nil))).headL
 have hq : Turn.dieT X b = _ := if_f c1
 rw [hT2] at hq
 refine ⟨_, ⟨y12, ?hv, ?hl, ?hB⟩, hS⟩
 case hv => rw [hq]; rfl
 case hl => rw [hq]; exact y13
 case hB => rw [hq]
end Go.Proofs.YthaobbemigbcgaaGreatDoor
