/- For every input the law SensePerceives returns true. No condition. -/
import Derived.Test.YtclcdddimmelaaaDoorCards
import Derived.Test.YtclcdddimmelaaaDoorTie
import Derived.Deep.DeepHandedRow
import Derived.Test.YtclcdddimmelaaaDoorRows
import Derived.Test.YtclcdddimmelaaaDoorEc3
import Derived.Test.YtclcdddimmelaaaDoorSensePerceivesPlain
set_option linter.unusedSimpArgs false
set_option linter.unusedVariables false
set_option maxRecDepth 100000
namespace Go.Proofs.YtclcdddimmelaaaDoor
open Go Go.Ing Go.RowKit Go.ChangeShapes Go.WideShapes Go.ChangeAt
theorem own : ownKnob Tryd.prog.godebug = none := by kernel_rfl
theorem laidOut : laidOutB Tryd.prog = true := by kernel_rfl
theorem sz29 : Sz Tryd.prog 29 45 := Sz_of (by kernel_rfl)
theorem fa34_1 : FA Tryd.prog 34 1 84 := FA_of Tryd.underlying34 rfl sz29
theorem sz28 : Sz Tryd.prog 28 5 := Sz_of (by kernel_rfl)
theorem ia29 : IA Tryd.prog 29 9 5 := IA_of Tryd.underlying29 sz28
theorem tya28 : TyA Tryd.prog 28 5 := TyA_of Tryd.underlying28 rfl sz28
theorem zv28 : ZV Tryd.prog 28 (.agg (Thing.enc (default : Thing)).toArray) := ZV_of (by kernel_rfl)
theorem sz3 : Sz Tryd.prog 3 1 := Sz_of (by kernel_rfl)
theorem fa28_2 : FA Tryd.prog 28 2 2 := FA_of Tryd.underlying28 rfl sz3
theorem tys3 : TyS Tryd.prog 3 := TyS_of Tryd.underlying3 rfl
theorem fa28_3 : FA Tryd.prog 28 3 3 := FA_of Tryd.underlying28 rfl sz3
theorem sz32 : Sz Tryd.prog 32 36 := Sz_of (by kernel_rfl)
theorem fa34_2 : FA Tryd.prog 34 2 129 := FA_of Tryd.underlying34 rfl sz32
theorem sz31 : Sz Tryd.prog 31 6 := Sz_of (by kernel_rfl)
theorem ia32 : IA Tryd.prog 32 6 6 := IA_of Tryd.underlying32 sz31
theorem fa31_3 : FA Tryd.prog 31 3 3 := FA_of Tryd.underlying31 rfl sz3
theorem sz4 : Sz Tryd.prog 4 1 := Sz_of (by kernel_rfl)
theorem fa28_4 : FA Tryd.prog 28 4 4 := FA_of Tryd.underlying28 rfl sz4
theorem tys4 : TyS Tryd.prog 4 := TyS_of Tryd.underlying4 rfl
theorem sz26 : Sz Tryd.prog 26 84 := Sz_of (by kernel_rfl)
theorem fa34_0 : FA Tryd.prog 34 0 0 := FA_of Tryd.underlying34 rfl sz26
theorem sz25 : Sz Tryd.prog 25 14 := Sz_of (by kernel_rfl)
theorem ia26 : IA Tryd.prog 26 6 14 := IA_of Tryd.underlying26 sz25
theorem fa25_1 : FA Tryd.prog 25 1 1 := FA_of Tryd.underlying25 rfl sz4
theorem tya29 : TyA Tryd.prog 29 45 := TyA_of Tryd.underlying29 rfl sz29
theorem fa28_1 : FA Tryd.prog 28 1 1 := FA_of Tryd.underlying28 rfl sz3
theorem sz34 : Sz Tryd.prog 34 165 := Sz_of (by kernel_rfl)
theorem tya34 : TyA Tryd.prog 34 165 := TyA_of Tryd.underlying34 rfl sz34
theorem cf22 : CF Tryd.prog 22 := Tryd.call22
theorem zv4 : ZV Tryd.prog 4 (.bool false) := ZV_of (by kernel_rfl)
theorem mix : Tryd.prog.follows .mixedOrders = true := by kernel_rfl
theorem cf37 : CF Tryd.prog 37 := Tryd.call37
theorem cf23 : CF Tryd.prog 23 := Tryd.call23
theorem fa31_1 : FA Tryd.prog 31 1 1 := FA_of Tryd.underlying31 rfl sz4
theorem cf24 : CF Tryd.prog 24 := Tryd.call24
theorem tya31 : TyA Tryd.prog 31 6 := TyA_of Tryd.underlying31 rfl sz31
theorem zv31 : ZV Tryd.prog 31 (.agg (Being.enc (default : Being)).toArray) := ZV_of (by kernel_rfl)
theorem cf8 : CF Tryd.prog 8 := Tryd.call8
theorem fa31_2 : FA Tryd.prog 31 2 2 := FA_of Tryd.underlying31 rfl sz4
theorem cf10 : CF Tryd.prog 10 := Tryd.call10
theorem cf25 : CF Tryd.prog 25 := Tryd.call25
theorem cf9 : CF Tryd.prog 9 := Tryd.call9
theorem cf11 : CF Tryd.prog 11 := Tryd.call11
theorem fa36_2 : FA Tryd.prog 36 2 2 := FA_of Tryd.underlying36 rfl sz3
theorem fa36_3 : FA Tryd.prog 36 3 3 := FA_of Tryd.underlying36 rfl sz3
theorem cf12 : CF Tryd.prog 12 := Tryd.call12
theorem fa36_0 : FA Tryd.prog 36 0 0 := FA_of Tryd.underlying36 rfl sz3
theorem fa36_1 : FA Tryd.prog 36 1 1 := FA_of Tryd.underlying36 rfl sz3
theorem cf26 : CF Tryd.prog 26 := Tryd.call26
theorem cf13 : CF Tryd.prog 13 := Tryd.call13
theorem zv36 : ZV Tryd.prog 36 (.agg (Ing.Event.enc (default : Ing.Event)).toArray) := ZV_of (by kernel_rfl)
theorem sz36 : Sz Tryd.prog 36 16 := Sz_of (by kernel_rfl)
theorem tya36 : TyA Tryd.prog 36 16 := TyA_of Tryd.underlying36 rfl sz36
theorem cf14 : CF Tryd.prog 14 := Tryd.call14
theorem sz22 : Sz Tryd.prog 22 6 := Sz_of (by kernel_rfl)
theorem fa36_10 : FA Tryd.prog 36 10 10 := FA_of Tryd.underlying36 rfl sz22
theorem ia22 : IA Tryd.prog 22 6 1 := IA_of Tryd.underlying22 sz3
theorem cf15 : CF Tryd.prog 15 := Tryd.call15
theorem zv34 : ZV Tryd.prog 34 (.agg (Land.enc (default : Land)).toArray) := ZV_of (by kernel_rfl)
theorem zv22 : ZV Tryd.prog 22 (.agg (encA (n := 6) encI (Vector.replicate 6 default)).toArray) := ZV_of (by kernel_rfl)
theorem zv23 : ZV Tryd.prog 23 (.agg (encA (n := 6) encB (Vector.replicate 6 default)).toArray) := ZV_of (by kernel_rfl)
theorem sz9 : Sz Tryd.prog 9 1 := Sz_of (by kernel_rfl)
theorem sz23 : Sz Tryd.prog 23 6 := Sz_of (by kernel_rfl)
theorem pl25 : Places Tryd.prog 25 [(0, 1), (1, 1), (2, 6), (8, 6)] := ⟨_, Tryd.underlying25, fun w => by simp [sz9 w, sz4 w, sz22 w, sz23 w]⟩
theorem zv25 : ZV Tryd.prog 25 (.agg (Room.enc (default : Room)).toArray) := ZV_of (by kernel_rfl)
theorem is68 : IS Tryd.prog 68 14 := IS_of Tryd.underlying68 sz25
theorem tya25 : TyA Tryd.prog 25 14 := TyA_of Tryd.underlying25 rfl sz25
theorem pl28 : Places Tryd.prog 28 [(0, 1), (1, 1), (2, 1), (3, 1), (4, 1)] := ⟨_, Tryd.underlying28, fun w => by simp [sz9 w, sz3 w, sz4 w]⟩
theorem is69 : IS Tryd.prog 69 5 := IS_of Tryd.underlying69 sz28
theorem pl31 : Places Tryd.prog 31 [(0, 1), (1, 1), (2, 1), (3, 1), (4, 1), (5, 1)] := ⟨_, Tryd.underlying31, fun w => by simp [sz9 w, sz4 w, sz3 w]⟩
theorem sz54 : Sz Tryd.prog 54 1 := Sz_of (by kernel_rfl)
theorem fa57_0 : FA Tryd.prog 57 0 0 := FA_of Tryd.underlying57 rfl sz54
theorem tys54 : TyS Tryd.prog 54 := TyS_of Tryd.underlying54 rfl
theorem inf57 : ∃ i, Tryd.prog.info? 57 = some i ∧ i.size ≠ 0 := by
  have h : (Tryd.prog.info? 57).map (·.size) = some 2 := by kernel_rfl
  obtain ⟨i, h1, h2⟩ := Option.map_eq_some_iff.1 h
  exact ⟨i, h1, by omega⟩
theorem cf38 : CF Tryd.prog 38 := Tryd.call38
theorem sz55 : Sz Tryd.prog 55 1 := Sz_of (by kernel_rfl)
theorem fa57_1 : FA Tryd.prog 57 1 1 := FA_of Tryd.underlying57 rfl sz55
theorem tys55 : TyS Tryd.prog 55 := TyS_of Tryd.underlying55 rfl
theorem sz5 : Sz Tryd.prog 5 1 := Sz_of (by kernel_rfl)
theorem zv5 : ZV Tryd.prog 5 (.int .u8 0) := ZV_of (by kernel_rfl)
theorem by5 : BY Tryd.prog 5 1 := BY_of (by kernel_rfl)
theorem ce5 : Tryd.prog.cellsOf 5 = 1 := by kernel_rfl
theorem cf28 : CF Tryd.prog 28 := Tryd.call28
theorem fa36_6 : FA Tryd.prog 36 6 6 := FA_of Tryd.underlying36 rfl sz9
theorem tys9 : TyS Tryd.prog 9 := TyS_of Tryd.underlying9 rfl
theorem fa36_7 : FA Tryd.prog 36 7 7 := FA_of Tryd.underlying36 rfl sz9
theorem zv57 : ZV Tryd.prog 57 (.agg (BldV.enc ⟨none, ⟨none, 0, 0⟩⟩).toArray) := ZV_of (by kernel_rfl)
theorem cf29 : CF Tryd.prog 29 := Tryd.call29
theorem fa36_9 : FA Tryd.prog 36 9 9 := FA_of Tryd.underlying36 rfl sz9
theorem cf30 : CF Tryd.prog 30 := Tryd.call30
theorem cf33 : CF Tryd.prog 33 := Tryd.call33
theorem cf27 : CF Tryd.prog 27 := Tryd.call27
theorem pl36 : Places Tryd.prog 36 [(0, 1), (1, 1), (2, 1), (3, 1), (4, 1), (5, 1), (6, 1), (7, 1), (8, 1), (9, 1), (10, 6)] := ⟨_, Tryd.underlying36, fun w => by simp [sz3 w, sz9 w, sz22 w]⟩
theorem cf16 : CF Tryd.prog 16 := Tryd.call16
theorem cf19 : CF Tryd.prog 19 := Tryd.call19
theorem cf17 : CF Tryd.prog 17 := Tryd.call17
theorem eq3 : EqV Tryd.prog 1 3 (fun n : Int => .int .i64 n) := EqV_int Tryd.underlying3
theorem eq9 : EqV Tryd.prog 1 9 (fun s : Str => vstr s) := EqV_str Tryd.underlying9
theorem eq22 : EqV Tryd.prog 2 22 (fun v : Arr _ 6 => .agg (encA encI v).toArray) := EqV_arr flI Tryd.underlying22 (by kernel_rfl) (by kernel_rfl) (.inr ⟨tys3, rfl, fun _ => rfl⟩) eq3
theorem tya22 : TyA Tryd.prog 22 6 := TyA_of Tryd.underlying22 rfl sz22
theorem eq36 : EqV Tryd.prog 3 36 (fun x : Ing.Event => .agg (Ing.Event.enc x).toArray) := EqV_struct Tryd.underlying36 (by kernel_rfl) (.cons (by decide) rfl (.inr ⟨tys3, rfl, fun _ => rfl⟩) Ing.Event.l0 eq3 (by decide) (.cons (by decide) rfl (.inr ⟨tys3, rfl, fun _ => rfl⟩) Ing.Event.l1 eq3 (by decide) (.cons (by decide) rfl (.inr ⟨tys3, rfl, fun _ => rfl⟩) Ing.Event.l2 eq3 (by decide) (.cons (by decide) rfl (.inr ⟨tys3, rfl, fun _ => rfl⟩) Ing.Event.l3 eq3 (by decide) (.cons (by decide) rfl (.inr ⟨tys3, rfl, fun _ => rfl⟩) Ing.Event.l4 eq3 (by decide) (.cons (by decide) rfl (.inr ⟨tys3, rfl, fun _ => rfl⟩) Ing.Event.l5 eq3 (by decide) (.cons (by decide) rfl (.inr ⟨tys9, rfl, fun _ => rfl⟩) Ing.Event.l6 eq9 (by decide) (.cons (by decide) rfl (.inr ⟨tys9, rfl, fun _ => rfl⟩) Ing.Event.l7 eq9 (by decide) (.cons (by decide) rfl (.inr ⟨tys9, rfl, fun _ => rfl⟩) Ing.Event.l8 eq9 (by decide) (.cons (by decide) rfl (.inr ⟨tys9, rfl, fun _ => rfl⟩) Ing.Event.l9 eq9 (by decide) (.cons (by decide) rfl (.inl ⟨tya22, fun _ => rfl⟩) Ing.Event.l10 eq22 (by decide) .nil))))))))))) (fun x y => by rw [Bool.eq_iff_iff]; cases x; cases y; simp)
theorem cf18 : CF Tryd.prog 18 := Tryd.call18
theorem dc9 {H : Type} {enc : TypeId × Value → H} {w : World} : Dc H enc Tryd.prog w (encS) wfS 9 := Dc_string Tryd.underlying9
theorem dc4 {H : Type} {enc : TypeId × Value → H} {w : World} : Dc H enc Tryd.prog w (encB) wfB 4 := Dc_bool Tryd.underlying4
theorem dc3 {H : Type} {enc : TypeId × Value → H} {w : World} : Dc H enc Tryd.prog w (encI) wfI 3 := Dc_int Tryd.underlying3
theorem dc22 {H : Type} {enc : TypeId × Value → H} {w : World} : Dc H enc Tryd.prog w (encA (n := 6) encI) (wfA wfI) 22 := Dc_arr (sz := 1) Tryd.underlying22 (by kernel_rfl) (by kernel_rfl) dc3
theorem dc23 {H : Type} {enc : TypeId × Value → H} {w : World} : Dc H enc Tryd.prog w (encA (n := 6) encB) (wfA wfB) 23 := Dc_arr (sz := 1) Tryd.underlying23 (by kernel_rfl) (by kernel_rfl) dc4
theorem dc25 {H : Type} {enc : TypeId × Value → H} {w : World} : Dc H enc Tryd.prog w (Room.enc) Room.wf 25 := Room.dc Tryd.underlying25 (by kernel_rfl) rfl (by kernel_rfl) dc9 rfl (by kernel_rfl) dc4 rfl (by kernel_rfl) dc22 rfl (by kernel_rfl) dc23
theorem dc26 {H : Type} {enc : TypeId × Value → H} {w : World} : Dc H enc Tryd.prog w (encA (n := 6) Room.enc) (wfA Room.wf) 26 := Dc_arr (sz := 14) Tryd.underlying26 (by kernel_rfl) (by kernel_rfl) dc25
theorem dc28 {H : Type} {enc : TypeId × Value → H} {w : World} : Dc H enc Tryd.prog w (Thing.enc) Thing.wf 28 := Thing.dc Tryd.underlying28 (by kernel_rfl) rfl (by kernel_rfl) dc9 rfl (by kernel_rfl) dc3 rfl (by kernel_rfl) dc3 rfl (by kernel_rfl) dc3 rfl (by kernel_rfl) dc4
theorem dc29 {H : Type} {enc : TypeId × Value → H} {w : World} : Dc H enc Tryd.prog w (encA (n := 9) Thing.enc) (wfA Thing.wf) 29 := Dc_arr (sz := 5) Tryd.underlying29 (by kernel_rfl) (by kernel_rfl) dc28
theorem dc31 {H : Type} {enc : TypeId × Value → H} {w : World} : Dc H enc Tryd.prog w (Being.enc) Being.wf 31 := Being.dc Tryd.underlying31 (by kernel_rfl) rfl (by kernel_rfl) dc9 rfl (by kernel_rfl) dc4 rfl (by kernel_rfl) dc4 rfl (by kernel_rfl) dc3 rfl (by kernel_rfl) dc3 rfl (by kernel_rfl) dc3
theorem dc32 {H : Type} {enc : TypeId × Value → H} {w : World} : Dc H enc Tryd.prog w (encA (n := 6) Being.enc) (wfA Being.wf) 32 := Dc_arr (sz := 6) Tryd.underlying32 (by kernel_rfl) (by kernel_rfl) dc31
theorem dc34 {H : Type} {enc : TypeId × Value → H} {w : World} : Dc H enc Tryd.prog w (Land.enc) Land.wf 34 := Land.dc Tryd.underlying34 (by kernel_rfl) rfl (by kernel_rfl) dc26 rfl (by kernel_rfl) dc29 rfl (by kernel_rfl) dc32
theorem dc36 {H : Type} {enc : TypeId × Value → H} {w : World} : Dc H enc Tryd.prog w (Ing.Event.enc) Ing.Event.wf 36 := Ing.Event.dc Tryd.underlying36 (by kernel_rfl) rfl (by kernel_rfl) dc3 rfl (by kernel_rfl) dc3 rfl (by kernel_rfl) dc3 rfl (by kernel_rfl) dc3 rfl (by kernel_rfl) dc3 rfl (by kernel_rfl) dc3 rfl (by kernel_rfl) dc9 rfl (by kernel_rfl) dc9 rfl (by kernel_rfl) dc9 rfl (by kernel_rfl) dc9 rfl (by kernel_rfl) dc22
theorem land_Room_spec (X : Land) (i : Int) (w : World) : Ret Tryd.prog 22 #[.agg X.enc.toArray, .int .i64 i] w fun v w' => v = .tuple #[.int .i64 (X.room i).1, .bool (X.room i).2] ∧ Keep w w' := by
  refine Ret_body [] [] Tryd.func22 rfl rfl rfl (St.start w []) ?_
  refine G_seq ?_
  refine G_region ?_
  refine GL_box rfl rfl rfl (fun b1 => ?_)
  refine GL_step rfl (PS_assign rfl) ?_
  refine GL_step rfl (PS_assign rfl) ?_
  refine GL_nil ?_
  refine GQ_sub (.cons (k := 1) rfl (.cons (k := 2) rfl (.nil _))) ?_
  refine GQ_then ?_
  refine G_seq ?_
  refine G_region ?_
  refine GL_step rfl (PS_assign rfl) ?_
  refine GL_nil ?_
  refine GQ_then ?_
  refine G_seq ?_
  refine G_seq ?_
  refine G_region ?_
  refine GL_step rfl (PS_move rfl) ?_
  refine GL_nil ?_
  refine GQ_then ?_
  refine G_block ?_
  refine G_subF (.cons (k := 1) rfl (.cons (k := 6) rfl (.cons (k := 8) rfl (.cons (k := 2) rfl (.nil _))))) ?_
  refine G_loop3_ (fun (k : Int) (j : Int) (o : Bool) => 0 ≤ k ∧ k ≤ 10 ∧ X.room i = X.roomFrom (10 - k).toNat j o) (fun (k : Int) (j : Int) (o : Bool) => (10 - k).toNat) (fun (k : Int) (j : Int) (o : Bool) => [(1, .int .i64 j), (6, .bool o), (8, .int .i64 k)]) (fun (k : Int) (j : Int) (o : Bool) => []) (0) (i) (true) ?_ rfl rfl (fun k j o hI1 => ?_)
  · exact ⟨Int.le_refl _, by omega, rfl⟩
  obtain ⟨hI11, hI12, hI13⟩ := hI1
  refine G_seq ?_
  refine G_region ?_
  refine GL_step rfl (PS_lss rfl rfl) ?_
  refine GL_nil ?_
  refine GQ_then ?_
  refine G_seq ?_
  refine G_cond rfl (fun c1 => ?_) (fun c1 => ?_)
  · skip
    have c1p := c1
    try simp only [decide_eq_true_eq, decide_eq_false_iff_not, Bool.not_eq_true', Bool.not_eq_false', Bool.or_eq_true, Bool.and_eq_true, Bool.or_eq_false_iff, Bool.and_eq_false_iff, Int.not_lt, Int.not_le] at c1p
    rw [show (10 - k).toNat = (10 - (k + 1)).toNat + 1 from by omega, Land.roomFrom] at hI13
    refine G_skip ?_
    refine GQ_sub (.cons (k := 1) rfl (.cons (k := 2) rfl (.cons (k := 6) rfl (.cons (k := 8) rfl (.nil _))))) ?_
    refine GQ_then ?_
    refine G_seq ?_
    refine G_block ?_
    refine G_seq ?_
    refine G_seq ?_
    refine G_region ?_
    refine GL_step rfl (PS_move rfl) ?_
    refine GL_step rfl (PS_lss rfl rfl) ?_
    refine GL_step rfl (PS_move rfl) ?_
    refine GL_gf (t := 12) rfl rfl rfl (fun q => PS_move rfl) ?_
    refine GL_gf (t := 12) rfl rfl rfl (fun q => PS_geq (cvE rfl (by rw [q]; rfl)) rfl) ?_
    refine GL_step rfl (PS_or rfl rfl (fun h => by rw [h]; rfl)) ?_
    refine GL_nil ?_
    refine GQ_sub (.cons (k := 1) rfl (.cons (k := 2) rfl (.cons (k := 6) rfl (.cons (k := 8) rfl (.cons (k := 15) rfl (.nil _)))))) ?_
    refine GQ_then ?_
    refine G_cond rfl (fun c2 => ?_) (fun c2 => ?_)
    · skip
      have c2p := c2
      try simp only [decide_eq_true_eq, decide_eq_false_iff_not, Bool.not_eq_true', Bool.not_eq_false', Bool.or_eq_true, Bool.and_eq_true, Bool.or_eq_false_iff, Bool.and_eq_false_iff, Int.not_lt, Int.not_le] at c2p
      refine G_seq ?_
      refine G_region ?_
      refine GL_step rfl (PS_assign rfl) ?_
      refine GL_step rfl (PS_assign rfl) ?_
      refine GL_nil ?_
      refine GQ_sub (.cons (k := 4) rfl (.cons (k := 5) rfl (.nil _))) ?_
      refine GQ_then ?_
      refine G_ret ?_
      refine GQ_then_ret ?_
      refine GQ_block_ret ?_
      refine GQ_then_ret ?_
      refine GQ_then_ret ?_
      refine GQ_block_ret ?_
      refine GQ_then_ret ?_
      refine GQ_ret rfl (.tmp rfl (.tmp rfl .nil)) ?_
      intro w1 hS; refine ⟨?_, hS.toKeep⟩; rw [hI13]; simp only [c1, c2, ↓reduceIte, Bool.false_eq_true]; rfl
    · skip
      have c2p := c2
      try simp only [decide_eq_true_eq, decide_eq_false_iff_not, Bool.not_eq_true', Bool.not_eq_false', Bool.or_eq_true, Bool.and_eq_true, Bool.or_eq_false_iff, Bool.and_eq_false_iff, Int.not_lt, Int.not_le] at c2p
      refine G_skip ?_
      refine GQ_sub (.cons (k := 1) rfl (.cons (k := 2) rfl (.cons (k := 6) rfl (.cons (k := 8) rfl (.nil _))))) ?_
      refine GQ_then ?_
      refine G_seq ?_
      refine G_region ?_
      refine GL_step rfl (PS_move rfl) ?_
      refine GL_step rfl (PS_fieldAddr fa34_1 rfl) ?_
      refine GL_step rfl (PS_indexAddr ia29 rfl rfl (by omega) (by omega)) ?_
      refine GL_step rfl (PS_loadA rfl tya28 (.head _) (Land.l1.comp (Lens.arr (n := 9) Thing.fl (by omega) (by omega))) rfl) ?_
      refine GL_alloc rfl zv28 rfl (fun b2 => ?_)
      refine GL_unit (PU_store (Lens.id Thing.fl.len Thing.fl.one) rfl rfl rfl sz28 rfl .head) ?_
      refine GL_nil ?_
      refine GQ_sub (.cons (k := 2) rfl (.cons (k := 6) rfl (.cons (k := 7) rfl (.cons (k := 8) rfl (.nil _))))) ?_
      refine GQ_then ?_
      refine G_seq ?_
      refine G_seq ?_
      refine G_region ?_
      refine GL_step rfl (PS_fieldAddr fa28_2 rfl) ?_
      refine GL_step rfl (PS_load rfl tys3 (.head _) Thing.l2 rfl rfl) ?_
      refine GL_nil ?_
      refine GQ_sub (.cons (k := 2) rfl (.cons (k := 6) rfl (.cons (k := 7) rfl (.cons (k := 8) rfl (.cons (k := 21) rfl (.nil _)))))) ?_
      refine GQ_then ?_
      refine G_block ?_
      refine G_seq ?_
      refine G_region ?_
      refine GL_step rfl (PS_eql rfl rfl) ?_
      refine GL_step rfl (PS_assign rfl) ?_
      refine GL_nil ?_
      refine GQ_sub (.cons (k := 2) rfl (.cons (k := 6) rfl (.cons (k := 7) rfl (.cons (k := 8) rfl (.cons (k := 21) rfl (.cons (k := 22) rfl (.nil _))))))) ?_
      refine GQ_then ?_
      refine G_cond rfl (fun c3 => ?_) (fun c3 => ?_)
      · skip
        have c3p := c3
        try simp only [decide_eq_true_eq, decide_eq_false_iff_not, Bool.not_eq_true', Bool.not_eq_false', Bool.or_eq_true, Bool.and_eq_true, Bool.or_eq_false_iff, Bool.and_eq_false_iff, Int.not_lt, Int.not_le] at c3p
        refine G_seq ?_
        refine G_region ?_
        refine GL_step rfl (PS_fieldAddr fa28_3 rfl) ?_
        refine GL_step rfl (PS_load rfl tys3 (.head _) Thing.l3 rfl rfl) ?_
        refine GL_step rfl (PS_move rfl) ?_
        refine GL_step rfl (PS_assign rfl) ?_
        refine GL_step rfl (PS_assign rfl) ?_
        refine GL_nil ?_
        refine GQ_sub (.cons (k := 4) rfl (.cons (k := 5) rfl (.nil _))) ?_
        refine GQ_then ?_
        refine G_ret ?_
        refine GQ_block_ret ?_
        refine GQ_then_ret ?_
        refine GQ_block_ret ?_
        refine GQ_then_ret ?_
        refine GQ_then_ret ?_
        refine GQ_block_ret ?_
        refine GQ_then_ret ?_
        refine GQ_ret rfl (.tmp rfl (.tmp rfl .nil)) ?_
        intro w1 hS; refine ⟨?_, hS.toKeep⟩; rw [hI13]; simp only [c1, c2, c3, ↓reduceIte, Bool.false_eq_true]; rfl
      · skip
        have c3p := c3
        try simp only [decide_eq_true_eq, decide_eq_false_iff_not, Bool.not_eq_true', Bool.not_eq_false', Bool.or_eq_true, Bool.and_eq_true, Bool.or_eq_false_iff, Bool.and_eq_false_iff, Int.not_lt, Int.not_le] at c3p
        refine G_seq ?_
        refine G_region ?_
        refine GL_step rfl (PS_eql rfl rfl) ?_
        refine GL_step rfl (PS_assign rfl) ?_
        refine GL_nil ?_
        refine GQ_sub (.cons (k := 2) rfl (.cons (k := 6) rfl (.cons (k := 7) rfl (.cons (k := 8) rfl (.cons (k := 21) rfl (.cons (k := 27) rfl (.nil _))))))) ?_
        refine GQ_then ?_
        refine G_cond rfl (fun c4 => ?_) (fun c4 => ?_)
        · skip
          have c4p := c4
          try simp only [decide_eq_true_eq, decide_eq_false_iff_not, Bool.not_eq_true', Bool.not_eq_false', Bool.or_eq_true, Bool.and_eq_true, Bool.or_eq_false_iff, Bool.and_eq_false_iff, Int.not_lt, Int.not_le] at c4p
          refine G_seq ?_
          refine G_seq ?_
          refine G_region ?_
          refine GL_step rfl (PS_fieldAddr fa28_3 rfl) ?_
          refine GL_step rfl (PS_load rfl tys3 (.head _) Thing.l3 rfl rfl) ?_
          refine GL_step rfl (PS_lss rfl rfl) ?_
          refine GL_step rfl (PS_move rfl) ?_
          refine GL_gf (t := 32) rfl rfl rfl (fun q => PS_fieldAddr fa28_3 rfl) ?_
          refine GL_gf (t := 32) rfl rfl rfl (fun q => PS_load (cvE rfl (by rw [q]; rfl)) tys3 (.head _) Thing.l3 rfl rfl) ?_
          refine GL_gf (t := 32) rfl rfl rfl (fun q => PS_geq (cvE rfl (by rw [q]; rfl)) rfl) ?_
          refine GL_step rfl (PS_or rfl rfl (fun h => by rw [h]; rfl)) ?_
          refine GL_nil ?_
          refine GQ_sub (.cons (k := 2) rfl (.cons (k := 6) rfl (.cons (k := 7) rfl (.cons (k := 36) rfl (.nil _))))) ?_
          refine GQ_then ?_
          refine G_cond rfl (fun c5 => ?_) (fun c5 => ?_)
          · skip
            have c5p := c5
            try simp only [decide_eq_true_eq, decide_eq_false_iff_not, Bool.not_eq_true', Bool.not_eq_false', Bool.or_eq_true, Bool.and_eq_true, Bool.or_eq_false_iff, Bool.and_eq_false_iff, Int.not_lt, Int.not_le] at c5p
            refine G_seq ?_
            refine G_region ?_
            refine GL_step rfl (PS_assign rfl) ?_
            refine GL_step rfl (PS_assign rfl) ?_
            refine GL_nil ?_
            refine GQ_sub (.cons (k := 4) rfl (.cons (k := 5) rfl (.nil _))) ?_
            refine GQ_then ?_
            refine G_ret ?_
            refine GQ_then_ret ?_
            refine GQ_block_ret ?_
            refine GQ_then_ret ?_
            refine GQ_block_ret ?_
            refine GQ_then_ret ?_
            refine GQ_then_ret ?_
            refine GQ_block_ret ?_
            refine GQ_then_ret ?_
            refine GQ_ret rfl (.tmp rfl (.tmp rfl .nil)) ?_
            intro w1 hS; refine ⟨?_, hS.toKeep⟩; rw [hI13]; simp only [c1, c2, c3, c4, c5, ↓reduceIte, Bool.false_eq_true]; rfl
          · skip
            have c5p := c5
            try simp only [decide_eq_true_eq, decide_eq_false_iff_not, Bool.not_eq_true', Bool.not_eq_false', Bool.or_eq_true, Bool.and_eq_true, Bool.or_eq_false_iff, Bool.and_eq_false_iff, Int.not_lt, Int.not_le] at c5p
            refine G_skip ?_
            refine GQ_sub (.cons (k := 2) rfl (.cons (k := 6) rfl (.cons (k := 7) rfl (.nil _)))) ?_
            refine GQ_then ?_
            refine G_seq ?_
            refine G_region ?_
            refine GL_step rfl (PS_fieldAddr fa28_3 rfl) ?_
            refine GL_step rfl (PS_load rfl tys3 (.head _) Thing.l3 rfl rfl) ?_
            refine GL_step rfl (PS_fieldAddr fa34_2 rfl) ?_
            refine GL_step rfl (PS_indexAddr ia32 rfl rfl (by omega) (by omega)) ?_
            refine GL_step rfl (PS_fieldAddr fa31_3 rfl) ?_
            refine GL_step rfl (PS_load rfl tys3 (.tail _ (.head _)) ((Land.l2.comp (Lens.arr (n := 6) Being.fl (by omega) (by omega))).comp Being.l3) rfl rfl) ?_
            refine GL_step rfl (PS_move rfl) ?_
            refine GL_step rfl (PS_assign rfl) ?_
            refine GL_step rfl (PS_assign rfl) ?_
            refine GL_nil ?_
            refine GQ_sub (.cons (k := 4) rfl (.cons (k := 5) rfl (.nil _))) ?_
            refine GQ_then ?_
            refine G_ret ?_
            refine GQ_block_ret ?_
            refine GQ_then_ret ?_
            refine GQ_block_ret ?_
            refine GQ_then_ret ?_
            refine GQ_then_ret ?_
            refine GQ_block_ret ?_
            refine GQ_then_ret ?_
            refine GQ_ret rfl (.tmp rfl (.tmp rfl .nil)) ?_
            intro w1 hS; refine ⟨?_, hS.toKeep⟩; rw [hI13]; simp only [c1, c2, c3, c4, c5, ↓reduceIte, Bool.false_eq_true]; rfl
        · skip
          have c4p := c4
          try simp only [decide_eq_true_eq, decide_eq_false_iff_not, Bool.not_eq_true', Bool.not_eq_false', Bool.or_eq_true, Bool.and_eq_true, Bool.or_eq_false_iff, Bool.and_eq_false_iff, Int.not_lt, Int.not_le] at c4p
          refine G_seq ?_
          refine G_region ?_
          refine GL_step rfl (PS_eql rfl rfl) ?_
          refine GL_step rfl (PS_assign rfl) ?_
          refine GL_nil ?_
          refine GQ_sub (.cons (k := 2) rfl (.cons (k := 6) rfl (.cons (k := 7) rfl (.cons (k := 8) rfl (.cons (k := 44) rfl (.nil _)))))) ?_
          refine GQ_then ?_
          refine G_cond rfl (fun c6 => ?_) (fun c6 => ?_)
          · skip
            have c6p := c6
            try simp only [decide_eq_true_eq, decide_eq_false_iff_not, Bool.not_eq_true', Bool.not_eq_false', Bool.or_eq_true, Bool.and_eq_true, Bool.or_eq_false_iff, Bool.and_eq_false_iff, Int.not_lt, Int.not_le] at c6p
            refine G_skip ?_
            refine GQ_sub (.cons (k := 2) rfl (.cons (k := 6) rfl (.cons (k := 7) rfl (.cons (k := 8) rfl (.nil _))))) ?_
            refine GQ_block ?_
            refine GQ_then ?_
            refine G_seq ?_
            refine G_region ?_
            refine GL_step rfl (PS_fieldAddr fa28_3 rfl) ?_
            refine GL_step rfl (PS_load rfl tys3 (.head _) Thing.l3 rfl rfl) ?_
            refine GL_step rfl (PS_assign rfl) ?_
            refine GL_nil ?_
            refine GQ_sub (.cons (k := 1) rfl (.cons (k := 2) rfl (.cons (k := 6) rfl (.cons (k := 8) rfl (.nil _))))) ?_
            refine GQ_then ?_
            refine G_seq ?_
            refine G_region ?_
            refine GL_step rfl (PS_move rfl) ?_
            refine GL_step rfl (PS_geq rfl rfl) ?_
            refine GL_step rfl (PS_move rfl) ?_
            refine GL_gt (t := 50) rfl rfl rfl (fun q => PS_move rfl) ?_
            refine GL_gt (t := 50) rfl rfl rfl (fun q => PS_lss (cvE rfl q) rfl) ?_
            refine GL_step rfl (PS_and rfl rfl (fun h => h)) ?_
            refine GL_step rfl (PS_move rfl) ?_
            refine GL_gt (t := 54) rfl rfl rfl (fun q => PS_move rfl) ?_
            refine GL_gt (t := 54) rfl rfl rfl (fun q => PS_fieldAddr fa34_1 rfl) ?_
            refine GL_gt (t := 54) rfl rfl rfl (fun q => by have q1 := q; (try simp at q1); exact PS_indexAddr ia29 (cvE rfl q) (cvE rfl q) (by omega) (by omega)) ?_
            refine GL_gt (t := 54) rfl rfl rfl (fun q => PS_fieldAddr fa28_4 (cvE rfl q)) ?_
            refine GL_gt (t := 54) rfl rfl rfl (fun q => by have q1 := q; (try simp at q1); exact PS_load (cvE rfl q) tys4 (.tail _ (.head _)) ((Land.l1.comp (Lens.arr (n := 9) Thing.fl (by omega) (by omega))).comp Thing.l4) rfl rfl) ?_
            refine GL_gt (t := 54) rfl rfl rfl (fun q => PS_not (cvE rfl q)) ?_
            refine GL_step rfl (PS_and rfl rfl (fun h => h)) ?_
            refine GL_nil ?_
            refine GQ_sub (.cons (k := 1) rfl (.cons (k := 2) rfl (.cons (k := 6) rfl (.cons (k := 8) rfl (.cons (k := 61) rfl (.nil _)))))) ?_
            refine GQ_then ?_
            refine G_cond rfl (fun c7 => ?_) (fun c7 => ?_)
            · skip
              have c7p := c7
              try simp only [decide_eq_true_eq, decide_eq_false_iff_not, Bool.not_eq_true', Bool.not_eq_false', Bool.or_eq_true, Bool.and_eq_true, Bool.or_eq_false_iff, Bool.and_eq_false_iff, Int.not_lt, Int.not_le] at c7p
              refine G_region ?_
              refine GL_step rfl (PS_assign rfl) ?_
              refine GL_nil ?_
              refine GQ_sub (.cons (k := 1) rfl (.cons (k := 2) rfl (.cons (k := 6) rfl (.cons (k := 8) rfl (.nil _))))) ?_
              refine GQ_block ?_
              refine GQ_then ?_
              refine G_region ?_
              refine GL_step rfl (PS_add rfl rfl (IntWalk.i64_in _ (by omega))) ?_
              refine GL_step rfl (PS_move rfl) ?_
              refine GL_nil ?_
              refine GQ_sub (.cons (k := 1) rfl (.cons (k := 2) rfl (.cons (k := 6) rfl (.cons (k := 8) rfl (.nil _))))) ?_
              refine GQ_next3_ (k + 1) ((X.things.at j).at_) (false) ?_ ?_ (.cons (k := 1) rfl (.cons (k := 6) rfl (.cons (k := 8) rfl (.cons (k := 2) rfl (.nil _))))) (.cons _ (.refl _))
              · exact ⟨by omega, by omega, by rw [hI13]; simp only [c1, c2, c3, c4, c6, c7, ↓reduceIte, Bool.false_eq_true]⟩
              · omega
            · skip
              have c7p := c7
              try simp only [decide_eq_true_eq, decide_eq_false_iff_not, Bool.not_eq_true', Bool.not_eq_false', Bool.or_eq_true, Bool.and_eq_true, Bool.or_eq_false_iff, Bool.and_eq_false_iff, Int.not_lt, Int.not_le] at c7p
              refine G_skip ?_
              refine GQ_sub (.cons (k := 1) rfl (.cons (k := 2) rfl (.cons (k := 6) rfl (.cons (k := 8) rfl (.nil _))))) ?_
              refine GQ_block ?_
              refine GQ_then ?_
              refine G_region ?_
              refine GL_step rfl (PS_add rfl rfl (IntWalk.i64_in _ (by omega))) ?_
              refine GL_step rfl (PS_move rfl) ?_
              refine GL_nil ?_
              refine GQ_sub (.cons (k := 1) rfl (.cons (k := 2) rfl (.cons (k := 6) rfl (.cons (k := 8) rfl (.nil _))))) ?_
              refine GQ_next3_ (k + 1) ((X.things.at j).at_) (o) ?_ ?_ (.cons (k := 1) rfl (.cons (k := 6) rfl (.cons (k := 8) rfl (.cons (k := 2) rfl (.nil _))))) (.cons _ (.refl _))
              · exact ⟨by omega, by omega, by rw [hI13]; simp only [c1, c2, c3, c4, c6, c7, ↓reduceIte, Bool.false_eq_true]⟩
              · omega
          · skip
            have c6p := c6
            try simp only [decide_eq_true_eq, decide_eq_false_iff_not, Bool.not_eq_true', Bool.not_eq_false', Bool.or_eq_true, Bool.and_eq_true, Bool.or_eq_false_iff, Bool.and_eq_false_iff, Int.not_lt, Int.not_le] at c6p
            refine G_seq ?_
            refine G_region ?_
            refine GL_step rfl (PS_assign rfl) ?_
            refine GL_step rfl (PS_assign rfl) ?_
            refine GL_nil ?_
            refine GQ_sub (.cons (k := 4) rfl (.cons (k := 5) rfl (.nil _))) ?_
            refine GQ_then ?_
            refine G_ret ?_
            refine GQ_block_ret ?_
            refine GQ_then_ret ?_
            refine GQ_block_ret ?_
            refine GQ_then_ret ?_
            refine GQ_then_ret ?_
            refine GQ_block_ret ?_
            refine GQ_then_ret ?_
            refine GQ_ret rfl (.tmp rfl (.tmp rfl .nil)) ?_
            intro w1 hS; refine ⟨?_, hS.toKeep⟩; rw [hI13]; simp only [c1, c2, c3, c4, c6, ↓reduceIte, Bool.false_eq_true]; rfl
  · skip
    have c1p := c1
    try simp only [decide_eq_true_eq, decide_eq_false_iff_not, Bool.not_eq_true', Bool.not_eq_false', Bool.or_eq_true, Bool.and_eq_true, Bool.or_eq_false_iff, Bool.and_eq_false_iff, Int.not_lt, Int.not_le] at c1p
    obtain rfl : k = 10 := by omega
    refine G_exit ?_
    refine GQ_then_exit ?_
    refine GQ_then_exit ?_
    refine GQ_block_exit ?_
    refine GQ_sub (.nil _) ?_
    refine GQ_then ?_
    refine G_seq ?_
    refine G_region ?_
    refine GL_step rfl (PS_assign rfl) ?_
    refine GL_step rfl (PS_assign rfl) ?_
    refine GL_nil ?_
    refine GQ_then ?_
    refine G_ret ?_
    refine GQ_ret rfl (.tmp rfl (.tmp rfl .nil)) ?_
    intro w1 hS; refine ⟨?_, hS.toKeep⟩; rw [hI13]; rfl
theorem sense_Bright_spec (X : Land) (r : Int) (w : World) : Ret Tryd.prog 8 #[.agg X.enc.toArray, .int .i64 r] w fun v w' => v = .bool (X.bright r) ∧ Keep w w' := by
  refine Ret_body [] [] Tryd.func8 rfl rfl rfl (St.start w []) ?_
  refine G_seq ?_
  refine G_region ?_
  refine GL_box rfl rfl rfl (fun b1 => ?_)
  refine GL_step rfl (PS_assign rfl) ?_
  refine GL_nil ?_
  refine GQ_sub (.cons (k := 1) rfl (.cons (k := 2) rfl (.nil _))) ?_
  refine GQ_then ?_
  refine G_seq ?_
  refine G_seq ?_
  refine G_region ?_
  refine GL_step rfl (PS_move rfl) ?_
  refine GL_step rfl (PS_lss rfl rfl) ?_
  refine GL_step rfl (PS_move rfl) ?_
  refine GL_gf (t := 11) rfl rfl rfl (fun q => PS_move rfl) ?_
  refine GL_gf (t := 11) rfl rfl rfl (fun q => PS_geq (cvE rfl (by rw [q]; rfl)) rfl) ?_
  refine GL_step rfl (PS_or rfl rfl (fun h => by rw [h]; rfl)) ?_
  refine GL_nil ?_
  refine GQ_sub (.cons (k := 1) rfl (.cons (k := 2) rfl (.cons (k := 14) rfl (.nil _)))) ?_
  refine GQ_then ?_
  refine G_cond rfl (fun c1 => ?_) (fun c1 => ?_)
  · skip
    have c1p := c1
    try simp only [decide_eq_true_eq, decide_eq_false_iff_not, Bool.not_eq_true', Bool.not_eq_false', Bool.or_eq_true, Bool.and_eq_true, Bool.or_eq_false_iff, Bool.and_eq_false_iff, Int.not_lt, Int.not_le] at c1p
    refine G_seq ?_
    refine G_region ?_
    refine GL_step rfl (PS_assign rfl) ?_
    refine GL_nil ?_
    refine GQ_sub (.cons (k := 4) rfl (.nil _)) ?_
    refine GQ_then ?_
    refine G_ret ?_
    refine GQ_then_ret ?_
    refine GQ_ret rfl (.tmp rfl .nil) ?_
    intro w1 hS; refine ⟨congrArg Value.bool ?_, hS.toKeep⟩; rw [show X.bright r = _ from if_t c1]
  · skip
    have c1p := c1
    try simp only [decide_eq_true_eq, decide_eq_false_iff_not, Bool.not_eq_true', Bool.not_eq_false', Bool.or_eq_true, Bool.and_eq_true, Bool.or_eq_false_iff, Bool.and_eq_false_iff, Int.not_lt, Int.not_le] at c1p
    have hr : 0 ≤ r ∧ r < 6 := by simp at c1; omega
    refine G_skip ?_
    refine GQ_sub (.cons (k := 1) rfl (.cons (k := 2) rfl (.nil _))) ?_
    refine GQ_then ?_
    refine G_seq ?_
    refine G_seq ?_
    refine G_region ?_
    refine GL_step rfl (PS_move rfl) ?_
    refine GL_step rfl (PS_fieldAddr fa34_0 rfl) ?_
    refine GL_step rfl (PS_indexAddr ia26 rfl rfl (by omega) (by omega)) ?_
    refine GL_step rfl (PS_fieldAddr fa25_1 rfl) ?_
    refine GL_step rfl (PS_load rfl tys4 (.head _) ((Land.l0.comp (Lens.arr (n := 6) Room.fl (by omega) (by omega))).comp Room.l1) rfl rfl) ?_
    refine GL_step rfl (PS_not rfl) ?_
    refine GL_nil ?_
    refine GQ_sub (.cons (k := 1) rfl (.cons (k := 2) rfl (.cons (k := 20) rfl (.nil _)))) ?_
    refine GQ_then ?_
    refine G_cond rfl (fun c2 => ?_) (fun c2 => ?_)
    · skip
      have c2p := c2
      try simp only [decide_eq_true_eq, decide_eq_false_iff_not, Bool.not_eq_true', Bool.not_eq_false', Bool.or_eq_true, Bool.and_eq_true, Bool.or_eq_false_iff, Bool.and_eq_false_iff, Int.not_lt, Int.not_le] at c2p
      refine G_seq ?_
      refine G_region ?_
      refine GL_step rfl (PS_assign rfl) ?_
      refine GL_nil ?_
      refine GQ_sub (.cons (k := 4) rfl (.nil _)) ?_
      refine GQ_then ?_
      refine G_ret ?_
      refine GQ_then_ret ?_
      refine GQ_ret rfl (.tmp rfl .nil) ?_
      intro w1 hS; refine ⟨congrArg Value.bool ?_, hS.toKeep⟩; rw [show X.bright r = _ from (if_f c1).trans (if_t c2)]
    · skip
      have c2p := c2
      try simp only [decide_eq_true_eq, decide_eq_false_iff_not, Bool.not_eq_true', Bool.not_eq_false', Bool.or_eq_true, Bool.and_eq_true, Bool.or_eq_false_iff, Bool.and_eq_false_iff, Int.not_lt, Int.not_le] at c2p
      refine G_skip ?_
      refine GQ_sub (.cons (k := 1) rfl (.cons (k := 2) rfl (.nil _))) ?_
      refine GQ_then ?_
      refine G_seq ?_
      refine G_seq ?_
      refine G_region ?_
      refine GL_step rfl (PS_fieldAddr fa34_1 rfl) ?_
      refine GL_step rfl (PS_loadA rfl tya29 (.head _) Land.l1 rfl) ?_
      refine GL_step rfl (PS_move rfl) ?_
      refine GL_nil ?_
      refine GQ_sub (.cons (k := 1) rfl (.cons (k := 2) rfl (.cons (k := 22) rfl (.cons (k := 23) rfl (.nil _))))) ?_
      refine GQ_then ?_
      refine G_block ?_
      refine G_subF (.cons (k := 23) rfl (.cons (k := 1) rfl (.cons (k := 2) rfl (.cons (k := 22) rfl (.nil _))))) ?_
      refine G_loop1_ (fun (k : Int) => 0 ≤ k ∧ k ≤ 9 ∧ allFrom 9 (fun i => !X.lit r i) 9 = allFrom 9 (fun i => !X.lit r i) (9 - k).toNat) (fun (k : Int) => (9 - k).toNat) (fun (k : Int) => [(23, .int .i64 k)]) (fun (k : Int) => []) (0) ?_ rfl rfl (fun k hI1 => ?_)
      · exact ⟨by omega, by omega, rfl⟩
      obtain ⟨hI11, hI12, hI13⟩ := hI1
      refine G_seq ?_
      refine G_region ?_
      refine GL_step rfl (PS_lss rfl rfl) ?_
      refine GL_nil ?_
      refine GQ_then ?_
      refine G_seq ?_
      refine G_cond rfl (fun c3 => ?_) (fun c3 => ?_)
      · skip
        have c3p := c3
        try simp only [decide_eq_true_eq, decide_eq_false_iff_not, Bool.not_eq_true', Bool.not_eq_false', Bool.or_eq_true, Bool.and_eq_true, Bool.or_eq_false_iff, Bool.and_eq_false_iff, Int.not_lt, Int.not_le] at c3p
        rw [allFrom_step _ (by omega)] at hI13
        refine G_skip ?_
        refine GQ_sub (.cons (k := 1) rfl (.cons (k := 2) rfl (.cons (k := 22) rfl (.cons (k := 23) rfl (.nil _))))) ?_
        refine GQ_then ?_
        refine G_seq ?_
        refine G_block ?_
        refine G_seq ?_
        refine G_region ?_
        refine GL_step rfl (PS_move rfl) ?_
        refine GL_step rfl (PS_indexAA Thing.fl Tryd.underlying29 tya28 rfl rfl (by omega) (by omega)) ?_
        refine GL_alloc rfl zv28 rfl (fun b2 => ?_)
        refine GL_step rfl (PS_assign rfl) ?_
        refine GL_unit (PU_store (Lens.id Thing.fl.len Thing.fl.one) rfl rfl rfl sz28 rfl .head) ?_
        refine GL_nil ?_
        refine GQ_sub (.cons (k := 1) rfl (.cons (k := 2) rfl (.cons (k := 5) rfl (.cons (k := 6) rfl (.cons (k := 22) rfl (.cons (k := 23) rfl (.nil _))))))) ?_
        refine GQ_then ?_
        refine G_seq ?_
        refine G_seq ?_
        refine G_region ?_
        refine GL_step rfl (PS_fieldAddr fa28_1 rfl) ?_
        refine GL_step rfl (PS_load rfl tys3 (.head _) Thing.l1 rfl rfl) ?_
        refine GL_step rfl (PS_neq rfl rfl) ?_
        refine GL_step rfl (PS_move rfl) ?_
        refine GL_gf (t := 30) rfl rfl rfl (fun q => PS_fieldAddr fa28_4 rfl) ?_
        refine GL_gf (t := 30) rfl rfl rfl (fun q => PS_load (cvE rfl (by rw [q]; rfl)) tys4 (.head _) Thing.l4 rfl rfl) ?_
        refine GL_gf (t := 30) rfl rfl rfl (fun q => PS_not (cvE rfl (by rw [q]; rfl))) ?_
        refine GL_step rfl (PS_or rfl rfl (fun h => by rw [h]; rfl)) ?_
        refine GL_nil ?_
        refine GQ_sub (.cons (k := 1) rfl (.cons (k := 2) rfl (.cons (k := 5) rfl (.cons (k := 22) rfl (.cons (k := 23) rfl (.cons (k := 34) rfl (.nil _))))))) ?_
        refine GQ_then ?_
        refine G_cond rfl (fun c4 => ?_) (fun c4 => ?_)
        · skip
          have c4p := c4
          try simp only [decide_eq_true_eq, decide_eq_false_iff_not, Bool.not_eq_true', Bool.not_eq_false', Bool.or_eq_true, Bool.and_eq_true, Bool.or_eq_false_iff, Bool.and_eq_false_iff, Int.not_lt, Int.not_le] at c4p
          refine G_exit ?_
          refine GQ_then_exit ?_
          refine GQ_block_exit ?_
          refine GQ_sub (.cons (k := 1) rfl (.cons (k := 2) rfl (.cons (k := 22) rfl (.cons (k := 23) rfl (.nil _))))) ?_
          refine GQ_then ?_
          refine G_region ?_
          refine GL_step rfl (PS_add rfl rfl (IntWalk.i64_in _ (by omega))) ?_
          refine GL_step rfl (PS_move rfl) ?_
          refine GL_nil ?_
          refine GQ_sub (.cons (k := 1) rfl (.cons (k := 2) rfl (.cons (k := 22) rfl (.cons (k := 23) rfl (.nil _))))) ?_
          refine GQ_next1_ (k + 1) ?_ ?_ (.cons (k := 23) rfl (.cons (k := 1) rfl (.cons (k := 2) rfl (.cons (k := 22) rfl (.nil _))))) (.cons _ (.refl _))
          · exact ⟨by omega, by omega, by rw [hI13, show X.lit r k = false from by rw [Land.lit, c4]; first | rfl | exact Bool.and_false _]; rfl⟩
          · omega
        · skip
          have c4p := c4
          try simp only [decide_eq_true_eq, decide_eq_false_iff_not, Bool.not_eq_true', Bool.not_eq_false', Bool.or_eq_true, Bool.and_eq_true, Bool.or_eq_false_iff, Bool.and_eq_false_iff, Int.not_lt, Int.not_le] at c4p
          refine G_skip ?_
          refine GQ_sub (.cons (k := 1) rfl (.cons (k := 2) rfl (.cons (k := 5) rfl (.cons (k := 22) rfl (.cons (k := 23) rfl (.nil _)))))) ?_
          refine GQ_then ?_
          refine G_seq ?_
          refine G_region ?_
          refine GL_step rfl (PS_loadA rfl tya34 (.tail _ (.head _)) (Lens.id Land.fl.len Land.fl.one) rfl) ?_
          refine GL_step rfl (PS_move rfl) ?_
          refine GL_pure rfl cf22 (.cons rfl (.cons rfl .nil)) (fun w hS => land_Room_spec _ _ w) ?_
          refine GL_step rfl (PS_move rfl) ?_
          refine GL_step rfl (PS_extract rfl rfl) ?_
          refine GL_step rfl (PS_extract rfl rfl) ?_
          refine GL_step rfl (PS_assign rfl) ?_
          refine GL_step rfl (PS_assign rfl) ?_
          refine GL_nil ?_
          refine GQ_sub (.cons (k := 1) rfl (.cons (k := 2) rfl (.cons (k := 7) rfl (.cons (k := 8) rfl (.cons (k := 22) rfl (.cons (k := 23) rfl (.nil _))))))) ?_
          refine GQ_then ?_
          refine G_seq ?_
          refine G_region ?_
          refine GL_step rfl (PS_move rfl) ?_
          refine GL_step rfl (PS_move rfl) ?_
          refine GL_step rfl (PS_eql rfl rfl) ?_
          refine GL_step rfl (PS_move rfl) ?_
          refine GL_gt (t := 44) rfl rfl rfl (fun q => PS_move rfl) ?_
          refine GL_step rfl (PS_and rfl rfl (fun h => h)) ?_
          refine GL_nil ?_
          refine GQ_sub (.cons (k := 1) rfl (.cons (k := 2) rfl (.cons (k := 22) rfl (.cons (k := 23) rfl (.cons (k := 46) rfl (.nil _)))))) ?_
          refine GQ_then ?_
          refine G_cond rfl (fun c5 => ?_) (fun c5 => ?_)
          · skip
            have c5p := c5
            try simp only [decide_eq_true_eq, decide_eq_false_iff_not, Bool.not_eq_true', Bool.not_eq_false', Bool.or_eq_true, Bool.and_eq_true, Bool.or_eq_false_iff, Bool.and_eq_false_iff, Int.not_lt, Int.not_le] at c5p
            refine G_seq ?_
            refine G_region ?_
            refine GL_step rfl (PS_assign rfl) ?_
            refine GL_nil ?_
            refine GQ_sub (.cons (k := 4) rfl (.nil _)) ?_
            refine GQ_then ?_
            refine G_ret ?_
            refine GQ_block_ret ?_
            refine GQ_then_ret ?_
            refine GQ_then_ret ?_
            refine GQ_block_ret ?_
            refine GQ_then_ret ?_
            refine GQ_ret rfl (.tmp rfl .nil) ?_
            intro w1 hS; refine ⟨congrArg Value.bool ?_, hS.toKeep⟩; rw [show X.bright r = _ from (if_f c1).trans (if_f c2), hI13, show X.lit r k = true from by rw [Land.lit, c4, c5]; rfl]; rfl
          · skip
            have c5p := c5
            try simp only [decide_eq_true_eq, decide_eq_false_iff_not, Bool.not_eq_true', Bool.not_eq_false', Bool.or_eq_true, Bool.and_eq_true, Bool.or_eq_false_iff, Bool.and_eq_false_iff, Int.not_lt, Int.not_le] at c5p
            refine G_skip ?_
            refine GQ_sub (.cons (k := 1) rfl (.cons (k := 2) rfl (.cons (k := 22) rfl (.cons (k := 23) rfl (.nil _))))) ?_
            refine GQ_block ?_
            refine GQ_then ?_
            refine G_region ?_
            refine GL_step rfl (PS_add rfl rfl (IntWalk.i64_in _ (by omega))) ?_
            refine GL_step rfl (PS_move rfl) ?_
            refine GL_nil ?_
            refine GQ_sub (.cons (k := 1) rfl (.cons (k := 2) rfl (.cons (k := 22) rfl (.cons (k := 23) rfl (.nil _))))) ?_
            refine GQ_next1_ (k + 1) ?_ ?_ (.cons (k := 23) rfl (.cons (k := 1) rfl (.cons (k := 2) rfl (.cons (k := 22) rfl (.nil _))))) (.cons _ (.refl _))
            · exact ⟨by omega, by omega, by rw [hI13, show X.lit r k = false from by rw [Land.lit, c5]; first | rfl | exact Bool.and_false _]; rfl⟩
            · omega
      · skip
        have c3p := c3
        try simp only [decide_eq_true_eq, decide_eq_false_iff_not, Bool.not_eq_true', Bool.not_eq_false', Bool.or_eq_true, Bool.and_eq_true, Bool.or_eq_false_iff, Bool.and_eq_false_iff, Int.not_lt, Int.not_le] at c3p
        obtain rfl : k = 9 := by omega
        refine G_exit ?_
        refine GQ_then_exit ?_
        refine GQ_then_exit ?_
        refine GQ_block_exit ?_
        refine GQ_sub (.nil _) ?_
        refine GQ_then ?_
        refine G_seq ?_
        refine G_region ?_
        refine GL_step rfl (PS_assign rfl) ?_
        refine GL_nil ?_
        refine GQ_then ?_
        refine G_ret ?_
        refine GQ_ret rfl (.tmp rfl .nil) ?_
        intro w1 hS; refine ⟨congrArg Value.bool ?_, hS.toKeep⟩; rw [show X.bright r = _ from (if_f c1).trans (if_f c2), hI13]; rfl
theorem ref_root_spec (X : Land) (i : Int) (w : World) : Ret Tryd.prog 37 #[.agg X.enc.toArray, .int .i64 i] w fun v w' => v = .tuple #[.int .i64 (Land.root X i).1, .int .i64 (Land.root X i).2.1, .bool (Land.root X i).2.2.1, .bool (Land.root X i).2.2.2] ∧ Keep w w' := by
  refine Ret_body [] [] Tryd.func37 rfl rfl rfl (St.start w []) ?_
  refine G_seq ?_
  refine G_region ?_
  refine GL_box rfl rfl rfl (fun b1 => ?_)
  refine GL_step rfl (PS_assign rfl) ?_
  refine GL_step rfl (PS_assign rfl) ?_
  refine GL_step rfl (PS_assign rfl) ?_
  refine GL_step rfl (PS_assign rfl) ?_
  refine GL_nil ?_
  refine GQ_sub (.cons (k := 1) rfl (.cons (k := 2) rfl (.nil _))) ?_
  refine GQ_then ?_
  refine G_seq ?_
  refine G_region ?_
  refine GL_step rfl (PS_assign rfl) ?_
  refine GL_nil ?_
  refine GQ_then ?_
  refine G_seq ?_
  refine G_region ?_
  refine GL_makeMap rfl (fun b2 => ?_)
  refine GL_step rfl (PS_assign rfl) ?_
  refine GL_nil ?_
  refine GQ_sub (.cons (k := 1) rfl (.cons (k := 2) rfl (.cons (k := 6) rfl (.cons (k := 8) rfl (.nil _))))) ?_
  refine GQ_then ?_
  refine G_seq ?_
  refine G_block ?_
  refine G_subF (.cons (k := 1) rfl (.cons (k := 6) rfl (.cons (k := 2) rfl (.cons (k := 8) rfl (.nil _))))) ?_
  refine G_loop3_ (fun (j : Int) (o : Bool) (s : List Int) => Land.root X i = X.rootF (10 - s.length) j o ∧ X.SeenI s j) (fun (j : Int) (o : Bool) (s : List Int) => leftN s) (fun (j : Int) (o : Bool) (s : List Int) => [(1, .int .i64 j), (6, .bool o)]) (fun (j : Int) (o : Bool) (s : List Int) => [Res.imap b2 (kvOf s)]) (i) (true) ([]) ?_ rfl rfl (fun j o s hI1 => ?_)
  · exact ⟨rfl, Land.SeenI.start X i⟩
  obtain ⟨hI11, hI12⟩ := hI1
  refine G_seq ?_
  refine G_seq ?_
  refine G_region ?_
  refine GL_step rfl (PS_move rfl) ?_
  refine GL_step rfl (PS_geq rfl rfl) ?_
  refine GL_step rfl (PS_move rfl) ?_
  refine GL_gt (t := 13) rfl rfl rfl (fun q => PS_move rfl) ?_
  refine GL_gt (t := 13) rfl rfl rfl (fun q => PS_lss (cvE rfl q) rfl) ?_
  refine GL_step rfl (PS_and rfl rfl (fun h => h)) ?_
  refine GL_step rfl (PS_move rfl) ?_
  refine GL_gt (t := 17) rfl rfl rfl (fun q => PS_move rfl) ?_
  refine GL_gt (t := 17) rfl rfl rfl (fun q => PS_move rfl) ?_
  refine GL_gt (t := 17) rfl rfl rfl (fun q => PS_conv (PS_lookup1 Tryd.underlying72 Tryd.underlying3 zv4 (cvE rfl q) (cvE rfl q) (.head _)) (seen_eq _ _)) ?_
  refine GL_gt (t := 17) rfl rfl rfl (fun q => PS_not (cvE rfl q)) ?_
  refine GL_step rfl (PS_and rfl rfl (fun h => h)) ?_
  refine GL_nil ?_
  refine GQ_sub (.cons (k := 1) rfl (.cons (k := 2) rfl (.cons (k := 6) rfl (.cons (k := 8) rfl (.cons (k := 22) rfl (.nil _)))))) ?_
  refine GQ_then ?_
  refine G_cond rfl (fun c1 => ?_) (fun c1 => ?_)
  · skip
    have c1p := c1
    try simp only [decide_eq_true_eq, decide_eq_false_iff_not, Bool.not_eq_true', Bool.not_eq_false', Bool.or_eq_true, Bool.and_eq_true, Bool.or_eq_false_iff, Bool.and_eq_false_iff, Int.not_lt, Int.not_le] at c1p
    have hr : 0 ≤ j ∧ j < 9 ∧ j ∉ s := by simp at c1; exact ⟨c1.1.1, c1.1.2, c1.2⟩
    obtain ⟨hj0, hj9, hns⟩ := hr
    refine G_skip ?_
    refine GQ_sub (.cons (k := 1) rfl (.cons (k := 2) rfl (.cons (k := 6) rfl (.cons (k := 8) rfl (.nil _))))) ?_
    refine GQ_then ?_
    refine G_block ?_
    refine G_seq ?_
    refine G_region ?_
    refine GL_step rfl (PS_move rfl) ?_
    refine GL_step rfl (PS_move rfl) ?_
    refine GL_unit (PU_mapSet Tryd.underlying72 Tryd.underlying3 rfl rfl rfl (seen_none hns) .head).1 ?_
    refine GL_nil ?_
    refine GQ_sub (.cons (k := 1) rfl (.cons (k := 2) rfl (.cons (k := 6) rfl (.cons (k := 8) rfl (.nil _))))) ?_
    refine GQ_then ?_
    refine G_seq ?_
    refine G_region ?_
    refine GL_step rfl (PS_move rfl) ?_
    refine GL_step rfl (PS_fieldAddr fa34_1 rfl) ?_
    refine GL_step rfl (PS_indexAddr ia29 rfl rfl (by omega) (by omega)) ?_
    refine GL_step rfl (PS_loadA rfl tya28 (.tail _ (.head _)) (Land.l1.comp (Lens.arr (n := 9) Thing.fl (by omega) (by omega))) rfl) ?_
    refine GL_alloc rfl zv28 rfl (fun b3 => ?_)
    refine GL_unit (PU_store (Lens.id Thing.fl.len Thing.fl.one) rfl rfl rfl sz28 rfl .head) ?_
    refine GL_nil ?_
    refine GQ_sub (.cons (k := 2) rfl (.cons (k := 6) rfl (.cons (k := 8) rfl (.cons (k := 9) rfl (.nil _))))) ?_
    refine GQ_then ?_
    refine G_seq ?_
    refine G_seq ?_
    refine G_region ?_
    refine GL_step rfl (PS_fieldAddr fa28_2 rfl) ?_
    refine GL_step rfl (PS_load rfl tys3 (.head _) Thing.l2 rfl rfl) ?_
    refine GL_step rfl (PS_neq rfl rfl) ?_
    refine GL_nil ?_
    refine GQ_sub (.cons (k := 2) rfl (.cons (k := 6) rfl (.cons (k := 8) rfl (.cons (k := 9) rfl (.cons (k := 31) rfl (.nil _)))))) ?_
    refine GQ_then ?_
    refine G_cond rfl (fun c2 => ?_) (fun c2 => ?_)
    · skip
      have c2p := c2
      try simp only [decide_eq_true_eq, decide_eq_false_iff_not, Bool.not_eq_true', Bool.not_eq_false', Bool.or_eq_true, Bool.and_eq_true, Bool.or_eq_false_iff, Bool.and_eq_false_iff, Int.not_lt, Int.not_le] at c2p
      refine G_seq ?_
      refine G_planN (N := 17) [0, 1, 0, 4, 0, 0, 32, 96, 224, 480, 992, 2016, 4064, 483, 8687, 25087, 65535] mix (by kernel_rfl) rfl ?_
      refine Plan_float 0 rfl rfl (by kernel_rfl) (OK_s (EX_s (PS_fieldAddr fa28_2 rfl))) ?_
      refine Plan_float 1 rfl rfl (by kernel_rfl) (OK_s (EX_s (PS_load rfl tys3 (.head _) Thing.l2 rfl rfl))) ?_
      refine Plan_float 2 rfl rfl (by kernel_rfl) (OK_s (EX_s (PS_fieldAddr fa28_3 rfl))) ?_
      refine Plan_float 3 rfl rfl (by kernel_rfl) (OK_s (EX_s (PS_load rfl tys3 (.head _) Thing.l3 rfl rfl))) ?_
      refine Plan_float 4 rfl rfl (by kernel_rfl) (OK_s (EX_s (PS_move rfl))) ?_
      refine Plan_float 5 rfl rfl (by kernel_rfl) (OK_s (EX_s (PS_fieldAddr fa28_2 rfl))) ?_
      refine Plan_float 6 rfl rfl (by kernel_rfl) (OK_s (EX_s (PS_load rfl tys3 (.head _) Thing.l2 rfl rfl))) ?_
      refine Plan_float 7 rfl rfl (by kernel_rfl) (OK_s (EX_s (PS_eql rfl rfl))) ?_
      refine Plan_float 8 rfl rfl (by kernel_rfl) (OK_s (EX_s (PS_move rfl))) ?_
      refine Plan_float 9 rfl rfl (by kernel_rfl) (OK_gf (t := 40) rfl rfl (fun q => EX_s (PS_fieldAddr fa28_2 rfl))) ?_
      refine Plan_float 10 rfl rfl (by kernel_rfl) (OK_gf (t := 40) rfl rfl (fun q => EX_s (PS_load (cvE rfl (by rw [q]; rfl)) tys3 (.head _) Thing.l2 rfl rfl))) ?_
      refine Plan_float 11 rfl rfl (by kernel_rfl) (OK_gf (t := 40) rfl rfl (fun q => EX_s (PS_eql (cvE rfl (by rw [q]; rfl)) rfl))) ?_
      refine Plan_float 12 rfl rfl (by kernel_rfl) (OK_s (EX_s (PS_or rfl rfl (fun h => by rw [h]; rfl)))) ?_
      refine Plan_float 13 rfl rfl (by kernel_rfl) (OK_s (EX_s (PS_assign rfl))) ?_
      refine Plan_float 14 rfl rfl (by kernel_rfl) (OK_s (EX_s (PS_assign rfl))) ?_
      refine Plan_float 15 rfl rfl (by kernel_rfl) (OK_s (EX_s (PS_assign rfl))) ?_
      refine Plan_float 16 rfl rfl (by kernel_rfl) (OK_s (EX_s (PS_assign rfl))) ?_
      refine Plan_end (by kernel_rfl) ?_
      refine GQ_sub (.cons (k := 4) rfl (.cons (k := 5) rfl (.cons (k := 6) rfl (.cons (k := 7) rfl (.nil _))))) ?_
      refine GQ_then ?_
      refine G_ret ?_
      refine GQ_then_ret ?_
      refine GQ_block_ret ?_
      refine GQ_then_ret ?_
      refine GQ_block_ret ?_
      refine GQ_then_ret ?_
      refine GQ_ret rfl (.tmp rfl (.tmp rfl (.tmp rfl (.tmp rfl .nil)))) ?_
      intro w1 hS; refine ⟨?_, hS.toKeep⟩; rw [hI11, hI12.out hj0 hj9 c2]; rfl
    · skip
      have c2p := c2
      try simp only [decide_eq_true_eq, decide_eq_false_iff_not, Bool.not_eq_true', Bool.not_eq_false', Bool.or_eq_true, Bool.and_eq_true, Bool.or_eq_false_iff, Bool.and_eq_false_iff, Int.not_lt, Int.not_le] at c2p
      have hse := hI12.next hj0 hj9 hns (by simpa using c2)
      have hst := hI12.step (o := o) hse hj0 hj9 c2
      refine G_skip ?_
      refine GQ_sub (.cons (k := 2) rfl (.cons (k := 6) rfl (.cons (k := 8) rfl (.cons (k := 9) rfl (.nil _))))) ?_
      refine GQ_then ?_
      refine G_seq ?_
      refine G_region ?_
      refine GL_step rfl (PS_fieldAddr fa28_3 rfl) ?_
      refine GL_step rfl (PS_load rfl tys3 (.head _) Thing.l3 rfl rfl) ?_
      refine GL_step rfl (PS_assign rfl) ?_
      refine GL_nil ?_
      refine GQ_sub (.cons (k := 1) rfl (.cons (k := 2) rfl (.cons (k := 6) rfl (.cons (k := 8) rfl (.nil _))))) ?_
      refine GQ_then ?_
      refine G_seq ?_
      refine G_region ?_
      refine GL_step rfl (PS_move rfl) ?_
      refine GL_step rfl (PS_geq rfl rfl) ?_
      refine GL_step rfl (PS_move rfl) ?_
      refine GL_gt (t := 49) rfl rfl rfl (fun q => PS_move rfl) ?_
      refine GL_gt (t := 49) rfl rfl rfl (fun q => PS_lss (cvE rfl q) rfl) ?_
      refine GL_step rfl (PS_and rfl rfl (fun h => h)) ?_
      refine GL_nil ?_
      refine GQ_sub (.cons (k := 1) rfl (.cons (k := 2) rfl (.cons (k := 6) rfl (.cons (k := 8) rfl (.cons (k := 52) rfl (.nil _)))))) ?_
      refine GQ_then ?_
      refine G_cond rfl (fun c3 => ?_) (fun c3 => ?_)
      · skip
        have c3p := c3
        try simp only [decide_eq_true_eq, decide_eq_false_iff_not, Bool.not_eq_true', Bool.not_eq_false', Bool.or_eq_true, Bool.and_eq_true, Bool.or_eq_false_iff, Bool.and_eq_false_iff, Int.not_lt, Int.not_le] at c3p
        have hjr : 0 ≤ (X.things.at j).at_ ∧ (X.things.at j).at_ < 9 := by simp at c3; omega
        refine G_region ?_
        refine GL_step rfl (PS_move rfl) ?_
        refine GL_step rfl (PS_move rfl) ?_
        refine GL_gt (t := 54) rfl rfl rfl (fun q => PS_move rfl) ?_
        refine GL_gt (t := 54) rfl rfl rfl (fun q => PS_fieldAddr fa34_1 rfl) ?_
        refine GL_gt (t := 54) rfl rfl rfl (fun q => by have q1 := q; (try simp at q1); exact PS_indexAddr ia29 (cvE rfl q) (cvE rfl q) (by omega) (by omega)) ?_
        refine GL_gt (t := 54) rfl rfl rfl (fun q => PS_fieldAddr fa28_4 (cvE rfl q)) ?_
        refine GL_gt (t := 54) rfl rfl rfl (fun q => by have q1 := q; (try simp at q1); exact PS_load (cvE rfl q) tys4 (.tail _ (.tail _ (.head _))) ((Land.l1.comp (Lens.arr (n := 9) Thing.fl (by omega) (by omega))).comp Thing.l4) rfl rfl) ?_
        refine GL_step rfl (PS_and rfl rfl (fun h => h)) ?_
        refine GL_step rfl (PS_assign rfl) ?_
        refine GL_nil ?_
        refine GQ_sub (.cons (k := 1) rfl (.cons (k := 2) rfl (.cons (k := 6) rfl (.cons (k := 8) rfl (.nil _))))) ?_
        refine GQ_block ?_
        refine GQ_next3_ _ _ (s ++ [j]) ?_ ?_ (.cons (k := 1) rfl (.cons (k := 6) rfl (.cons (k := 2) rfl (.cons (k := 8) rfl (.nil _))))) (by rw [kvOf_snoc]; exact (.cons _ (.refl _)))
        · exact ⟨by rw [hI11, hst, if_pos c3], hse⟩
        · have := leftN_snoc hns hj0 hj9; omega
      · skip
        have c3p := c3
        try simp only [decide_eq_true_eq, decide_eq_false_iff_not, Bool.not_eq_true', Bool.not_eq_false', Bool.or_eq_true, Bool.and_eq_true, Bool.or_eq_false_iff, Bool.and_eq_false_iff, Int.not_lt, Int.not_le] at c3p
        refine G_skip ?_
        refine GQ_sub (.cons (k := 1) rfl (.cons (k := 2) rfl (.cons (k := 6) rfl (.cons (k := 8) rfl (.nil _))))) ?_
        refine GQ_block ?_
        refine GQ_next3_ _ _ (s ++ [j]) ?_ ?_ (.cons (k := 1) rfl (.cons (k := 6) rfl (.cons (k := 2) rfl (.cons (k := 8) rfl (.nil _))))) (by rw [kvOf_snoc]; exact (.cons _ (.refl _)))
        · exact ⟨by rw [hI11, hst, if_neg (by rw [c3]; decide)], hse⟩
        · have := leftN_snoc hns hj0 hj9; omega
  · skip
    have c1p := c1
    try simp only [decide_eq_true_eq, decide_eq_false_iff_not, Bool.not_eq_true', Bool.not_eq_false', Bool.or_eq_true, Bool.and_eq_true, Bool.or_eq_false_iff, Bool.and_eq_false_iff, Int.not_lt, Int.not_le] at c1p
    refine G_exit ?_
    refine GQ_then_exit ?_
    refine GQ_then_exit ?_
    refine GQ_block_exit ?_
    refine GQ_sub (.nil _) ?_
    refine GQ_then ?_
    refine G_seq ?_
    refine G_region ?_
    refine GL_step rfl (PS_assign rfl) ?_
    refine GL_step rfl (PS_assign rfl) ?_
    refine GL_step rfl (PS_assign rfl) ?_
    refine GL_step rfl (PS_assign rfl) ?_
    refine GL_nil ?_
    refine GQ_then ?_
    refine G_ret ?_
    refine GQ_ret rfl (.tmp rfl (.tmp rfl (.tmp rfl (.tmp rfl .nil)))) ?_
    intro w1 hS; refine ⟨?_, hS.toKeep⟩; rw [hI11, hI12.ends c1]; rfl
theorem ref_RoomOf_spec (X : Land) (i : Int) (w : World) : Ret Tryd.prog 23 #[.agg X.enc.toArray, .int .i64 i] w fun v w' => v = .tuple #[.int .i64 (X.room i).1, .bool (X.room i).2] ∧ Keep w w' := by
  refine Ret_body [] [] Tryd.func23 rfl rfl rfl (St.start w []) ?_
  refine G_seq ?_
  refine G_region ?_
  refine GL_box rfl rfl rfl (fun b1 => ?_)
  refine GL_step rfl (PS_assign rfl) ?_
  refine GL_step rfl (PS_assign rfl) ?_
  refine GL_nil ?_
  refine GQ_sub (.cons (k := 1) rfl (.cons (k := 2) rfl (.nil _))) ?_
  refine GQ_then ?_
  refine G_seq ?_
  refine G_region ?_
  refine GL_step rfl (PS_loadA rfl tya34 (.head _) (Lens.id Land.fl.len Land.fl.one) rfl) ?_
  refine GL_step rfl (PS_move rfl) ?_
  refine GL_pure rfl cf37 (.cons rfl (.cons rfl .nil)) (fun w hS => ref_root_spec _ _ w) ?_
  refine GL_step rfl (PS_move rfl) ?_
  refine GL_step rfl (PS_extract rfl rfl) ?_
  refine GL_step rfl (PS_extract rfl rfl) ?_
  refine GL_step rfl (PS_extract rfl rfl) ?_
  refine GL_step rfl (PS_extract rfl rfl) ?_
  refine GL_step rfl (PS_assign rfl) ?_
  refine GL_step rfl (PS_assign rfl) ?_
  refine GL_step rfl (PS_assign rfl) ?_
  refine GL_step rfl (PS_assign rfl) ?_
  refine GL_nil ?_
  refine GQ_sub (.cons (k := 2) rfl (.cons (k := 6) rfl (.cons (k := 7) rfl (.cons (k := 8) rfl (.cons (k := 9) rfl (.nil _)))))) ?_
  refine GQ_then ?_
  refine G_seq ?_
  refine G_seq ?_
  refine G_region ?_
  refine GL_step rfl (PS_move rfl) ?_
  refine GL_step rfl (PS_move rfl) ?_
  refine GL_gt (t := 19) rfl rfl rfl (fun q => PS_move rfl) ?_
  refine GL_gt (t := 19) rfl rfl rfl (fun q => PS_eql (cvE rfl q) rfl) ?_
  refine GL_step rfl (PS_and rfl rfl (fun h => h)) ?_
  refine GL_nil ?_
  refine GQ_sub (.cons (k := 2) rfl (.cons (k := 7) rfl (.cons (k := 8) rfl (.cons (k := 9) rfl (.cons (k := 22) rfl (.nil _)))))) ?_
  refine GQ_then ?_
  refine G_cond rfl (fun c1 => ?_) (fun c1 => ?_)
  · skip
    have c1p := c1
    try simp only [decide_eq_true_eq, decide_eq_false_iff_not, Bool.not_eq_true', Bool.not_eq_false', Bool.or_eq_true, Bool.and_eq_true, Bool.or_eq_false_iff, Bool.and_eq_false_iff, Int.not_lt, Int.not_le] at c1p
    refine G_seq ?_
    refine G_seq ?_
    refine G_region ?_
    refine GL_step rfl (PS_move rfl) ?_
    refine GL_step rfl (PS_lss rfl rfl) ?_
    refine GL_step rfl (PS_move rfl) ?_
    refine GL_gf (t := 25) rfl rfl rfl (fun q => PS_move rfl) ?_
    refine GL_gf (t := 25) rfl rfl rfl (fun q => PS_gtr (cvE rfl (by rw [q]; rfl)) rfl) ?_
    refine GL_step rfl (PS_or rfl rfl (fun h => by rw [h]; rfl)) ?_
    refine GL_nil ?_
    refine GQ_sub (.cons (k := 2) rfl (.cons (k := 7) rfl (.cons (k := 8) rfl (.cons (k := 28) rfl (.nil _))))) ?_
    refine GQ_then ?_
    refine G_cond rfl (fun c2 => ?_) (fun c2 => ?_)
    · skip
      have c2p := c2
      try simp only [decide_eq_true_eq, decide_eq_false_iff_not, Bool.not_eq_true', Bool.not_eq_false', Bool.or_eq_true, Bool.and_eq_true, Bool.or_eq_false_iff, Bool.and_eq_false_iff, Int.not_lt, Int.not_le] at c2p
      refine G_seq ?_
      refine G_region ?_
      refine GL_step rfl (PS_assign rfl) ?_
      refine GL_step rfl (PS_assign rfl) ?_
      refine GL_nil ?_
      refine GQ_sub (.cons (k := 4) rfl (.cons (k := 5) rfl (.nil _))) ?_
      refine GQ_then ?_
      refine G_ret ?_
      refine GQ_then_ret ?_
      refine GQ_then_ret ?_
      refine GQ_ret rfl (.tmp rfl (.tmp rfl .nil)) ?_
      intro w1 hS; refine ⟨?_, hS.toKeep⟩; rw [← Land.roomOf, show Land.conv X (Land.root X i) = _ from ((if_t c1).trans (if_t c2))]; rfl
    · skip
      have c2p := c2
      try simp only [decide_eq_true_eq, decide_eq_false_iff_not, Bool.not_eq_true', Bool.not_eq_false', Bool.or_eq_true, Bool.and_eq_true, Bool.or_eq_false_iff, Bool.and_eq_false_iff, Int.not_lt, Int.not_le] at c2p
      have hat : 0 ≤ (Land.root X i).2.1 ∧ (Land.root X i).2.1 ≤ 5 := by simp at c2; omega
      refine G_skip ?_
      refine GQ_sub (.cons (k := 2) rfl (.cons (k := 7) rfl (.cons (k := 8) rfl (.nil _)))) ?_
      refine GQ_then ?_
      refine G_seq ?_
      refine G_region ?_
      refine GL_step rfl (PS_move rfl) ?_
      refine GL_step rfl (PS_fieldAddr fa34_2 rfl) ?_
      refine GL_step rfl (PS_indexAddr ia32 rfl rfl (by omega) (by omega)) ?_
      refine GL_step rfl (PS_fieldAddr fa31_3 rfl) ?_
      refine GL_step rfl (PS_load rfl tys3 (.head _) ((Land.l2.comp (Lens.arr (n := 6) Being.fl (by omega) (by omega))).comp Being.l3) rfl rfl) ?_
      refine GL_step rfl (PS_move rfl) ?_
      refine GL_step rfl (PS_assign rfl) ?_
      refine GL_step rfl (PS_assign rfl) ?_
      refine GL_nil ?_
      refine GQ_sub (.cons (k := 4) rfl (.cons (k := 5) rfl (.nil _))) ?_
      refine GQ_then ?_
      refine G_ret ?_
      refine GQ_then_ret ?_
      refine GQ_ret rfl (.tmp rfl (.tmp rfl .nil)) ?_
      intro w1 hS; refine ⟨?_, hS.toKeep⟩; rw [← Land.roomOf, show Land.conv X (Land.root X i) = _ from ((if_t c1).trans (if_f c2))]; rfl
  · skip
    have c1p := c1
    try simp only [decide_eq_true_eq, decide_eq_false_iff_not, Bool.not_eq_true', Bool.not_eq_false', Bool.or_eq_true, Bool.and_eq_true, Bool.or_eq_false_iff, Bool.and_eq_false_iff, Int.not_lt, Int.not_le] at c1p
    refine G_skip ?_
    refine GQ_sub (.cons (k := 7) rfl (.cons (k := 8) rfl (.cons (k := 9) rfl (.nil _)))) ?_
    refine GQ_then ?_
    refine G_seq ?_
    refine G_seq ?_
    refine G_region ?_
    refine GL_step rfl (PS_move rfl) ?_
    refine GL_step rfl (PS_not rfl) ?_
    refine GL_nil ?_
    refine GQ_sub (.cons (k := 7) rfl (.cons (k := 8) rfl (.cons (k := 36) rfl (.nil _)))) ?_
    refine GQ_then ?_
    refine G_cond rfl (fun c3 => ?_) (fun c3 => ?_)
    · skip
      have c3p := c3
      try simp only [decide_eq_true_eq, decide_eq_false_iff_not, Bool.not_eq_true', Bool.not_eq_false', Bool.or_eq_true, Bool.and_eq_true, Bool.or_eq_false_iff, Bool.and_eq_false_iff, Int.not_lt, Int.not_le] at c3p
      refine G_seq ?_
      refine G_region ?_
      refine GL_step rfl (PS_assign rfl) ?_
      refine GL_step rfl (PS_assign rfl) ?_
      refine GL_nil ?_
      refine GQ_sub (.cons (k := 4) rfl (.cons (k := 5) rfl (.nil _))) ?_
      refine GQ_then ?_
      refine G_ret ?_
      refine GQ_then_ret ?_
      refine GQ_ret rfl (.tmp rfl (.tmp rfl .nil)) ?_
      intro w1 hS; refine ⟨?_, hS.toKeep⟩; rw [← Land.roomOf, show Land.conv X (Land.root X i) = _ from ((if_f c1).trans (if_t c3))]; rfl
    · skip
      have c3p := c3
      try simp only [decide_eq_true_eq, decide_eq_false_iff_not, Bool.not_eq_true', Bool.not_eq_false', Bool.or_eq_true, Bool.and_eq_true, Bool.or_eq_false_iff, Bool.and_eq_false_iff, Int.not_lt, Int.not_le] at c3p
      refine G_skip ?_
      refine GQ_sub (.cons (k := 7) rfl (.cons (k := 8) rfl (.nil _))) ?_
      refine GQ_then ?_
      refine G_seq ?_
      refine G_region ?_
      refine GL_step rfl (PS_move rfl) ?_
      refine GL_step rfl (PS_move rfl) ?_
      refine GL_step rfl (PS_assign rfl) ?_
      refine GL_step rfl (PS_assign rfl) ?_
      refine GL_nil ?_
      refine GQ_sub (.cons (k := 4) rfl (.cons (k := 5) rfl (.nil _))) ?_
      refine GQ_then ?_
      refine G_ret ?_
      refine GQ_ret rfl (.tmp rfl (.tmp rfl .nil)) ?_
      intro w1 hS; refine ⟨?_, hS.toKeep⟩; rw [← Land.roomOf, show Land.conv X (Land.root X i) = _ from ((if_f c1).trans (if_f c3))]; rfl
theorem ref_IsBright_spec (X : Land) (r : Int) (w : World) : Ret Tryd.prog 9 #[.agg X.enc.toArray, .int .i64 r] w fun v w' => v = .bool (X.bright r) ∧ Keep w w' := by
  refine Ret_body [] [] Tryd.func9 rfl rfl rfl (St.start w []) ?_
  refine G_seq ?_
  refine G_region ?_
  refine GL_box rfl rfl rfl (fun b1 => ?_)
  refine GL_step rfl (PS_assign rfl) ?_
  refine GL_nil ?_
  refine GQ_sub (.cons (k := 1) rfl (.cons (k := 2) rfl (.nil _))) ?_
  refine GQ_then ?_
  refine G_seq ?_
  refine G_seq ?_
  refine G_region ?_
  refine GL_step rfl (PS_move rfl) ?_
  refine GL_step rfl (PS_lss rfl rfl) ?_
  refine GL_step rfl (PS_move rfl) ?_
  refine GL_gf (t := 12) rfl rfl rfl (fun q => PS_move rfl) ?_
  refine GL_gf (t := 12) rfl rfl rfl (fun q => PS_gtr (cvE rfl (by rw [q]; rfl)) rfl) ?_
  refine GL_step rfl (PS_or rfl rfl (fun h => by rw [h]; rfl)) ?_
  refine GL_nil ?_
  refine GQ_sub (.cons (k := 1) rfl (.cons (k := 2) rfl (.cons (k := 15) rfl (.nil _)))) ?_
  refine GQ_then ?_
  refine G_cond rfl (fun c1 => ?_) (fun c1 => ?_)
  · skip
    have c1p := c1
    try simp only [decide_eq_true_eq, decide_eq_false_iff_not, Bool.not_eq_true', Bool.not_eq_false', Bool.or_eq_true, Bool.and_eq_true, Bool.or_eq_false_iff, Bool.and_eq_false_iff, Int.not_lt, Int.not_le] at c1p
    refine G_seq ?_
    refine G_region ?_
    refine GL_step rfl (PS_assign rfl) ?_
    refine GL_nil ?_
    refine GQ_sub (.cons (k := 4) rfl (.nil _)) ?_
    refine GQ_then ?_
    refine G_ret ?_
    refine GQ_then_ret ?_
    refine GQ_ret rfl (.tmp rfl .nil) ?_
    intro w1 hS; refine ⟨congrArg Value.bool ?_, hS.toKeep⟩; rw [Land.bright_out c1]
  · skip
    have c1p := c1
    try simp only [decide_eq_true_eq, decide_eq_false_iff_not, Bool.not_eq_true', Bool.not_eq_false', Bool.or_eq_true, Bool.and_eq_true, Bool.or_eq_false_iff, Bool.and_eq_false_iff, Int.not_lt, Int.not_le] at c1p
    have hr : 0 ≤ r ∧ r < 6 := by simp at c1; omega
    refine G_skip ?_
    refine GQ_sub (.cons (k := 1) rfl (.cons (k := 2) rfl (.nil _))) ?_
    refine GQ_then ?_
    refine G_seq ?_
    refine G_region ?_
    refine GL_step rfl (PS_move rfl) ?_
    refine GL_step rfl (PS_fieldAddr fa34_0 rfl) ?_
    refine GL_step rfl (PS_indexAddr ia26 rfl rfl (by omega) (by omega)) ?_
    refine GL_step rfl (PS_fieldAddr fa25_1 rfl) ?_
    refine GL_step rfl (PS_load rfl tys4 (.head _) ((Land.l0.comp (Lens.arr (n := 6) Room.fl (by omega) (by omega))).comp Room.l1) rfl rfl) ?_
    refine GL_step rfl (PS_not rfl) ?_
    refine GL_step rfl (PS_assign rfl) ?_
    refine GL_nil ?_
    refine GQ_sub (.cons (k := 1) rfl (.cons (k := 2) rfl (.cons (k := 5) rfl (.nil _)))) ?_
    refine GQ_then ?_
    refine G_seq ?_
    refine G_seq ?_
    refine G_region ?_
    refine GL_step rfl (PS_fieldAddr fa34_1 rfl) ?_
    refine GL_step rfl (PS_loadA rfl tya29 (.head _) Land.l1 rfl) ?_
    refine GL_step rfl (PS_move rfl) ?_
    refine GL_nil ?_
    refine GQ_sub (.cons (k := 1) rfl (.cons (k := 2) rfl (.cons (k := 5) rfl (.cons (k := 23) rfl (.cons (k := 24) rfl (.nil _)))))) ?_
    refine GQ_then ?_
    refine G_block ?_
    refine G_subF (.cons (k := 5) rfl (.cons (k := 24) rfl (.cons (k := 1) rfl (.cons (k := 2) rfl (.cons (k := 23) rfl (.nil _)))))) ?_
    refine G_loop2_ (fun (k : Int) (c : Bool) => 0 ≤ k ∧ k ≤ 9 ∧ (!(X.rooms.at r).dark || !(allFrom 9 (fun i => !X.lit r i) 9)) = (c || !(allFrom 9 (fun i => !X.lit r i) (9 - k).toNat))) (fun (k : Int) (c : Bool) => (9 - k).toNat) (fun (k : Int) (c : Bool) => [(5, .bool c), (24, .int .i64 k)]) (fun (k : Int) (c : Bool) => []) (0) (!(X.rooms.at r).dark) ?_ rfl rfl (fun k c hI1 => ?_)
    · exact ⟨by omega, by omega, rfl⟩
    obtain ⟨hI11, hI12, hI13⟩ := hI1
    refine G_seq ?_
    refine G_region ?_
    refine GL_step rfl (PS_lss rfl rfl) ?_
    refine GL_nil ?_
    refine GQ_then ?_
    refine G_seq ?_
    refine G_cond rfl (fun c2 => ?_) (fun c2 => ?_)
    · skip
      have c2p := c2
      try simp only [decide_eq_true_eq, decide_eq_false_iff_not, Bool.not_eq_true', Bool.not_eq_false', Bool.or_eq_true, Bool.and_eq_true, Bool.or_eq_false_iff, Bool.and_eq_false_iff, Int.not_lt, Int.not_le] at c2p
      rw [allFrom_step (k := k) _ (by omega), Land.bright_step] at hI13
      refine G_skip ?_
      refine GQ_sub (.cons (k := 1) rfl (.cons (k := 2) rfl (.cons (k := 5) rfl (.cons (k := 23) rfl (.cons (k := 24) rfl (.nil _)))))) ?_
      refine GQ_then ?_
      refine G_seq ?_
      refine G_block ?_
      refine G_seq ?_
      refine G_region ?_
      refine GL_step rfl (PS_move rfl) ?_
      refine GL_step rfl (PS_indexAA Thing.fl Tryd.underlying29 tya28 rfl rfl (by omega) (by omega)) ?_
      refine GL_alloc rfl zv28 rfl (fun b2 => ?_)
      refine GL_step rfl (PS_assign rfl) ?_
      refine GL_unit (PU_store (Lens.id Thing.fl.len Thing.fl.one) rfl rfl rfl sz28 rfl .head) ?_
      refine GL_nil ?_
      refine GQ_sub (.cons (k := 1) rfl (.cons (k := 2) rfl (.cons (k := 5) rfl (.cons (k := 6) rfl (.cons (k := 7) rfl (.cons (k := 23) rfl (.cons (k := 24) rfl (.nil _)))))))) ?_
      refine GQ_then ?_
      refine G_seq ?_
      refine G_region ?_
      refine GL_step rfl (PS_loadA rfl tya34 (.tail _ (.head _)) (Lens.id Land.fl.len Land.fl.one) rfl) ?_
      refine GL_step rfl (PS_move rfl) ?_
      refine GL_pure rfl cf23 (.cons rfl (.cons rfl .nil)) (fun w hS => ref_RoomOf_spec _ _ w) ?_
      refine GL_step rfl (PS_move rfl) ?_
      refine GL_step rfl (PS_extract rfl rfl) ?_
      refine GL_step rfl (PS_extract rfl rfl) ?_
      refine GL_step rfl (PS_assign rfl) ?_
      refine GL_step rfl (PS_assign rfl) ?_
      refine GL_nil ?_
      refine GQ_sub (.cons (k := 1) rfl (.cons (k := 2) rfl (.cons (k := 5) rfl (.cons (k := 7) rfl (.cons (k := 8) rfl (.cons (k := 9) rfl (.cons (k := 23) rfl (.cons (k := 24) rfl (.nil _))))))))) ?_
      refine GQ_then ?_
      refine G_region ?_
      refine GL_step rfl (PS_move rfl) ?_
      refine GL_step rfl (PS_move rfl) ?_
      refine GL_gf (t := 35) rfl rfl rfl (fun q => PS_fieldAddr fa28_1 rfl) ?_
      refine GL_gf (t := 35) rfl rfl rfl (fun q => PS_load (cvE rfl (by rw [q]; rfl)) tys3 (.head _) Thing.l1 rfl rfl) ?_
      refine GL_gf (t := 35) rfl rfl rfl (fun q => PS_eql (cvE rfl (by rw [q]; rfl)) rfl) ?_
      refine GL_gf (t := 35) rfl rfl rfl (fun q => PS_move (cvE rfl (by rw [q]; rfl))) ?_
      refine GL_gtc (t := 39) rfl rfl rfl (fun qc q => PS_fieldAddr fa28_4 rfl) ?_
      refine GL_gtc (t := 39) rfl rfl rfl (fun qc q => PS_load (cvE rfl (by rw [qc, q]; rfl)) tys4 (.head _) Thing.l4 rfl rfl) ?_
      refine GL_gf (t := 35) rfl rfl rfl (fun q => PS_and (cvE rfl (by rw [q]; rfl)) rfl (fun h => by rw [q, h]; rfl)) ?_
      refine GL_gf (t := 35) rfl rfl rfl (fun q => PS_move (cvE rfl (by rw [q]; rfl))) ?_
      refine GL_gtc (t := 43) rfl rfl rfl (fun qc q => PS_move rfl) ?_
      refine GL_gf (t := 35) rfl rfl rfl (fun q => PS_and (cvE rfl (by rw [q]; rfl)) rfl (fun h => by rw [q, h]; rfl)) ?_
      refine GL_gf (t := 35) rfl rfl rfl (fun q => PS_move (cvE rfl (by rw [q]; rfl))) ?_
      refine GL_gtc (t := 46) rfl rfl rfl (fun qc q => PS_move rfl) ?_
      refine GL_gtc (t := 46) rfl rfl rfl (fun qc q => PS_move rfl) ?_
      refine GL_gtc (t := 46) rfl rfl rfl (fun qc q => PS_eql (cvE rfl (by rw [qc, q]; rfl)) (cvE rfl (by rw [qc, q]; rfl))) ?_
      refine GL_gf (t := 35) rfl rfl rfl (fun q => PS_and (cvE rfl (by rw [q]; rfl)) rfl (fun h => by rw [q, h]; rfl)) ?_
      refine GL_step rfl (PS_or rfl rfl (fun h => by rw [h]; rfl)) ?_
      refine GL_step rfl (PS_assign rfl) ?_
      refine GL_nil ?_
      refine GQ_sub (.cons (k := 1) rfl (.cons (k := 2) rfl (.cons (k := 5) rfl (.cons (k := 23) rfl (.cons (k := 24) rfl (.nil _)))))) ?_
      refine GQ_block ?_
      refine GQ_then ?_
      refine G_region ?_
      refine GL_step rfl (PS_add rfl rfl (IntWalk.i64_in _ (by omega))) ?_
      refine GL_step rfl (PS_move rfl) ?_
      refine GL_nil ?_
      refine GQ_sub (.cons (k := 1) rfl (.cons (k := 2) rfl (.cons (k := 5) rfl (.cons (k := 23) rfl (.cons (k := 24) rfl (.nil _)))))) ?_
      refine GQ_next2_ (k + 1) _ ?_ ?_ (.cons (k := 5) rfl (.cons (k := 24) rfl (.cons (k := 1) rfl (.cons (k := 2) rfl (.cons (k := 23) rfl (.nil _)))))) (.cons _ (.refl _))
      · exact ⟨by omega, by omega, hI13⟩
      · omega
    · skip
      have c2p := c2
      try simp only [decide_eq_true_eq, decide_eq_false_iff_not, Bool.not_eq_true', Bool.not_eq_false', Bool.or_eq_true, Bool.and_eq_true, Bool.or_eq_false_iff, Bool.and_eq_false_iff, Int.not_lt, Int.not_le] at c2p
      obtain rfl : k = 9 := by omega
      refine G_exit ?_
      refine GQ_then_exit ?_
      refine GQ_then_exit ?_
      refine GQ_block_exit ?_
      refine GQ_sub (.cons (k := 5) rfl (.nil _)) ?_
      refine GQ_then ?_
      refine G_seq ?_
      refine G_region ?_
      refine GL_step rfl (PS_move rfl) ?_
      refine GL_step rfl (PS_assign rfl) ?_
      refine GL_nil ?_
      refine GQ_sub (.cons (k := 4) rfl (.nil _)) ?_
      refine GQ_then ?_
      refine G_ret ?_
      refine GQ_ret rfl (.tmp rfl .nil) ?_
      intro w1 hS; refine ⟨congrArg Value.bool ?_, hS.toKeep⟩; rw [Land.bright_eq c1, hI13]; show c = (c || !true); simp
theorem sense_Hidden_spec (X : Land) (b : Int) (w : World) : Ret Tryd.prog 10 #[.agg X.enc.toArray, .int .i64 b] w fun v w' => v = .bool (X.hidden b) ∧ Keep w w' := by
  refine Ret_body [] [] Tryd.func10 rfl rfl rfl (St.start w []) ?_
  refine G_seq ?_
  refine G_region ?_
  refine GL_box rfl rfl rfl (fun b1 => ?_)
  refine GL_step rfl (PS_assign rfl) ?_
  refine GL_nil ?_
  refine GQ_sub (.cons (k := 1) rfl (.cons (k := 2) rfl (.nil _))) ?_
  refine GQ_then ?_
  refine G_seq ?_
  refine G_seq ?_
  refine G_region ?_
  refine GL_step rfl (PS_fieldAddr fa34_1 rfl) ?_
  refine GL_step rfl (PS_loadA rfl tya29 (.head _) Land.l1 rfl) ?_
  refine GL_step rfl (PS_move rfl) ?_
  refine GL_nil ?_
  refine GQ_sub (.cons (k := 1) rfl (.cons (k := 8) rfl (.cons (k := 9) rfl (.nil _)))) ?_
  refine GQ_then ?_
  refine G_block ?_
  refine G_subF (.cons (k := 9) rfl (.cons (k := 1) rfl (.cons (k := 8) rfl (.nil _)))) ?_
  refine G_loop1_ (fun (k : Int) => 0 ≤ k ∧ k ≤ 9 ∧ allFrom 9 (fun i => !X.cloaked b i) 9 = allFrom 9 (fun i => !X.cloaked b i) (9 - k).toNat) (fun (k : Int) => (9 - k).toNat) (fun (k : Int) => [(9, .int .i64 k)]) (fun (k : Int) => []) (0) ?_ rfl rfl (fun k hI1 => ?_)
  · exact ⟨by omega, by omega, rfl⟩
  obtain ⟨hI11, hI12, hI13⟩ := hI1
  refine G_seq ?_
  refine G_region ?_
  refine GL_step rfl (PS_lss rfl rfl) ?_
  refine GL_nil ?_
  refine GQ_then ?_
  refine G_seq ?_
  refine G_cond rfl (fun c1 => ?_) (fun c1 => ?_)
  · skip
    have c1p := c1
    try simp only [decide_eq_true_eq, decide_eq_false_iff_not, Bool.not_eq_true', Bool.not_eq_false', Bool.or_eq_true, Bool.and_eq_true, Bool.or_eq_false_iff, Bool.and_eq_false_iff, Int.not_lt, Int.not_le] at c1p
    rw [allFrom_step _ (by omega)] at hI13
    refine G_skip ?_
    refine GQ_sub (.cons (k := 1) rfl (.cons (k := 8) rfl (.cons (k := 9) rfl (.nil _)))) ?_
    refine GQ_then ?_
    refine G_seq ?_
    refine G_block ?_
    refine G_seq ?_
    refine G_region ?_
    refine GL_step rfl (PS_indexAA Thing.fl Tryd.underlying29 tya28 rfl rfl (by omega) (by omega)) ?_
    refine GL_alloc rfl zv28 rfl (fun b2 => ?_)
    refine GL_unit (PU_store (Lens.id Thing.fl.len Thing.fl.one) rfl rfl rfl sz28 rfl .head) ?_
    refine GL_nil ?_
    refine GQ_sub (.cons (k := 1) rfl (.cons (k := 6) rfl (.cons (k := 8) rfl (.cons (k := 9) rfl (.nil _))))) ?_
    refine GQ_then ?_
    refine G_seq ?_
    refine G_region ?_
    refine GL_step rfl (PS_fieldAddr fa28_1 rfl) ?_
    refine GL_step rfl (PS_load rfl tys3 (.head _) Thing.l1 rfl rfl) ?_
    refine GL_step rfl (PS_eql rfl rfl) ?_
    refine GL_step rfl (PS_move rfl) ?_
    refine GL_gt (t := 15) rfl rfl rfl (fun q => PS_fieldAddr fa28_4 rfl) ?_
    refine GL_gt (t := 15) rfl rfl rfl (fun q => PS_load (cvE rfl q) tys4 (.head _) Thing.l4 rfl rfl) ?_
    refine GL_step rfl (PS_and rfl rfl (fun h => h)) ?_
    refine GL_step rfl (PS_move rfl) ?_
    refine GL_gt (t := 19) rfl rfl rfl (fun q => PS_fieldAddr fa28_2 rfl) ?_
    refine GL_gt (t := 19) rfl rfl rfl (fun q => PS_load (cvE rfl q) tys3 (.head _) Thing.l2 rfl rfl) ?_
    refine GL_gt (t := 19) rfl rfl rfl (fun q => PS_eql (cvE rfl q) rfl) ?_
    refine GL_step rfl (PS_and rfl rfl (fun h => h)) ?_
    refine GL_step rfl (PS_move rfl) ?_
    refine GL_gt (t := 24) rfl rfl rfl (fun q => PS_fieldAddr fa28_3 rfl) ?_
    refine GL_gt (t := 24) rfl rfl rfl (fun q => PS_load (cvE rfl q) tys3 (.head _) Thing.l3 rfl rfl) ?_
    refine GL_gt (t := 24) rfl rfl rfl (fun q => PS_move rfl) ?_
    refine GL_gt (t := 24) rfl rfl rfl (fun q => PS_eql (cvE rfl q) (cvE rfl q)) ?_
    refine GL_step rfl (PS_and rfl rfl (fun h => h)) ?_
    refine GL_nil ?_
    refine GQ_sub (.cons (k := 1) rfl (.cons (k := 8) rfl (.cons (k := 9) rfl (.cons (k := 29) rfl (.nil _))))) ?_
    refine GQ_then ?_
    refine G_cond rfl (fun c2 => ?_) (fun c2 => ?_)
    · skip
      have c2p := c2
      try simp only [decide_eq_true_eq, decide_eq_false_iff_not, Bool.not_eq_true', Bool.not_eq_false', Bool.or_eq_true, Bool.and_eq_true, Bool.or_eq_false_iff, Bool.and_eq_false_iff, Int.not_lt, Int.not_le] at c2p
      refine G_seq ?_
      refine G_region ?_
      refine GL_step rfl (PS_assign rfl) ?_
      refine GL_nil ?_
      refine GQ_sub (.cons (k := 4) rfl (.nil _)) ?_
      refine GQ_then ?_
      refine G_ret ?_
      refine GQ_block_ret ?_
      refine GQ_then_ret ?_
      refine GQ_then_ret ?_
      refine GQ_block_ret ?_
      refine GQ_then_ret ?_
      refine GQ_ret rfl (.tmp rfl .nil) ?_
      intro w1 hS; refine ⟨congrArg Value.bool ?_, hS.toKeep⟩; rw [Land.hidden, hI13, show X.cloaked b k = true from c2]; rfl
    · skip
      have c2p := c2
      try simp only [decide_eq_true_eq, decide_eq_false_iff_not, Bool.not_eq_true', Bool.not_eq_false', Bool.or_eq_true, Bool.and_eq_true, Bool.or_eq_false_iff, Bool.and_eq_false_iff, Int.not_lt, Int.not_le] at c2p
      refine G_skip ?_
      refine GQ_sub (.cons (k := 1) rfl (.cons (k := 8) rfl (.cons (k := 9) rfl (.nil _)))) ?_
      refine GQ_block ?_
      refine GQ_then ?_
      refine G_region ?_
      refine GL_step rfl (PS_add rfl rfl (IntWalk.i64_in _ (by omega))) ?_
      refine GL_step rfl (PS_move rfl) ?_
      refine GL_nil ?_
      refine GQ_sub (.cons (k := 1) rfl (.cons (k := 8) rfl (.cons (k := 9) rfl (.nil _)))) ?_
      refine GQ_next1_ (k + 1) ?_ ?_ (.cons (k := 9) rfl (.cons (k := 1) rfl (.cons (k := 8) rfl (.nil _)))) (.cons _ (.refl _))
      · exact ⟨by omega, by omega, by rw [hI13, show X.cloaked b k = false from c2]; rfl⟩
      · omega
  · skip
    have c1p := c1
    try simp only [decide_eq_true_eq, decide_eq_false_iff_not, Bool.not_eq_true', Bool.not_eq_false', Bool.or_eq_true, Bool.and_eq_true, Bool.or_eq_false_iff, Bool.and_eq_false_iff, Int.not_lt, Int.not_le] at c1p
    obtain rfl : k = 9 := by omega
    refine G_exit ?_
    refine GQ_then_exit ?_
    refine GQ_then_exit ?_
    refine GQ_block_exit ?_
    refine GQ_sub (.nil _) ?_
    refine GQ_then ?_
    refine G_seq ?_
    refine G_region ?_
    refine GL_step rfl (PS_assign rfl) ?_
    refine GL_nil ?_
    refine GQ_then ?_
    refine G_ret ?_
    refine GQ_ret rfl (.tmp rfl .nil) ?_
    intro w1 hS; refine ⟨congrArg Value.bool ?_, hS.toKeep⟩; rw [Land.hidden, hI13]; rfl
theorem ref_IsHidden_spec (X : Land) (b : Int) (w : World) : Ret Tryd.prog 11 #[.agg X.enc.toArray, .int .i64 b] w fun v w' => v = .bool (X.hidden b) ∧ Keep w w' := by
  refine Ret_body [] [] Tryd.func11 rfl rfl rfl (St.start w []) ?_
  refine G_seq ?_
  refine G_region ?_
  refine GL_box rfl rfl rfl (fun b1 => ?_)
  refine GL_step rfl (PS_assign rfl) ?_
  refine GL_nil ?_
  refine GQ_sub (.cons (k := 1) rfl (.cons (k := 2) rfl (.nil _))) ?_
  refine GQ_then ?_
  refine G_seq ?_
  refine G_seq ?_
  refine G_region ?_
  refine GL_step rfl (PS_fieldAddr fa34_1 rfl) ?_
  refine GL_step rfl (PS_loadA rfl tya29 (.head _) Land.l1 rfl) ?_
  refine GL_step rfl (PS_move rfl) ?_
  refine GL_nil ?_
  refine GQ_sub (.cons (k := 1) rfl (.cons (k := 8) rfl (.cons (k := 9) rfl (.nil _)))) ?_
  refine GQ_then ?_
  refine G_block ?_
  refine G_subF (.cons (k := 9) rfl (.cons (k := 1) rfl (.cons (k := 8) rfl (.nil _)))) ?_
  refine G_loop1_ (fun (k : Int) => 0 ≤ k ∧ k ≤ 9 ∧ allFrom 9 (fun i => !X.cloaked b i) 9 = allFrom 9 (fun i => !X.cloaked b i) (9 - k).toNat) (fun (k : Int) => (9 - k).toNat) (fun (k : Int) => [(9, .int .i64 k)]) (fun (k : Int) => []) (0) ?_ rfl rfl (fun k hI1 => ?_)
  · exact ⟨by omega, by omega, rfl⟩
  obtain ⟨hI11, hI12, hI13⟩ := hI1
  refine G_seq ?_
  refine G_region ?_
  refine GL_step rfl (PS_lss rfl rfl) ?_
  refine GL_nil ?_
  refine GQ_then ?_
  refine G_seq ?_
  refine G_cond rfl (fun c1 => ?_) (fun c1 => ?_)
  · skip
    have c1p := c1
    try simp only [decide_eq_true_eq, decide_eq_false_iff_not, Bool.not_eq_true', Bool.not_eq_false', Bool.or_eq_true, Bool.and_eq_true, Bool.or_eq_false_iff, Bool.and_eq_false_iff, Int.not_lt, Int.not_le] at c1p
    rw [allFrom_step _ (by omega)] at hI13
    refine G_skip ?_
    refine GQ_sub (.cons (k := 1) rfl (.cons (k := 8) rfl (.cons (k := 9) rfl (.nil _)))) ?_
    refine GQ_then ?_
    refine G_seq ?_
    refine G_block ?_
    refine G_seq ?_
    refine G_region ?_
    refine GL_step rfl (PS_indexAA Thing.fl Tryd.underlying29 tya28 rfl rfl (by omega) (by omega)) ?_
    refine GL_alloc rfl zv28 rfl (fun b2 => ?_)
    refine GL_unit (PU_store (Lens.id Thing.fl.len Thing.fl.one) rfl rfl rfl sz28 rfl .head) ?_
    refine GL_nil ?_
    refine GQ_sub (.cons (k := 1) rfl (.cons (k := 6) rfl (.cons (k := 8) rfl (.cons (k := 9) rfl (.nil _))))) ?_
    refine GQ_then ?_
    refine G_seq ?_
    refine G_region ?_
    refine GL_step rfl (PS_fieldAddr fa28_2 rfl) ?_
    refine GL_step rfl (PS_load rfl tys3 (.head _) Thing.l2 rfl rfl) ?_
    refine GL_step rfl (PS_eql rfl rfl) ?_
    refine GL_step rfl (PS_move rfl) ?_
    refine GL_gt (t := 15) rfl rfl rfl (fun q => PS_fieldAddr fa28_3 rfl) ?_
    refine GL_gt (t := 15) rfl rfl rfl (fun q => PS_load (cvE rfl q) tys3 (.head _) Thing.l3 rfl rfl) ?_
    refine GL_gt (t := 15) rfl rfl rfl (fun q => PS_move rfl) ?_
    refine GL_gt (t := 15) rfl rfl rfl (fun q => PS_eql (cvE rfl q) (cvE rfl q)) ?_
    refine GL_step rfl (PS_and rfl rfl (fun h => h)) ?_
    refine GL_step rfl (PS_move rfl) ?_
    refine GL_gt (t := 21) rfl rfl rfl (fun q => PS_fieldAddr fa28_1 rfl) ?_
    refine GL_gt (t := 21) rfl rfl rfl (fun q => PS_load (cvE rfl q) tys3 (.head _) Thing.l1 rfl rfl) ?_
    refine GL_gt (t := 21) rfl rfl rfl (fun q => PS_eql (cvE rfl q) rfl) ?_
    refine GL_step rfl (PS_and rfl rfl (fun h => h)) ?_
    refine GL_step rfl (PS_move rfl) ?_
    refine GL_gt (t := 26) rfl rfl rfl (fun q => PS_fieldAddr fa28_4 rfl) ?_
    refine GL_gt (t := 26) rfl rfl rfl (fun q => PS_load (cvE rfl q) tys4 (.head _) Thing.l4 rfl rfl) ?_
    refine GL_step rfl (PS_and rfl rfl (fun h => h)) ?_
    refine GL_nil ?_
    refine GQ_sub (.cons (k := 1) rfl (.cons (k := 8) rfl (.cons (k := 9) rfl (.cons (k := 29) rfl (.nil _))))) ?_
    refine GQ_then ?_
    refine G_cond rfl (fun c2 => ?_) (fun c2 => ?_)
    · skip
      have c2p := c2
      try simp only [decide_eq_true_eq, decide_eq_false_iff_not, Bool.not_eq_true', Bool.not_eq_false', Bool.or_eq_true, Bool.and_eq_true, Bool.or_eq_false_iff, Bool.and_eq_false_iff, Int.not_lt, Int.not_le] at c2p
      refine G_seq ?_
      refine G_region ?_
      refine GL_step rfl (PS_assign rfl) ?_
      refine GL_nil ?_
      refine GQ_sub (.cons (k := 4) rfl (.nil _)) ?_
      refine GQ_then ?_
      refine G_ret ?_
      refine GQ_block_ret ?_
      refine GQ_then_ret ?_
      refine GQ_then_ret ?_
      refine GQ_block_ret ?_
      refine GQ_then_ret ?_
      refine GQ_ret rfl (.tmp rfl .nil) ?_
      intro w1 hS; refine ⟨congrArg Value.bool ?_, hS.toKeep⟩; rw [Land.hidden, hI13, show X.cloaked b k = true from (Land.cloaked_eq _ _ _).trans c2]; rfl
    · skip
      have c2p := c2
      try simp only [decide_eq_true_eq, decide_eq_false_iff_not, Bool.not_eq_true', Bool.not_eq_false', Bool.or_eq_true, Bool.and_eq_true, Bool.or_eq_false_iff, Bool.and_eq_false_iff, Int.not_lt, Int.not_le] at c2p
      refine G_skip ?_
      refine GQ_sub (.cons (k := 1) rfl (.cons (k := 8) rfl (.cons (k := 9) rfl (.nil _)))) ?_
      refine GQ_block ?_
      refine GQ_then ?_
      refine G_region ?_
      refine GL_step rfl (PS_add rfl rfl (IntWalk.i64_in _ (by omega))) ?_
      refine GL_step rfl (PS_move rfl) ?_
      refine GL_nil ?_
      refine GQ_sub (.cons (k := 1) rfl (.cons (k := 8) rfl (.cons (k := 9) rfl (.nil _)))) ?_
      refine GQ_next1_ (k + 1) ?_ ?_ (.cons (k := 9) rfl (.cons (k := 1) rfl (.cons (k := 8) rfl (.nil _)))) (.cons _ (.refl _))
      · exact ⟨by omega, by omega, by rw [hI13, show X.cloaked b k = false from (Land.cloaked_eq _ _ _).trans c2]; rfl⟩
      · omega
  · skip
    have c1p := c1
    try simp only [decide_eq_true_eq, decide_eq_false_iff_not, Bool.not_eq_true', Bool.not_eq_false', Bool.or_eq_true, Bool.and_eq_true, Bool.or_eq_false_iff, Bool.and_eq_false_iff, Int.not_lt, Int.not_le] at c1p
    obtain rfl : k = 9 := by omega
    refine G_exit ?_
    refine GQ_then_exit ?_
    refine GQ_then_exit ?_
    refine GQ_block_exit ?_
    refine GQ_sub (.nil _) ?_
    refine GQ_then ?_
    refine G_seq ?_
    refine G_region ?_
    refine GL_step rfl (PS_assign rfl) ?_
    refine GL_nil ?_
    refine GQ_then ?_
    refine G_ret ?_
    refine GQ_ret rfl (.tmp rfl .nil) ?_
    intro w1 hS; refine ⟨congrArg Value.bool ?_, hS.toKeep⟩; rw [Land.hidden, hI13]; rfl
theorem sense_being_spec (X : Land) (b : Int) (w : World) : Ret Tryd.prog 24 #[.agg X.enc.toArray, .int .i64 b] w fun v w' => v = .bool (X.being b) ∧ Keep w w' := by
  refine Ret_body [] [] Tryd.func24 rfl rfl rfl (St.start w []) ?_
  refine G_seq ?_
  refine G_region ?_
  refine GL_box rfl rfl rfl (fun b1 => ?_)
  refine GL_step rfl (PS_assign rfl) ?_
  refine GL_nil ?_
  refine GQ_sub (.cons (k := 1) rfl (.cons (k := 2) rfl (.nil _))) ?_
  refine GQ_then ?_
  refine G_seq ?_
  refine G_region ?_
  refine GL_step rfl (PS_move rfl) ?_
  refine GL_step rfl (PS_geq rfl rfl) ?_
  refine GL_step rfl (PS_move rfl) ?_
  refine GL_gt (t := 7) rfl rfl rfl (fun q => PS_move rfl) ?_
  refine GL_gt (t := 7) rfl rfl rfl (fun q => PS_lss (cvE rfl q) rfl) ?_
  refine GL_step rfl (PS_and rfl rfl (fun h => h)) ?_
  refine GL_step rfl (PS_move rfl) ?_
  refine GL_gt (t := 11) rfl rfl rfl (fun q => PS_move rfl) ?_
  refine GL_gt (t := 11) rfl rfl rfl (fun q => PS_fieldAddr fa34_2 rfl) ?_
  refine GL_gt (t := 11) rfl rfl rfl (fun q => by have q1 := q; (try simp at q1); exact PS_indexAddr ia32 (cvE rfl q) (cvE rfl q) (by omega) (by omega)) ?_
  refine GL_gt (t := 11) rfl rfl rfl (fun q => PS_fieldAddr fa31_1 (cvE rfl q)) ?_
  refine GL_gt (t := 11) rfl rfl rfl (fun q => by have q1 := q; (try simp at q1); exact PS_load (cvE rfl q) tys4 (.head _) ((Land.l2.comp (Lens.arr (n := 6) Being.fl (by omega) (by omega))).comp Being.l1) rfl rfl) ?_
  refine GL_step rfl (PS_and rfl rfl (fun h => h)) ?_
  refine GL_step rfl (PS_assign rfl) ?_
  refine GL_nil ?_
  refine GQ_sub (.cons (k := 4) rfl (.nil _)) ?_
  refine GQ_then ?_
  refine G_ret ?_
  refine GQ_ret rfl (.tmp rfl .nil) ?_
  intro w1 hS; refine ⟨?_, hS.toKeep⟩; rfl
theorem sense_Sees_spec (X : Land) (a b : Int) (w : World) : Ret Tryd.prog 12 #[.agg X.enc.toArray, .int .i64 a, .int .i64 b] w fun v w' => v = .bool (X.sees a b) ∧ Keep w w' := by
  refine Ret_body [] [] Tryd.func12 rfl rfl rfl (St.start w []) ?_
  refine G_seq ?_
  refine G_region ?_
  refine GL_box rfl rfl rfl (fun b1 => ?_)
  refine GL_step rfl (PS_assign rfl) ?_
  refine GL_nil ?_
  refine GQ_sub (.cons (k := 1) rfl (.cons (k := 2) rfl (.cons (k := 3) rfl (.nil _)))) ?_
  refine GQ_then ?_
  refine G_seq ?_
  refine G_seq ?_
  refine G_region ?_
  refine GL_step rfl (PS_loadA rfl tya34 (.head _) (Lens.id Land.fl.len Land.fl.one) rfl) ?_
  refine GL_step rfl (PS_move rfl) ?_
  refine GL_pure rfl cf24 (.cons rfl (.cons rfl .nil)) (fun w hS => sense_being_spec _ _ w) ?_
  refine GL_step rfl (PS_not rfl) ?_
  refine GL_step rfl (PS_move rfl) ?_
  refine GL_gf (t := 13) rfl rfl rfl (fun q => PS_loadA rfl tya34 (.head _) (Lens.id Land.fl.len Land.fl.one) rfl) ?_
  refine GL_gf (t := 13) rfl rfl rfl (fun q => PS_move rfl) ?_
  refine GL_pgf (t := 13) rfl rfl rfl (fun q => by have q1 := q; (try simp at q1); exact PC_of cf24 (.cons (cvE rfl (by rw [q]; rfl)) (.cons (cvE rfl (by rw [q]; rfl)) .nil)) (fun w hS => sense_being_spec _ _ w)) ?_
  refine GL_gf (t := 13) rfl rfl rfl (fun q => PS_not (cvE rfl (by rw [q]; rfl))) ?_
  refine GL_step rfl (PS_or rfl rfl (fun h => by rw [h]; rfl)) ?_
  refine GL_nil ?_
  refine GQ_sub (.cons (k := 1) rfl (.cons (k := 2) rfl (.cons (k := 3) rfl (.cons (k := 18) rfl (.nil _))))) ?_
  refine GQ_then ?_
  refine G_cond rfl (fun c1 => ?_) (fun c1 => ?_)
  · skip
    have c1p := c1
    try simp only [decide_eq_true_eq, decide_eq_false_iff_not, Bool.not_eq_true', Bool.not_eq_false', Bool.or_eq_true, Bool.and_eq_true, Bool.or_eq_false_iff, Bool.and_eq_false_iff, Int.not_lt, Int.not_le] at c1p
    refine G_seq ?_
    refine G_region ?_
    refine GL_step rfl (PS_assign rfl) ?_
    refine GL_nil ?_
    refine GQ_sub (.cons (k := 6) rfl (.nil _)) ?_
    refine GQ_then ?_
    refine G_ret ?_
    refine GQ_then_ret ?_
    refine GQ_ret rfl (.tmp rfl .nil) ?_
    intro w1 hS; refine ⟨congrArg Value.bool ?_, hS.toKeep⟩; rw [show X.sees a b = _ from (if_t c1)]
  · skip
    have c1p := c1
    try simp only [decide_eq_true_eq, decide_eq_false_iff_not, Bool.not_eq_true', Bool.not_eq_false', Bool.or_eq_true, Bool.and_eq_true, Bool.or_eq_false_iff, Bool.and_eq_false_iff, Int.not_lt, Int.not_le] at c1p
    have hr : (0 ≤ a ∧ a < 6) ∧ 0 ≤ b ∧ b < 6 := by simp at c1; have h1 := Land.being_rng c1.1; have h2 := Land.being_rng c1.2; omega
    refine G_skip ?_
    refine GQ_sub (.cons (k := 1) rfl (.cons (k := 2) rfl (.cons (k := 3) rfl (.nil _)))) ?_
    refine GQ_then ?_
    refine G_seq ?_
    refine G_seq ?_
    refine G_region ?_
    refine GL_step rfl (PS_move rfl) ?_
    refine GL_step rfl (PS_move rfl) ?_
    refine GL_step rfl (PS_eql rfl rfl) ?_
    refine GL_nil ?_
    refine GQ_sub (.cons (k := 1) rfl (.cons (k := 2) rfl (.cons (k := 3) rfl (.cons (k := 21) rfl (.nil _))))) ?_
    refine GQ_then ?_
    refine G_cond rfl (fun c2 => ?_) (fun c2 => ?_)
    · skip
      have c2p := c2
      try simp only [decide_eq_true_eq, decide_eq_false_iff_not, Bool.not_eq_true', Bool.not_eq_false', Bool.or_eq_true, Bool.and_eq_true, Bool.or_eq_false_iff, Bool.and_eq_false_iff, Int.not_lt, Int.not_le] at c2p
      refine G_seq ?_
      refine G_region ?_
      refine GL_step rfl (PS_assign rfl) ?_
      refine GL_nil ?_
      refine GQ_sub (.cons (k := 6) rfl (.nil _)) ?_
      refine GQ_then ?_
      refine G_ret ?_
      refine GQ_then_ret ?_
      refine GQ_ret rfl (.tmp rfl .nil) ?_
      intro w1 hS; refine ⟨congrArg Value.bool ?_, hS.toKeep⟩; rw [show X.sees a b = _ from ((if_f c1).trans (if_t c2))]
    · skip
      have c2p := c2
      try simp only [decide_eq_true_eq, decide_eq_false_iff_not, Bool.not_eq_true', Bool.not_eq_false', Bool.or_eq_true, Bool.and_eq_true, Bool.or_eq_false_iff, Bool.and_eq_false_iff, Int.not_lt, Int.not_le] at c2p
      refine G_skip ?_
      refine GQ_sub (.cons (k := 1) rfl (.cons (k := 2) rfl (.cons (k := 3) rfl (.nil _)))) ?_
      refine GQ_then ?_
      refine G_seq ?_
      refine G_planN (N := 12) [0, 0, 3, 7, 0, 0, 48, 112, 0, 0, 783, 2047] mix (by kernel_rfl) rfl ?_
      refine Plan_float 0 rfl rfl (by kernel_rfl) (OK_s (EX_s (PS_move rfl))) ?_
      refine Plan_float 1 rfl rfl (by kernel_rfl) (OK_s (EX_s (PS_fieldAddr fa34_2 rfl))) ?_
      refine Plan_float 2 rfl rfl (by kernel_rfl) (OK_s (EX_s (PS_indexAddr ia32 rfl rfl (by omega) (by omega)))) ?_
      refine Plan_float 3 rfl rfl (by kernel_rfl) (OK_s (EX_s (PS_loadA rfl tya31 (.head _) (Land.l2.comp (Lens.arr (n := 6) Being.fl (by omega) (by omega))) rfl))) ?_
      refine Plan_float 4 rfl rfl (by kernel_rfl) (OK_s (EX_s (PS_move rfl))) ?_
      refine Plan_float 5 rfl rfl (by kernel_rfl) (OK_s (EX_s (PS_fieldAddr fa34_2 rfl))) ?_
      refine Plan_float 6 rfl rfl (by kernel_rfl) (OK_s (EX_s (PS_indexAddr ia32 rfl rfl (by omega) (by omega)))) ?_
      refine Plan_float 7 rfl rfl (by kernel_rfl) (OK_s (EX_s (PS_loadA rfl tya31 (.head _) (Land.l2.comp (Lens.arr (n := 6) Being.fl (by omega) (by omega))) rfl))) ?_
      refine Plan_two 8 9 rfl rfl (by kernel_rfl) ?_ ?_
      · skip
        refine GL_alloc rfl zv31 rfl (fun b2 => ?_)
        refine GL_hand rfl ⟨?_, ?_⟩
        · exact (Pend_okv rfl (OK_s (EX_s (PS_loadA rfl tya31 (.tail _ (.head _)) (Land.l2.comp (Lens.arr (n := 6) Being.fl (by omega) (by omega))) rfl))) rfl rfl (Pend_okv rfl (OK_s (EX_s (PS_indexAddr ia32 rfl rfl (by omega) (by omega)))) rfl rfl (Pend_okv rfl (OK_s (EX_s (PS_fieldAddr fa34_2 rfl))) rfl rfl (Pend_okv rfl (OK_s (EX_s (PS_move rfl))) rfl rfl (Pend_okv rfl (OK_s (EX_s (PS_loadA rfl tya31 (.tail _ (.head _)) (Land.l2.comp (Lens.arr (n := 6) Being.fl (by omega) (by omega))) rfl))) rfl rfl (Pend_okv rfl (OK_s (EX_s (PS_indexAddr ia32 rfl rfl (by omega) (by omega)))) rfl rfl (Pend_okv rfl (OK_s (EX_s (PS_fieldAddr fa34_2 rfl))) rfl rfl (Pend_okv rfl (OK_s (EX_s (PS_move rfl))) rfl rfl Pend_nil))))))))
        refine Plan_chain 9 rfl (by kernel_rfl) ?_
        refine GL_alloc rfl zv31 rfl (fun b3 => ?_)
        refine GL_hand rfl ⟨?_, ?_⟩
        · exact (Pend_okv rfl (OK_s (EX_s (PS_loadA rfl tya31 (.tail _ (.tail _ (.head _))) (Land.l2.comp (Lens.arr (n := 6) Being.fl (by omega) (by omega))) rfl))) rfl rfl (Pend_okv rfl (OK_s (EX_s (PS_indexAddr ia32 rfl rfl (by omega) (by omega)))) rfl rfl (Pend_okv rfl (OK_s (EX_s (PS_fieldAddr fa34_2 rfl))) rfl rfl (Pend_okv rfl (OK_s (EX_s (PS_move rfl))) rfl rfl (Pend_okv rfl (OK_s (EX_s (PS_loadA rfl tya31 (.tail _ (.tail _ (.head _))) (Land.l2.comp (Lens.arr (n := 6) Being.fl (by omega) (by omega))) rfl))) rfl rfl (Pend_okv rfl (OK_s (EX_s (PS_indexAddr ia32 rfl rfl (by omega) (by omega)))) rfl rfl (Pend_okv rfl (OK_s (EX_s (PS_fieldAddr fa34_2 rfl))) rfl rfl (Pend_okv rfl (OK_s (EX_s (PS_move rfl))) rfl rfl Pend_nil))))))))
        refine Plan_chain 10 rfl (by kernel_rfl) ?_
        refine GL_unit (PU_store (Lens.id Being.fl.len Being.fl.one) rfl rfl rfl sz31 rfl (.tail .head)) ?_
        refine GL_hand0 rfl ⟨?_, ?_⟩
        · exact (Pend_okv rfl (OK_s (EX_s (PS_loadA rfl tya31 (.tail _ (.tail _ (.head _))) (Land.l2.comp (Lens.arr (n := 6) Being.fl (by omega) (by omega))) rfl))) rfl rfl (Pend_okv rfl (OK_s (EX_s (PS_indexAddr ia32 rfl rfl (by omega) (by omega)))) rfl rfl (Pend_okv rfl (OK_s (EX_s (PS_fieldAddr fa34_2 rfl))) rfl rfl (Pend_okv rfl (OK_s (EX_s (PS_move rfl))) rfl rfl (Pend_skip (by kernel_rfl) (Pend_skip (by kernel_rfl) (Pend_skip (by kernel_rfl) (Pend_skip (by kernel_rfl) Pend_nil))))))))
        refine Plan_chain 11 rfl (by kernel_rfl) ?_
        refine GL_unit (PU_store (Lens.id Being.fl.len Being.fl.one) rfl rfl rfl sz31 rfl .head) ?_
        refine GL_hand0 rfl ⟨?_, ?_⟩
        · exact (Pend_skip (by kernel_rfl) (Pend_skip (by kernel_rfl) (Pend_skip (by kernel_rfl) (Pend_skip (by kernel_rfl) (Pend_skip (by kernel_rfl) (Pend_skip (by kernel_rfl) (Pend_skip (by kernel_rfl) (Pend_skip (by kernel_rfl) Pend_nil))))))))
        refine Plan_end (by kernel_rfl) ?_
        refine GQ_sub (.cons (k := 2) rfl (.cons (k := 3) rfl (.cons (k := 7) rfl (.cons (k := 8) rfl (.nil _))))) ?_
        refine GQ_then ?_
        refine G_seq ?_
        refine G_region ?_
        refine GL_step rfl (PS_fieldAddr fa31_3 rfl) ?_
        refine GL_step rfl (PS_load rfl tys3 (.tail _ (.head _)) Being.l3 rfl rfl) ?_
        refine GL_step rfl (PS_fieldAddr fa31_3 rfl) ?_
        refine GL_step rfl (PS_load rfl tys3 (.head _) Being.l3 rfl rfl) ?_
        refine GL_step rfl (PS_eql rfl rfl) ?_
        refine GL_step rfl (PS_move rfl) ?_
        refine GL_gt (t := 35) rfl rfl rfl (fun q => PS_loadA rfl tya34 (.tail _ (.tail _ (.head _))) (Lens.id Land.fl.len Land.fl.one) rfl) ?_
        refine GL_gt (t := 35) rfl rfl rfl (fun q => PS_fieldAddr fa31_3 rfl) ?_
        refine GL_gt (t := 35) rfl rfl rfl (fun q => PS_load (cvE rfl q) tys3 (.tail _ (.head _)) Being.l3 rfl rfl) ?_
        refine GL_pgt (t := 35) rfl rfl rfl (fun q => PC_of cf8 (.cons (cvE rfl q) (.cons (cvE rfl q) .nil)) (fun w hS => sense_Bright_spec _ _ w)) ?_
        refine GL_step rfl (PS_and rfl rfl (fun h => h)) ?_
        refine GL_step rfl (PS_move rfl) ?_
        refine GL_gt (t := 41) rfl rfl rfl (fun q => PS_fieldAddr fa31_2 rfl) ?_
        refine GL_gt (t := 41) rfl rfl rfl (fun q => PS_load (cvE rfl q) tys4 (.tail _ (.head _)) Being.l2 rfl rfl) ?_
        refine GL_gt (t := 41) rfl rfl rfl (fun q => PS_move (cvE rfl q)) ?_
        refine GL_gfc (t := 44) rfl rfl rfl (fun qc q => PS_loadA rfl tya34 (.tail _ (.tail _ (.head _))) (Lens.id Land.fl.len Land.fl.one) rfl) ?_
        refine GL_gfc (t := 44) rfl rfl rfl (fun qc q => PS_move rfl) ?_
        refine GL_pgfc (t := 44) rfl rfl rfl (fun qc q => by have q1 := q; have qc1 := qc; (try simp at q1 qc1); exact PC_of cf10 (.cons (cvE rfl (by rw [qc, q]; rfl)) (.cons (cvE rfl (by rw [qc, q]; rfl)) .nil)) (fun w hS => sense_Hidden_spec _ _ w)) ?_
        refine GL_gfc (t := 44) rfl rfl rfl (fun qc q => PS_not (cvE rfl (by rw [qc, q]; rfl))) ?_
        refine GL_gt (t := 41) rfl rfl rfl (fun q => PS_or (cvE rfl q) rfl (fun h => by rw [q, h]; rfl)) ?_
        refine GL_step rfl (PS_and rfl rfl (fun h => h)) ?_
        refine GL_step rfl (PS_assign rfl) ?_
        refine GL_nil ?_
        refine GQ_sub (.cons (k := 6) rfl (.nil _)) ?_
        refine GQ_then ?_
        refine G_ret ?_
        refine GQ_ret rfl (.tmp rfl .nil) ?_
        intro w1 hS; refine ⟨congrArg Value.bool ?_, hS.toKeep⟩; rw [show X.sees a b = _ from ((if_f c1).trans (if_f c2))]
      · skip
        refine GL_alloc rfl zv31 rfl (fun b4 => ?_)
        refine GL_hand rfl ⟨?_, ?_⟩
        · exact (Pend_okv rfl (OK_s (EX_s (PS_loadA rfl tya31 (.tail _ (.head _)) (Land.l2.comp (Lens.arr (n := 6) Being.fl (by omega) (by omega))) rfl))) rfl rfl (Pend_okv rfl (OK_s (EX_s (PS_indexAddr ia32 rfl rfl (by omega) (by omega)))) rfl rfl (Pend_okv rfl (OK_s (EX_s (PS_fieldAddr fa34_2 rfl))) rfl rfl (Pend_okv rfl (OK_s (EX_s (PS_move rfl))) rfl rfl (Pend_okv rfl (OK_s (EX_s (PS_loadA rfl tya31 (.tail _ (.head _)) (Land.l2.comp (Lens.arr (n := 6) Being.fl (by omega) (by omega))) rfl))) rfl rfl (Pend_okv rfl (OK_s (EX_s (PS_indexAddr ia32 rfl rfl (by omega) (by omega)))) rfl rfl (Pend_okv rfl (OK_s (EX_s (PS_fieldAddr fa34_2 rfl))) rfl rfl (Pend_okv rfl (OK_s (EX_s (PS_move rfl))) rfl rfl Pend_nil))))))))
        refine Plan_chain 8 rfl (by kernel_rfl) ?_
        refine GL_alloc rfl zv31 rfl (fun b5 => ?_)
        refine GL_hand rfl ⟨?_, ?_⟩
        · exact (Pend_okv rfl (OK_s (EX_s (PS_loadA rfl tya31 (.tail _ (.tail _ (.head _))) (Land.l2.comp (Lens.arr (n := 6) Being.fl (by omega) (by omega))) rfl))) rfl rfl (Pend_okv rfl (OK_s (EX_s (PS_indexAddr ia32 rfl rfl (by omega) (by omega)))) rfl rfl (Pend_okv rfl (OK_s (EX_s (PS_fieldAddr fa34_2 rfl))) rfl rfl (Pend_okv rfl (OK_s (EX_s (PS_move rfl))) rfl rfl (Pend_okv rfl (OK_s (EX_s (PS_loadA rfl tya31 (.tail _ (.tail _ (.head _))) (Land.l2.comp (Lens.arr (n := 6) Being.fl (by omega) (by omega))) rfl))) rfl rfl (Pend_okv rfl (OK_s (EX_s (PS_indexAddr ia32 rfl rfl (by omega) (by omega)))) rfl rfl (Pend_okv rfl (OK_s (EX_s (PS_fieldAddr fa34_2 rfl))) rfl rfl (Pend_okv rfl (OK_s (EX_s (PS_move rfl))) rfl rfl Pend_nil))))))))
        refine Plan_chain 10 rfl (by kernel_rfl) ?_
        refine GL_unit (PU_store (Lens.id Being.fl.len Being.fl.one) rfl rfl rfl sz31 rfl .head) ?_
        refine GL_hand0 rfl ⟨?_, ?_⟩
        · exact (Pend_okv rfl (OK_s (EX_s (PS_loadA rfl tya31 (.tail _ (.tail _ (.head _))) (Land.l2.comp (Lens.arr (n := 6) Being.fl (by omega) (by omega))) rfl))) rfl rfl (Pend_okv rfl (OK_s (EX_s (PS_indexAddr ia32 rfl rfl (by omega) (by omega)))) rfl rfl (Pend_okv rfl (OK_s (EX_s (PS_fieldAddr fa34_2 rfl))) rfl rfl (Pend_okv rfl (OK_s (EX_s (PS_move rfl))) rfl rfl (Pend_skip (by kernel_rfl) (Pend_skip (by kernel_rfl) (Pend_skip (by kernel_rfl) (Pend_skip (by kernel_rfl) Pend_nil))))))))
        refine Plan_chain 11 rfl (by kernel_rfl) ?_
        refine GL_unit (PU_store (Lens.id Being.fl.len Being.fl.one) rfl rfl rfl sz31 rfl (.tail .head)) ?_
        refine GL_hand0 rfl ⟨?_, ?_⟩
        · exact (Pend_skip (by kernel_rfl) (Pend_skip (by kernel_rfl) (Pend_skip (by kernel_rfl) (Pend_skip (by kernel_rfl) (Pend_skip (by kernel_rfl) (Pend_skip (by kernel_rfl) (Pend_skip (by kernel_rfl) (Pend_skip (by kernel_rfl) Pend_nil))))))))
        refine Plan_end (by kernel_rfl) ?_
        refine GQ_sub (.cons (k := 2) rfl (.cons (k := 3) rfl (.cons (k := 7) rfl (.cons (k := 8) rfl (.nil _))))) ?_
        refine GQ_then ?_
        refine G_seq ?_
        refine G_region ?_
        refine GL_step rfl (PS_fieldAddr fa31_3 rfl) ?_
        refine GL_step rfl (PS_load rfl tys3 (.head _) Being.l3 rfl rfl) ?_
        refine GL_step rfl (PS_fieldAddr fa31_3 rfl) ?_
        refine GL_step rfl (PS_load rfl tys3 (.tail _ (.head _)) Being.l3 rfl rfl) ?_
        refine GL_step rfl (PS_eql rfl rfl) ?_
        refine GL_step rfl (PS_move rfl) ?_
        refine GL_gt (t := 35) rfl rfl rfl (fun q => PS_loadA rfl tya34 (.tail _ (.tail _ (.head _))) (Lens.id Land.fl.len Land.fl.one) rfl) ?_
        refine GL_gt (t := 35) rfl rfl rfl (fun q => PS_fieldAddr fa31_3 rfl) ?_
        refine GL_gt (t := 35) rfl rfl rfl (fun q => PS_load (cvE rfl q) tys3 (.head _) Being.l3 rfl rfl) ?_
        refine GL_pgt (t := 35) rfl rfl rfl (fun q => PC_of cf8 (.cons (cvE rfl q) (.cons (cvE rfl q) .nil)) (fun w hS => sense_Bright_spec _ _ w)) ?_
        refine GL_step rfl (PS_and rfl rfl (fun h => h)) ?_
        refine GL_step rfl (PS_move rfl) ?_
        refine GL_gt (t := 41) rfl rfl rfl (fun q => PS_fieldAddr fa31_2 rfl) ?_
        refine GL_gt (t := 41) rfl rfl rfl (fun q => PS_load (cvE rfl q) tys4 (.head _) Being.l2 rfl rfl) ?_
        refine GL_gt (t := 41) rfl rfl rfl (fun q => PS_move (cvE rfl q)) ?_
        refine GL_gfc (t := 44) rfl rfl rfl (fun qc q => PS_loadA rfl tya34 (.tail _ (.tail _ (.head _))) (Lens.id Land.fl.len Land.fl.one) rfl) ?_
        refine GL_gfc (t := 44) rfl rfl rfl (fun qc q => PS_move rfl) ?_
        refine GL_pgfc (t := 44) rfl rfl rfl (fun qc q => by have q1 := q; have qc1 := qc; (try simp at q1 qc1); exact PC_of cf10 (.cons (cvE rfl (by rw [qc, q]; rfl)) (.cons (cvE rfl (by rw [qc, q]; rfl)) .nil)) (fun w hS => sense_Hidden_spec _ _ w)) ?_
        refine GL_gfc (t := 44) rfl rfl rfl (fun qc q => PS_not (cvE rfl (by rw [qc, q]; rfl))) ?_
        refine GL_gt (t := 41) rfl rfl rfl (fun q => PS_or (cvE rfl q) rfl (fun h => by rw [q, h]; rfl)) ?_
        refine GL_step rfl (PS_and rfl rfl (fun h => h)) ?_
        refine GL_step rfl (PS_assign rfl) ?_
        refine GL_nil ?_
        refine GQ_sub (.cons (k := 6) rfl (.nil _)) ?_
        refine GQ_then ?_
        refine G_ret ?_
        refine GQ_ret rfl (.tmp rfl .nil) ?_
        intro w1 hS; refine ⟨congrArg Value.bool ?_, hS.toKeep⟩; rw [show X.sees a b = _ from ((if_f c1).trans (if_f c2))]
theorem ref_about_spec (X : Land) (b : Int) (w : World) : Ret Tryd.prog 25 #[.agg X.enc.toArray, .int .i64 b] w fun v w' => v = .bool (X.being b) ∧ Keep w w' := by
  refine Ret_body [] [] Tryd.func25 rfl rfl rfl (St.start w []) ?_
  refine G_seq ?_
  refine G_region ?_
  refine GL_box rfl rfl rfl (fun b1 => ?_)
  refine GL_step rfl (PS_assign rfl) ?_
  refine GL_nil ?_
  refine GQ_sub (.cons (k := 1) rfl (.cons (k := 2) rfl (.nil _))) ?_
  refine GQ_then ?_
  refine G_seq ?_
  refine G_region ?_
  refine GL_step rfl (PS_move rfl) ?_
  refine GL_step rfl (PS_geq rfl rfl) ?_
  refine GL_step rfl (PS_move rfl) ?_
  refine GL_gt (t := 7) rfl rfl rfl (fun q => PS_move rfl) ?_
  refine GL_gt (t := 7) rfl rfl rfl (fun q => PS_lss (cvE rfl q) rfl) ?_
  refine GL_step rfl (PS_and rfl rfl (fun h => h)) ?_
  refine GL_step rfl (PS_move rfl) ?_
  refine GL_gt (t := 11) rfl rfl rfl (fun q => PS_move rfl) ?_
  refine GL_gt (t := 11) rfl rfl rfl (fun q => PS_fieldAddr fa34_2 rfl) ?_
  refine GL_gt (t := 11) rfl rfl rfl (fun q => by have q1 := q; (try simp at q1); exact PS_indexAddr ia32 (cvE rfl q) (cvE rfl q) (by omega) (by omega)) ?_
  refine GL_gt (t := 11) rfl rfl rfl (fun q => PS_fieldAddr fa31_1 (cvE rfl q)) ?_
  refine GL_gt (t := 11) rfl rfl rfl (fun q => by have q1 := q; (try simp at q1); exact PS_load (cvE rfl q) tys4 (.head _) ((Land.l2.comp (Lens.arr (n := 6) Being.fl (by omega) (by omega))).comp Being.l1) rfl rfl) ?_
  refine GL_step rfl (PS_and rfl rfl (fun h => h)) ?_
  refine GL_step rfl (PS_assign rfl) ?_
  refine GL_nil ?_
  refine GQ_sub (.cons (k := 4) rfl (.nil _)) ?_
  refine GQ_then ?_
  refine G_ret ?_
  refine GQ_ret rfl (.tmp rfl .nil) ?_
  intro w1 hS; refine ⟨?_, hS.toKeep⟩; rfl
theorem ref_IsSeen_spec (X : Land) (a b : Int) (w : World) : Ret Tryd.prog 13 #[.agg X.enc.toArray, .int .i64 a, .int .i64 b] w fun v w' => v = .bool (X.sees a b) ∧ Keep w w' := by
  refine Ret_body [] [] Tryd.func13 rfl rfl rfl (St.start w []) ?_
  refine G_seq ?_
  refine G_region ?_
  refine GL_box rfl rfl rfl (fun b1 => ?_)
  refine GL_step rfl (PS_assign rfl) ?_
  refine GL_nil ?_
  refine GQ_sub (.cons (k := 1) rfl (.cons (k := 2) rfl (.cons (k := 3) rfl (.nil _)))) ?_
  refine GQ_then ?_
  refine G_seq ?_
  refine G_seq ?_
  refine G_region ?_
  refine GL_step rfl (PS_loadA rfl tya34 (.head _) (Lens.id Land.fl.len Land.fl.one) rfl) ?_
  refine GL_step rfl (PS_move rfl) ?_
  refine GL_pure rfl cf25 (.cons rfl (.cons rfl .nil)) (fun w hS => ref_about_spec _ _ w) ?_
  refine GL_step rfl (PS_not rfl) ?_
  refine GL_step rfl (PS_move rfl) ?_
  refine GL_gf (t := 11) rfl rfl rfl (fun q => PS_loadA rfl tya34 (.head _) (Lens.id Land.fl.len Land.fl.one) rfl) ?_
  refine GL_gf (t := 11) rfl rfl rfl (fun q => PS_move rfl) ?_
  refine GL_pgf (t := 11) rfl rfl rfl (fun q => by have q1 := q; (try simp at q1); exact PC_of cf25 (.cons (cvE rfl (by rw [q]; rfl)) (.cons (cvE rfl (by rw [q]; rfl)) .nil)) (fun w hS => ref_about_spec _ _ w)) ?_
  refine GL_gf (t := 11) rfl rfl rfl (fun q => PS_not (cvE rfl (by rw [q]; rfl))) ?_
  refine GL_step rfl (PS_or rfl rfl (fun h => by rw [h]; rfl)) ?_
  refine GL_nil ?_
  refine GQ_sub (.cons (k := 1) rfl (.cons (k := 2) rfl (.cons (k := 3) rfl (.cons (k := 16) rfl (.nil _))))) ?_
  refine GQ_then ?_
  refine G_cond rfl (fun c1 => ?_) (fun c1 => ?_)
  · skip
    have c1p := c1
    try simp only [decide_eq_true_eq, decide_eq_false_iff_not, Bool.not_eq_true', Bool.not_eq_false', Bool.or_eq_true, Bool.and_eq_true, Bool.or_eq_false_iff, Bool.and_eq_false_iff, Int.not_lt, Int.not_le] at c1p
    refine G_seq ?_
    refine G_region ?_
    refine GL_step rfl (PS_assign rfl) ?_
    refine GL_nil ?_
    refine GQ_sub (.cons (k := 6) rfl (.nil _)) ?_
    refine GQ_then ?_
    refine G_ret ?_
    refine GQ_then_ret ?_
    refine GQ_ret rfl (.tmp rfl .nil) ?_
    intro w1 hS; refine ⟨congrArg Value.bool ?_, hS.toKeep⟩; rw [Land.sees_out c1]
  · skip
    have c1p := c1
    try simp only [decide_eq_true_eq, decide_eq_false_iff_not, Bool.not_eq_true', Bool.not_eq_false', Bool.or_eq_true, Bool.and_eq_true, Bool.or_eq_false_iff, Bool.and_eq_false_iff, Int.not_lt, Int.not_le] at c1p
    have hr : (0 ≤ a ∧ a < 6) ∧ 0 ≤ b ∧ b < 6 := by simp at c1; have h1 := Land.being_rng c1.1; have h2 := Land.being_rng c1.2; omega
    refine G_skip ?_
    refine GQ_sub (.cons (k := 1) rfl (.cons (k := 2) rfl (.cons (k := 3) rfl (.nil _)))) ?_
    refine GQ_then ?_
    refine G_seq ?_
    refine G_planN (N := 39) [0, 0, 3, 7, 15, 15, 63, 127, 255, 15, 15, 1551, 3599, 7695, 16383, 32767, 65535, 65535, 65535, 458751, 983039, 2031615, 4194303, 8388607, 16777215, 33554431, 33554431, 134217727, 268435455, 536870911, 1073741823, 1073741823, 4294967295, 8589934591, 17179869183, 34359738367, 68719476735, 137438953471, 274877906943] mix (by kernel_rfl) rfl ?_
    refine Plan_float 0 rfl rfl (by kernel_rfl) (OK_s (EX_s (PS_move rfl))) ?_
    refine Plan_float 1 rfl rfl (by kernel_rfl) (OK_s (EX_s (PS_move rfl))) ?_
    refine Plan_float 2 rfl rfl (by kernel_rfl) (OK_s (EX_s (PS_eql rfl rfl))) ?_
    refine Plan_float 3 rfl rfl (by kernel_rfl) (OK_s (EX_s (PS_move rfl))) ?_
    refine Plan_float 4 rfl rfl (by kernel_rfl) (OK_gf (t := 20) rfl rfl (fun q => EX_s (PS_move rfl))) ?_
    refine Plan_float 5 rfl rfl (by kernel_rfl) (OK_gf (t := 20) rfl rfl (fun q => EX_s (PS_fieldAddr fa34_2 rfl))) ?_
    refine Plan_float 6 rfl rfl (by kernel_rfl) (OK_gf (t := 20) rfl rfl (fun q => by have q1 := q; (try simp at q1); exact EX_s (PS_indexAddr ia32 (cvE rfl (by rw [q]; rfl)) (cvE rfl (by rw [q]; rfl)) (by omega) (by omega)))) ?_
    refine Plan_float 7 rfl rfl (by kernel_rfl) (OK_gf (t := 20) rfl rfl (fun q => EX_s (PS_fieldAddr fa31_3 (cvE rfl (by rw [q]; rfl))))) ?_
    refine Plan_float 8 rfl rfl (by kernel_rfl) (OK_gf (t := 20) rfl rfl (fun q => by have q1 := q; (try simp at q1); exact EX_s (PS_load (cvE rfl (by rw [q]; rfl)) tys3 (.head _) ((Land.l2.comp (Lens.arr (n := 6) Being.fl (by omega) (by omega))).comp Being.l3) rfl rfl))) ?_
    refine Plan_float 9 rfl rfl (by kernel_rfl) (OK_gf (t := 20) rfl rfl (fun q => EX_s (PS_move rfl))) ?_
    refine Plan_float 10 rfl rfl (by kernel_rfl) (OK_gf (t := 20) rfl rfl (fun q => EX_s (PS_fieldAddr fa34_2 rfl))) ?_
    refine Plan_float 11 rfl rfl (by kernel_rfl) (OK_gf (t := 20) rfl rfl (fun q => by have q1 := q; (try simp at q1); exact EX_s (PS_indexAddr ia32 (cvE rfl (by rw [q]; rfl)) (cvE rfl (by rw [q]; rfl)) (by omega) (by omega)))) ?_
    refine Plan_float 12 rfl rfl (by kernel_rfl) (OK_gf (t := 20) rfl rfl (fun q => EX_s (PS_fieldAddr fa31_3 (cvE rfl (by rw [q]; rfl))))) ?_
    refine Plan_float 13 rfl rfl (by kernel_rfl) (OK_gf (t := 20) rfl rfl (fun q => by have q1 := q; (try simp at q1); exact EX_s (PS_load (cvE rfl (by rw [q]; rfl)) tys3 (.head _) ((Land.l2.comp (Lens.arr (n := 6) Being.fl (by omega) (by omega))).comp Being.l3) rfl rfl))) ?_
    refine Plan_float 14 rfl rfl (by kernel_rfl) (OK_gf (t := 20) rfl rfl (fun q => EX_s (PS_eql (cvE rfl (by rw [q]; rfl)) (cvE rfl (by rw [q]; rfl))))) ?_
    refine Plan_float 15 rfl rfl (by kernel_rfl) (OK_gf (t := 20) rfl rfl (fun q => EX_s (PS_move (cvE rfl (by rw [q]; rfl))))) ?_
    refine Plan_float 16 rfl rfl (by kernel_rfl) (OK_gtc (t := 32) rfl rfl (fun qc q => EX_s (PS_loadA rfl tya34 (.head _) (Lens.id Land.fl.len Land.fl.one) rfl))) ?_
    refine Plan_float 17 rfl rfl (by kernel_rfl) (OK_gtc (t := 32) rfl rfl (fun qc q => EX_s (PS_move rfl))) ?_
    refine Plan_float 18 rfl rfl (by kernel_rfl) (OK_gtc (t := 32) rfl rfl (fun qc q => EX_s (PS_fieldAddr fa34_2 rfl))) ?_
    refine Plan_float 19 rfl rfl (by kernel_rfl) (OK_gtc (t := 32) rfl rfl (fun qc q => by have q1 := q; have qc1 := qc; (try simp at q1 qc1); exact EX_s (PS_indexAddr ia32 (cvE rfl (by rw [qc, q]; rfl)) (cvE rfl (by rw [qc, q]; rfl)) (by omega) (by omega)))) ?_
    refine Plan_float 20 rfl rfl (by kernel_rfl) (OK_gtc (t := 32) rfl rfl (fun qc q => EX_s (PS_fieldAddr fa31_3 (cvE rfl (by rw [qc, q]; rfl))))) ?_
    refine Plan_float 21 rfl rfl (by kernel_rfl) (OK_gtc (t := 32) rfl rfl (fun qc q => by have q1 := q; have qc1 := qc; (try simp at q1 qc1); exact EX_s (PS_load (cvE rfl (by rw [qc, q]; rfl)) tys3 (.head _) ((Land.l2.comp (Lens.arr (n := 6) Being.fl (by omega) (by omega))).comp Being.l3) rfl rfl))) ?_
    refine Plan_float 22 rfl rfl (by kernel_rfl) (OK_gtc (t := 32) rfl rfl (fun qc q => by have q1 := q; have qc1 := qc; (try simp at q1 qc1); exact EX_c (PC_of cf9 (.cons (cvE rfl (by rw [qc, q]; rfl)) (.cons (cvE rfl (by rw [qc, q]; rfl)) .nil)) (fun w hS => ref_IsBright_spec _ _ w)))) ?_
    refine Plan_float 23 rfl rfl (by kernel_rfl) (OK_gf (t := 20) rfl rfl (fun q => EX_s (PS_and (cvE rfl (by rw [q]; rfl)) rfl (fun h => by rw [q, h]; rfl)))) ?_
    refine Plan_float 24 rfl rfl (by kernel_rfl) (OK_gf (t := 20) rfl rfl (fun q => EX_s (PS_move (cvE rfl (by rw [q]; rfl))))) ?_
    refine Plan_float 25 rfl rfl (by kernel_rfl) (OK_gtc (t := 41) rfl rfl (fun qc q => EX_s (PS_loadA rfl tya34 (.head _) (Lens.id Land.fl.len Land.fl.one) rfl))) ?_
    refine Plan_float 26 rfl rfl (by kernel_rfl) (OK_gtc (t := 41) rfl rfl (fun qc q => EX_s (PS_move rfl))) ?_
    refine Plan_float 27 rfl rfl (by kernel_rfl) (OK_gtc (t := 41) rfl rfl (fun qc q => by have q1 := q; have qc1 := qc; (try simp at q1 qc1); exact EX_c (PC_of cf11 (.cons (cvE rfl (by rw [qc, q]; rfl)) (.cons (cvE rfl (by rw [qc, q]; rfl)) .nil)) (fun w hS => ref_IsHidden_spec _ _ w)))) ?_
    refine Plan_float 28 rfl rfl (by kernel_rfl) (OK_gtc (t := 41) rfl rfl (fun qc q => EX_s (PS_not (cvE rfl (by rw [qc, q]; rfl))))) ?_
    refine Plan_float 29 rfl rfl (by kernel_rfl) (OK_gtc (t := 41) rfl rfl (fun qc q => EX_s (PS_move (cvE rfl (by rw [qc, q]; rfl))))) ?_
    refine Plan_float 30 rfl rfl (by kernel_rfl) (OK_gfc (t := 46) rfl rfl (fun qc q => EX_s (PS_move rfl))) ?_
    refine Plan_float 31 rfl rfl (by kernel_rfl) (OK_gfc (t := 46) rfl rfl (fun qc q => EX_s (PS_fieldAddr fa34_2 rfl))) ?_
    refine Plan_float 32 rfl rfl (by kernel_rfl) (OK_gfc (t := 46) rfl rfl (fun qc q => by have q1 := q; have qc1 := qc; (try simp at q1 qc1); exact EX_s (PS_indexAddr ia32 (cvE rfl (by rw [qc, q]; rfl)) (cvE rfl (by rw [qc, q]; rfl)) (by omega) (by omega)))) ?_
    refine Plan_float 33 rfl rfl (by kernel_rfl) (OK_gfc (t := 46) rfl rfl (fun qc q => EX_s (PS_fieldAddr fa31_2 (cvE rfl (by rw [qc, q]; rfl))))) ?_
    refine Plan_float 34 rfl rfl (by kernel_rfl) (OK_gfc (t := 46) rfl rfl (fun qc q => by have q1 := q; have qc1 := qc; (try simp at q1 qc1); exact EX_s (PS_load (cvE rfl (by rw [qc, q]; rfl)) tys4 (.head _) ((Land.l2.comp (Lens.arr (n := 6) Being.fl (by omega) (by omega))).comp Being.l2) rfl rfl))) ?_
    refine Plan_float 35 rfl rfl (by kernel_rfl) (OK_gtc (t := 41) rfl rfl (fun qc q => EX_s (PS_or (cvE rfl (by rw [qc, q]; rfl)) rfl (fun h => by rw [qc, q, h]; rfl)))) ?_
    refine Plan_float 36 rfl rfl (by kernel_rfl) (OK_gf (t := 20) rfl rfl (fun q => EX_s (PS_and (cvE rfl (by rw [q]; rfl)) rfl (fun h => by rw [q, h]; rfl)))) ?_
    refine Plan_float 37 rfl rfl (by kernel_rfl) (OK_s (EX_s (PS_or rfl rfl (fun h => by rw [h]; rfl)))) ?_
    refine Plan_float 38 rfl rfl (by kernel_rfl) (OK_s (EX_s (PS_assign rfl))) ?_
    refine Plan_end (by kernel_rfl) ?_
    refine GQ_sub (.cons (k := 6) rfl (.nil _)) ?_
    refine GQ_then ?_
    refine G_ret ?_
    refine GQ_ret rfl (.tmp rfl .nil) ?_
    intro w1 hS; refine ⟨congrArg Value.bool ?_, hS.toKeep⟩; rw [Land.sees_eq c1]
theorem sense_loud_spec (k : Int) (w : World) : Ret Tryd.prog 26 #[.int .i64 k] w fun v w' => v = .bool (Land.loud k) ∧ Keep w w' := by
  refine Ret_body [] [] Tryd.func26 rfl rfl rfl (St.start w []) ?_
  refine G_seq ?_
  refine G_region ?_
  refine GL_step rfl (PS_assign rfl) ?_
  refine GL_nil ?_
  refine GQ_sub (.cons (k := 0) rfl (.nil _)) ?_
  refine GQ_then ?_
  refine G_seq ?_
  refine G_region ?_
  refine GL_step rfl (PS_move rfl) ?_
  refine GL_step rfl (PS_eql rfl rfl) ?_
  refine GL_step rfl (PS_move rfl) ?_
  refine GL_gf (t := 5) rfl rfl rfl (fun q => PS_move rfl) ?_
  refine GL_gf (t := 5) rfl rfl rfl (fun q => PS_eql (cvE rfl (by rw [q]; rfl)) rfl) ?_
  refine GL_step rfl (PS_or rfl rfl (fun h => by rw [h]; rfl)) ?_
  refine GL_step rfl (PS_move rfl) ?_
  refine GL_gf (t := 9) rfl rfl rfl (fun q => PS_move rfl) ?_
  refine GL_gf (t := 9) rfl rfl rfl (fun q => PS_eql (cvE rfl (by rw [q]; rfl)) rfl) ?_
  refine GL_step rfl (PS_or rfl rfl (fun h => by rw [h]; rfl)) ?_
  refine GL_step rfl (PS_assign rfl) ?_
  refine GL_nil ?_
  refine GQ_sub (.cons (k := 2) rfl (.nil _)) ?_
  refine GQ_then ?_
  refine G_ret ?_
  refine GQ_ret rfl (.tmp rfl .nil) ?_
  intro w1 hS; refine ⟨?_, hS.toKeep⟩; rfl
theorem sense_Perceives_spec (X : Land) (b : Int) (e : Ing.Event) (w : World) : Ret Tryd.prog 14 #[.agg X.enc.toArray, .int .i64 b, .agg e.enc.toArray] w fun v w' => v = .int .i64 (X.perceives b e) ∧ Keep w w' := by
  refine Ret_body [] [] Tryd.func14 rfl rfl rfl (St.start w []) ?_
  refine G_seq ?_
  refine G_region ?_
  refine GL_box rfl rfl rfl (fun b1 => ?_)
  refine GL_box rfl rfl rfl (fun b2 => ?_)
  refine GL_step rfl (PS_assign rfl) ?_
  refine GL_nil ?_
  refine GQ_sub (.cons (k := 1) rfl (.cons (k := 3) rfl (.cons (k := 5) rfl (.nil _)))) ?_
  refine GQ_then ?_
  refine G_seq ?_
  refine G_block ?_
  refine G_seq ?_
  refine G_region ?_
  refine GL_step rfl (PS_loadA rfl tya34 (.tail _ (.head _)) (Lens.id Land.fl.len Land.fl.one) rfl) ?_
  refine GL_step rfl (PS_move rfl) ?_
  refine GL_pure rfl cf24 (.cons rfl (.cons rfl .nil)) (fun w hS => sense_being_spec _ _ w) ?_
  refine GL_step rfl (PS_not rfl) ?_
  refine GL_step rfl (PS_assign rfl) ?_
  refine GL_nil ?_
  refine GQ_sub (.cons (k := 1) rfl (.cons (k := 3) rfl (.cons (k := 5) rfl (.cons (k := 8) rfl (.nil _))))) ?_
  refine GQ_then ?_
  refine G_cond rfl (fun c1 => ?_) (fun c1 => ?_)
  · skip
    have c1p := c1
    try simp only [decide_eq_true_eq, decide_eq_false_iff_not, Bool.not_eq_true', Bool.not_eq_false', Bool.or_eq_true, Bool.and_eq_true, Bool.or_eq_false_iff, Bool.and_eq_false_iff, Int.not_lt, Int.not_le] at c1p
    refine G_seq ?_
    refine G_region ?_
    refine GL_step rfl (PS_assign rfl) ?_
    refine GL_nil ?_
    refine GQ_sub (.cons (k := 6) rfl (.nil _)) ?_
    refine GQ_then ?_
    refine G_ret ?_
    refine GQ_block_ret ?_
    refine GQ_then_ret ?_
    refine GQ_ret rfl (.tmp rfl .nil) ?_
    intro w1 hS; refine ⟨?_, hS.toKeep⟩; rw [show X.perceives b e = _ from (if_t c1)]; rfl
  · skip
    have c1p := c1
    try simp only [decide_eq_true_eq, decide_eq_false_iff_not, Bool.not_eq_true', Bool.not_eq_false', Bool.or_eq_true, Bool.and_eq_true, Bool.or_eq_false_iff, Bool.and_eq_false_iff, Int.not_lt, Int.not_le] at c1p
    have hr : 0 ≤ b ∧ b < 6 := by simp at c1; have h1 := Land.being_rng c1; omega
    refine G_seq ?_
    refine G_region ?_
    refine GL_step rfl (PS_move rfl) ?_
    refine GL_step rfl (PS_fieldAddr fa36_2 rfl) ?_
    refine GL_step rfl (PS_load rfl tys3 (.head _) Ing.Event.l2 rfl rfl) ?_
    refine GL_step rfl (PS_eql rfl rfl) ?_
    refine GL_step rfl (PS_assign rfl) ?_
    refine GL_nil ?_
    refine GQ_sub (.cons (k := 1) rfl (.cons (k := 3) rfl (.cons (k := 5) rfl (.cons (k := 13) rfl (.nil _))))) ?_
    refine GQ_then ?_
    refine G_cond rfl (fun c2 => ?_) (fun c2 => ?_)
    · skip
      have c2p := c2
      try simp only [decide_eq_true_eq, decide_eq_false_iff_not, Bool.not_eq_true', Bool.not_eq_false', Bool.or_eq_true, Bool.and_eq_true, Bool.or_eq_false_iff, Bool.and_eq_false_iff, Int.not_lt, Int.not_le] at c2p
      refine G_seq ?_
      refine G_seq ?_
      refine G_region ?_
      refine GL_step rfl (PS_fieldAddr fa36_3 rfl) ?_
      refine GL_step rfl (PS_load rfl tys3 (.head _) Ing.Event.l3 rfl rfl) ?_
      refine GL_step rfl (PS_lss rfl rfl) ?_
      refine GL_step rfl (PS_move rfl) ?_
      refine GL_gf (t := 21) rfl rfl rfl (fun q => PS_fieldAddr fa36_3 rfl) ?_
      refine GL_gf (t := 21) rfl rfl rfl (fun q => PS_load (cvE rfl (by rw [q]; rfl)) tys3 (.head _) Ing.Event.l3 rfl rfl) ?_
      refine GL_gf (t := 21) rfl rfl rfl (fun q => PS_geq (cvE rfl (by rw [q]; rfl)) rfl) ?_
      refine GL_step rfl (PS_or rfl rfl (fun h => by rw [h]; rfl)) ?_
      refine GL_step rfl (PS_move rfl) ?_
      refine GL_gf (t := 26) rfl rfl rfl (fun q => PS_loadA rfl tya34 (.tail _ (.head _)) (Lens.id Land.fl.len Land.fl.one) rfl) ?_
      refine GL_gf (t := 26) rfl rfl rfl (fun q => PS_move rfl) ?_
      refine GL_gf (t := 26) rfl rfl rfl (fun q => PS_fieldAddr fa36_3 rfl) ?_
      refine GL_gf (t := 26) rfl rfl rfl (fun q => PS_load (cvE rfl (by rw [q]; rfl)) tys3 (.head _) Ing.Event.l3 rfl rfl) ?_
      refine GL_pgf (t := 26) rfl rfl rfl (fun q => by have q1 := q; (try simp at q1); exact PC_of cf12 (.cons (cvE rfl (by rw [q]; rfl)) (.cons (cvE rfl (by rw [q]; rfl)) (.cons (cvE rfl (by rw [q]; rfl)) .nil))) (fun w hS => sense_Sees_spec _ _ _ w)) ?_
      refine GL_step rfl (PS_or rfl rfl (fun h => by rw [h]; rfl)) ?_
      refine GL_nil ?_
      refine GQ_sub (.cons (k := 32) rfl (.nil _)) ?_
      refine GQ_then ?_
      refine G_cond rfl (fun c3 => ?_) (fun c3 => ?_)
      · skip
        have c3p := c3
        try simp only [decide_eq_true_eq, decide_eq_false_iff_not, Bool.not_eq_true', Bool.not_eq_false', Bool.or_eq_true, Bool.and_eq_true, Bool.or_eq_false_iff, Bool.and_eq_false_iff, Int.not_lt, Int.not_le] at c3p
        refine G_seq ?_
        refine G_region ?_
        refine GL_step rfl (PS_assign rfl) ?_
        refine GL_nil ?_
        refine GQ_sub (.cons (k := 6) rfl (.nil _)) ?_
        refine GQ_then ?_
        refine G_ret ?_
        refine GQ_then_ret ?_
        refine GQ_block_ret ?_
        refine GQ_then_ret ?_
        refine GQ_ret rfl (.tmp rfl .nil) ?_
        intro w1 hS; refine ⟨?_, hS.toKeep⟩; rw [show X.perceives b e = _ from ((if_f c1).trans ((if_t c2).trans (if_t c3)))]; rfl
      · skip
        have c3p := c3
        try simp only [decide_eq_true_eq, decide_eq_false_iff_not, Bool.not_eq_true', Bool.not_eq_false', Bool.or_eq_true, Bool.and_eq_true, Bool.or_eq_false_iff, Bool.and_eq_false_iff, Int.not_lt, Int.not_le] at c3p
        refine G_skip ?_
        refine GQ_sub (.nil _) ?_
        refine GQ_then ?_
        refine G_seq ?_
        refine G_region ?_
        refine GL_step rfl (PS_assign rfl) ?_
        refine GL_nil ?_
        refine GQ_then ?_
        refine G_ret ?_
        refine GQ_block_ret ?_
        refine GQ_then_ret ?_
        refine GQ_ret rfl (.tmp rfl .nil) ?_
        intro w1 hS; refine ⟨?_, hS.toKeep⟩; rw [show X.perceives b e = _ from ((if_f c1).trans ((if_t c2).trans (if_f c3)))]; rfl
    · skip
      have c2p := c2
      try simp only [decide_eq_true_eq, decide_eq_false_iff_not, Bool.not_eq_true', Bool.not_eq_false', Bool.or_eq_true, Bool.and_eq_true, Bool.or_eq_false_iff, Bool.and_eq_false_iff, Int.not_lt, Int.not_le] at c2p
      refine G_seq ?_
      refine G_planN (N := 14) [0, 1, 3, 7, 15, 15, 63, 127, 255, 15, 527, 2047, 4095, 8191] mix (by kernel_rfl) rfl ?_
      refine Plan_float 0 rfl rfl (by kernel_rfl) (OK_s (EX_s (PS_fieldAddr fa36_0 rfl))) ?_
      refine Plan_float 1 rfl rfl (by kernel_rfl) (OK_s (EX_s (PS_load rfl tys3 (.head _) Ing.Event.l0 rfl rfl))) ?_
      refine Plan_float 2 rfl rfl (by kernel_rfl) (OK_s (EX_s (PS_eql rfl rfl))) ?_
      refine Plan_float 3 rfl rfl (by kernel_rfl) (OK_s (EX_s (PS_move rfl))) ?_
      refine Plan_float 4 rfl rfl (by kernel_rfl) (OK_gf (t := 37) rfl rfl (fun q => EX_s (PS_move rfl))) ?_
      refine Plan_float 5 rfl rfl (by kernel_rfl) (OK_gf (t := 37) rfl rfl (fun q => EX_s (PS_fieldAddr fa34_2 rfl))) ?_
      refine Plan_float 6 rfl rfl (by kernel_rfl) (OK_gf (t := 37) rfl rfl (fun q => by have q1 := q; (try simp at q1); exact EX_s (PS_indexAddr ia32 (cvE rfl (by rw [q]; rfl)) (cvE rfl (by rw [q]; rfl)) (by omega) (by omega)))) ?_
      refine Plan_float 7 rfl rfl (by kernel_rfl) (OK_gf (t := 37) rfl rfl (fun q => EX_s (PS_fieldAddr fa31_3 (cvE rfl (by rw [q]; rfl))))) ?_
      refine Plan_float 8 rfl rfl (by kernel_rfl) (OK_gf (t := 37) rfl rfl (fun q => by have q1 := q; (try simp at q1); exact EX_s (PS_load (cvE rfl (by rw [q]; rfl)) tys3 (.tail _ (.head _)) ((Land.l2.comp (Lens.arr (n := 6) Being.fl (by omega) (by omega))).comp Being.l3) rfl rfl))) ?_
      refine Plan_float 9 rfl rfl (by kernel_rfl) (OK_gf (t := 37) rfl rfl (fun q => EX_s (PS_fieldAddr fa36_1 rfl))) ?_
      refine Plan_float 10 rfl rfl (by kernel_rfl) (OK_gf (t := 37) rfl rfl (fun q => EX_s (PS_load (cvE rfl (by rw [q]; rfl)) tys3 (.head _) Ing.Event.l1 rfl rfl))) ?_
      refine Plan_float 11 rfl rfl (by kernel_rfl) (OK_gf (t := 37) rfl rfl (fun q => EX_s (PS_neq (cvE rfl (by rw [q]; rfl)) (cvE rfl (by rw [q]; rfl))))) ?_
      refine Plan_float 12 rfl rfl (by kernel_rfl) (OK_s (EX_s (PS_or rfl rfl (fun h => by rw [h]; rfl)))) ?_
      refine Plan_float 13 rfl rfl (by kernel_rfl) (OK_s (EX_s (PS_assign rfl))) ?_
      refine Plan_end (by kernel_rfl) ?_
      refine GQ_sub (.cons (k := 1) rfl (.cons (k := 3) rfl (.cons (k := 5) rfl (.cons (k := 33) rfl (.nil _))))) ?_
      refine GQ_then ?_
      refine G_cond rfl (fun c4 => ?_) (fun c4 => ?_)
      · skip
        have c4p := c4
        try simp only [decide_eq_true_eq, decide_eq_false_iff_not, Bool.not_eq_true', Bool.not_eq_false', Bool.or_eq_true, Bool.and_eq_true, Bool.or_eq_false_iff, Bool.and_eq_false_iff, Int.not_lt, Int.not_le] at c4p
        refine G_seq ?_
        refine G_region ?_
        refine GL_step rfl (PS_assign rfl) ?_
        refine GL_nil ?_
        refine GQ_sub (.cons (k := 6) rfl (.nil _)) ?_
        refine GQ_then ?_
        refine G_ret ?_
        refine GQ_block_ret ?_
        refine GQ_then_ret ?_
        refine GQ_ret rfl (.tmp rfl .nil) ?_
        intro w1 hS; refine ⟨?_, hS.toKeep⟩; rw [show X.perceives b e = _ from ((if_f c1).trans ((if_f c2).trans (if_t c4)))]; rfl
      · skip
        have c4p := c4
        try simp only [decide_eq_true_eq, decide_eq_false_iff_not, Bool.not_eq_true', Bool.not_eq_false', Bool.or_eq_true, Bool.and_eq_true, Bool.or_eq_false_iff, Bool.and_eq_false_iff, Int.not_lt, Int.not_le] at c4p
        refine G_skip ?_
        refine GQ_sub (.cons (k := 1) rfl (.cons (k := 3) rfl (.cons (k := 5) rfl (.nil _)))) ?_
        refine GQ_block ?_
        refine GQ_then ?_
        refine G_seq ?_
        refine G_region ?_
        refine GL_step rfl (PS_assign rfl) ?_
        refine GL_nil ?_
        refine GQ_then ?_
        refine G_seq ?_
        refine G_seq ?_
        refine G_region ?_
        refine GL_step rfl (PS_loadA rfl tya34 (.tail _ (.head _)) (Lens.id Land.fl.len Land.fl.one) rfl) ?_
        refine GL_step rfl (PS_move rfl) ?_
        refine GL_step rfl (PS_fieldAddr fa36_2 rfl) ?_
        refine GL_step rfl (PS_load rfl tys3 (.head _) Ing.Event.l2 rfl rfl) ?_
        refine GL_pure rfl cf12 (.cons rfl (.cons rfl (.cons rfl .nil))) (fun w hS => sense_Sees_spec _ _ _ w) ?_
        refine GL_step rfl (PS_not rfl) ?_
        refine GL_nil ?_
        refine GQ_sub (.cons (k := 1) rfl (.cons (k := 3) rfl (.cons (k := 5) rfl (.cons (k := 7) rfl (.cons (k := 52) rfl (.nil _)))))) ?_
        refine GQ_then ?_
        refine G_cond rfl (fun c5 => ?_) (fun c5 => ?_)
        · skip
          have c5p := c5
          try simp only [decide_eq_true_eq, decide_eq_false_iff_not, Bool.not_eq_true', Bool.not_eq_false', Bool.or_eq_true, Bool.and_eq_true, Bool.or_eq_false_iff, Bool.and_eq_false_iff, Int.not_lt, Int.not_le] at c5p
          refine G_seq ?_
          refine G_seq ?_
          refine G_region ?_
          refine GL_step rfl (PS_fieldAddr fa36_0 rfl) ?_
          refine GL_step rfl (PS_load rfl tys3 (.head _) Ing.Event.l0 rfl rfl) ?_
          refine GL_pure rfl cf26 (.cons rfl .nil) (fun w hS => sense_loud_spec _ w) ?_
          refine GL_step rfl (PS_not rfl) ?_
          refine GL_nil ?_
          refine GQ_sub (.cons (k := 1) rfl (.cons (k := 3) rfl (.cons (k := 5) rfl (.cons (k := 7) rfl (.cons (k := 56) rfl (.nil _)))))) ?_
          refine GQ_then ?_
          refine G_cond rfl (fun c6 => ?_) (fun c6 => ?_)
          · skip
            have c6p := c6
            try simp only [decide_eq_true_eq, decide_eq_false_iff_not, Bool.not_eq_true', Bool.not_eq_false', Bool.or_eq_true, Bool.and_eq_true, Bool.or_eq_false_iff, Bool.and_eq_false_iff, Int.not_lt, Int.not_le] at c6p
            refine G_seq ?_
            refine G_region ?_
            refine GL_step rfl (PS_assign rfl) ?_
            refine GL_nil ?_
            refine GQ_sub (.cons (k := 6) rfl (.nil _)) ?_
            refine GQ_then ?_
            refine G_ret ?_
            refine GQ_then_ret ?_
            refine GQ_then_ret ?_
            refine GQ_ret rfl (.tmp rfl .nil) ?_
            intro w1 hS; refine ⟨?_, hS.toKeep⟩; rw [show X.perceives b e = _ from ((if_f c1).trans ((if_f c2).trans ((if_f c4).trans ((if_t c5).trans (if_t c6)))))]; rfl
          · skip
            have c6p := c6
            try simp only [decide_eq_true_eq, decide_eq_false_iff_not, Bool.not_eq_true', Bool.not_eq_false', Bool.or_eq_true, Bool.and_eq_true, Bool.or_eq_false_iff, Bool.and_eq_false_iff, Int.not_lt, Int.not_le] at c6p
            refine G_skip ?_
            refine GQ_sub (.cons (k := 1) rfl (.cons (k := 3) rfl (.cons (k := 5) rfl (.cons (k := 7) rfl (.nil _))))) ?_
            refine GQ_then ?_
            refine G_region ?_
            refine GL_step rfl (PS_move rfl) ?_
            refine GL_step rfl (PS_add rfl rfl (IntWalk.i64_in _ (by omega))) ?_
            refine GL_step rfl (PS_assign rfl) ?_
            refine GL_nil ?_
            refine GQ_sub (.cons (k := 1) rfl (.cons (k := 3) rfl (.cons (k := 5) rfl (.cons (k := 7) rfl (.nil _))))) ?_
            refine GQ_then ?_
            refine G_seq ?_
            refine G_seq ?_
            refine G_region ?_
            refine GL_step rfl (PS_fieldAddr fa36_3 rfl) ?_
            refine GL_step rfl (PS_load rfl tys3 (.head _) Ing.Event.l3 rfl rfl) ?_
            refine GL_step rfl (PS_geq rfl rfl) ?_
            refine GL_step rfl (PS_move rfl) ?_
            refine GL_gt (t := 62) rfl rfl rfl (fun q => PS_fieldAddr fa36_3 rfl) ?_
            refine GL_gt (t := 62) rfl rfl rfl (fun q => PS_load (cvE rfl q) tys3 (.head _) Ing.Event.l3 rfl rfl) ?_
            refine GL_gt (t := 62) rfl rfl rfl (fun q => PS_lss (cvE rfl q) rfl) ?_
            refine GL_step rfl (PS_and rfl rfl (fun h => h)) ?_
            refine GL_step rfl (PS_move rfl) ?_
            refine GL_gt (t := 67) rfl rfl rfl (fun q => PS_loadA rfl tya34 (.tail _ (.head _)) (Lens.id Land.fl.len Land.fl.one) rfl) ?_
            refine GL_gt (t := 67) rfl rfl rfl (fun q => PS_move rfl) ?_
            refine GL_gt (t := 67) rfl rfl rfl (fun q => PS_fieldAddr fa36_3 rfl) ?_
            refine GL_gt (t := 67) rfl rfl rfl (fun q => PS_load (cvE rfl q) tys3 (.head _) Ing.Event.l3 rfl rfl) ?_
            refine GL_pgt (t := 67) rfl rfl rfl (fun q => PC_of cf12 (.cons (cvE rfl q) (.cons (cvE rfl q) (.cons (cvE rfl q) .nil))) (fun w hS => sense_Sees_spec _ _ _ w)) ?_
            refine GL_gt (t := 67) rfl rfl rfl (fun q => PS_not (cvE rfl q)) ?_
            refine GL_step rfl (PS_and rfl rfl (fun h => h)) ?_
            refine GL_nil ?_
            refine GQ_sub (.cons (k := 7) rfl (.cons (k := 74) rfl (.nil _))) ?_
            refine GQ_then ?_
            refine G_cond rfl (fun c7 => ?_) (fun c7 => ?_)
            · skip
              have c7p := c7
              try simp only [decide_eq_true_eq, decide_eq_false_iff_not, Bool.not_eq_true', Bool.not_eq_false', Bool.or_eq_true, Bool.and_eq_true, Bool.or_eq_false_iff, Bool.and_eq_false_iff, Int.not_lt, Int.not_le] at c7p
              refine G_region ?_
              refine GL_step rfl (PS_move rfl) ?_
              refine GL_step rfl (PS_add rfl rfl (IntWalk.i64_in _ (by omega))) ?_
              refine GL_step rfl (PS_assign rfl) ?_
              refine GL_nil ?_
              refine GQ_sub (.cons (k := 7) rfl (.nil _)) ?_
              refine GQ_then ?_
              refine G_seq ?_
              refine G_region ?_
              refine GL_step rfl (PS_move rfl) ?_
              refine GL_step rfl (PS_assign rfl) ?_
              refine GL_nil ?_
              refine GQ_sub (.cons (k := 6) rfl (.nil _)) ?_
              refine GQ_then ?_
              refine G_ret ?_
              refine GQ_ret rfl (.tmp rfl .nil) ?_
              intro w1 hS; refine ⟨?_, hS.toKeep⟩; rw [show X.perceives b e = _ from ((if_f c1).trans ((if_f c2).trans ((if_f c4).trans ((if_t c5).trans ((if_f c6).trans (if_t c7))))))]; rfl
            · skip
              have c7p := c7
              try simp only [decide_eq_true_eq, decide_eq_false_iff_not, Bool.not_eq_true', Bool.not_eq_false', Bool.or_eq_true, Bool.and_eq_true, Bool.or_eq_false_iff, Bool.and_eq_false_iff, Int.not_lt, Int.not_le] at c7p
              refine G_skip ?_
              refine GQ_sub (.cons (k := 7) rfl (.nil _)) ?_
              refine GQ_then ?_
              refine G_seq ?_
              refine G_region ?_
              refine GL_step rfl (PS_move rfl) ?_
              refine GL_step rfl (PS_assign rfl) ?_
              refine GL_nil ?_
              refine GQ_sub (.cons (k := 6) rfl (.nil _)) ?_
              refine GQ_then ?_
              refine G_ret ?_
              refine GQ_ret rfl (.tmp rfl .nil) ?_
              intro w1 hS; refine ⟨?_, hS.toKeep⟩; rw [show X.perceives b e = _ from ((if_f c1).trans ((if_f c2).trans ((if_f c4).trans ((if_t c5).trans ((if_f c6).trans (if_f c7))))))]; rfl
        · skip
          have c5p := c5
          try simp only [decide_eq_true_eq, decide_eq_false_iff_not, Bool.not_eq_true', Bool.not_eq_false', Bool.or_eq_true, Bool.and_eq_true, Bool.or_eq_false_iff, Bool.and_eq_false_iff, Int.not_lt, Int.not_le] at c5p
          refine G_skip ?_
          refine GQ_sub (.cons (k := 1) rfl (.cons (k := 3) rfl (.cons (k := 5) rfl (.cons (k := 7) rfl (.nil _))))) ?_
          refine GQ_then ?_
          refine G_seq ?_
          refine G_seq ?_
          refine G_region ?_
          refine GL_step rfl (PS_fieldAddr fa36_3 rfl) ?_
          refine GL_step rfl (PS_load rfl tys3 (.head _) Ing.Event.l3 rfl rfl) ?_
          refine GL_step rfl (PS_geq rfl rfl) ?_
          refine GL_step rfl (PS_move rfl) ?_
          refine GL_gt (t := 62) rfl rfl rfl (fun q => PS_fieldAddr fa36_3 rfl) ?_
          refine GL_gt (t := 62) rfl rfl rfl (fun q => PS_load (cvE rfl q) tys3 (.head _) Ing.Event.l3 rfl rfl) ?_
          refine GL_gt (t := 62) rfl rfl rfl (fun q => PS_lss (cvE rfl q) rfl) ?_
          refine GL_step rfl (PS_and rfl rfl (fun h => h)) ?_
          refine GL_step rfl (PS_move rfl) ?_
          refine GL_gt (t := 67) rfl rfl rfl (fun q => PS_loadA rfl tya34 (.tail _ (.head _)) (Lens.id Land.fl.len Land.fl.one) rfl) ?_
          refine GL_gt (t := 67) rfl rfl rfl (fun q => PS_move rfl) ?_
          refine GL_gt (t := 67) rfl rfl rfl (fun q => PS_fieldAddr fa36_3 rfl) ?_
          refine GL_gt (t := 67) rfl rfl rfl (fun q => PS_load (cvE rfl q) tys3 (.head _) Ing.Event.l3 rfl rfl) ?_
          refine GL_pgt (t := 67) rfl rfl rfl (fun q => PC_of cf12 (.cons (cvE rfl q) (.cons (cvE rfl q) (.cons (cvE rfl q) .nil))) (fun w hS => sense_Sees_spec _ _ _ w)) ?_
          refine GL_gt (t := 67) rfl rfl rfl (fun q => PS_not (cvE rfl q)) ?_
          refine GL_step rfl (PS_and rfl rfl (fun h => h)) ?_
          refine GL_nil ?_
          refine GQ_sub (.cons (k := 7) rfl (.cons (k := 74) rfl (.nil _))) ?_
          refine GQ_then ?_
          refine G_cond rfl (fun c8 => ?_) (fun c8 => ?_)
          · skip
            have c8p := c8
            try simp only [decide_eq_true_eq, decide_eq_false_iff_not, Bool.not_eq_true', Bool.not_eq_false', Bool.or_eq_true, Bool.and_eq_true, Bool.or_eq_false_iff, Bool.and_eq_false_iff, Int.not_lt, Int.not_le] at c8p
            refine G_region ?_
            refine GL_step rfl (PS_move rfl) ?_
            refine GL_step rfl (PS_add rfl rfl (IntWalk.i64_in _ (by omega))) ?_
            refine GL_step rfl (PS_assign rfl) ?_
            refine GL_nil ?_
            refine GQ_sub (.cons (k := 7) rfl (.nil _)) ?_
            refine GQ_then ?_
            refine G_seq ?_
            refine G_region ?_
            refine GL_step rfl (PS_move rfl) ?_
            refine GL_step rfl (PS_assign rfl) ?_
            refine GL_nil ?_
            refine GQ_sub (.cons (k := 6) rfl (.nil _)) ?_
            refine GQ_then ?_
            refine G_ret ?_
            refine GQ_ret rfl (.tmp rfl .nil) ?_
            intro w1 hS; refine ⟨?_, hS.toKeep⟩; rw [show X.perceives b e = _ from ((if_f c1).trans ((if_f c2).trans ((if_f c4).trans ((if_f c5).trans (if_t c8)))))]; rfl
          · skip
            have c8p := c8
            try simp only [decide_eq_true_eq, decide_eq_false_iff_not, Bool.not_eq_true', Bool.not_eq_false', Bool.or_eq_true, Bool.and_eq_true, Bool.or_eq_false_iff, Bool.and_eq_false_iff, Int.not_lt, Int.not_le] at c8p
            refine G_skip ?_
            refine GQ_sub (.cons (k := 7) rfl (.nil _)) ?_
            refine GQ_then ?_
            refine G_seq ?_
            refine G_region ?_
            refine GL_step rfl (PS_move rfl) ?_
            refine GL_step rfl (PS_assign rfl) ?_
            refine GL_nil ?_
            refine GQ_sub (.cons (k := 6) rfl (.nil _)) ?_
            refine GQ_then ?_
            refine G_ret ?_
            refine GQ_ret rfl (.tmp rfl .nil) ?_
            intro w1 hS; refine ⟨?_, hS.toKeep⟩; rw [show X.perceives b e = _ from ((if_f c1).trans ((if_f c2).trans ((if_f c4).trans ((if_f c5).trans (if_f c8)))))]; rfl
theorem ref_Perceived_spec (X : Land) (b : Int) (e : Ing.Event) (w : World) : Ret Tryd.prog 15 #[.agg X.enc.toArray, .int .i64 b, .agg e.enc.toArray] w fun v w' => v = .int .i64 (X.perceives b e) ∧ Keep w w' := by
  refine Ret_body [] [] Tryd.func15 rfl rfl rfl (St.start w []) ?_
  refine G_seq ?_
  refine G_region ?_
  refine GL_box rfl rfl rfl (fun b1 => ?_)
  refine GL_box rfl rfl rfl (fun b2 => ?_)
  refine GL_step rfl (PS_assign rfl) ?_
  refine GL_nil ?_
  refine GQ_sub (.cons (k := 1) rfl (.cons (k := 3) rfl (.cons (k := 5) rfl (.nil _)))) ?_
  refine GQ_then ?_
  refine G_seq ?_
  refine G_seq ?_
  refine G_region ?_
  refine GL_step rfl (PS_loadA rfl tya34 (.tail _ (.head _)) (Lens.id Land.fl.len Land.fl.one) rfl) ?_
  refine GL_step rfl (PS_move rfl) ?_
  refine GL_pure rfl cf25 (.cons rfl (.cons rfl .nil)) (fun w hS => ref_about_spec _ _ w) ?_
  refine GL_step rfl (PS_not rfl) ?_
  refine GL_nil ?_
  refine GQ_sub (.cons (k := 1) rfl (.cons (k := 3) rfl (.cons (k := 5) rfl (.cons (k := 12) rfl (.nil _))))) ?_
  refine GQ_then ?_
  refine G_cond rfl (fun c1 => ?_) (fun c1 => ?_)
  · skip
    have c1p := c1
    try simp only [decide_eq_true_eq, decide_eq_false_iff_not, Bool.not_eq_true', Bool.not_eq_false', Bool.or_eq_true, Bool.and_eq_true, Bool.or_eq_false_iff, Bool.and_eq_false_iff, Int.not_lt, Int.not_le] at c1p
    refine G_seq ?_
    refine G_region ?_
    refine GL_step rfl (PS_assign rfl) ?_
    refine GL_nil ?_
    refine GQ_sub (.cons (k := 6) rfl (.nil _)) ?_
    refine GQ_then ?_
    refine G_ret ?_
    refine GQ_then_ret ?_
    refine GQ_ret rfl (.tmp rfl .nil) ?_
    intro w1 hS; refine ⟨?_, hS.toKeep⟩; rw [← Land.perceivesR_eq, show X.perceivesR b e = _ from (if_t c1)]; rfl
  · skip
    have c1p := c1
    try simp only [decide_eq_true_eq, decide_eq_false_iff_not, Bool.not_eq_true', Bool.not_eq_false', Bool.or_eq_true, Bool.and_eq_true, Bool.or_eq_false_iff, Bool.and_eq_false_iff, Int.not_lt, Int.not_le] at c1p
    have hr : 0 ≤ b ∧ b < 6 := by simp at c1; have h1 := Land.being_rng c1; omega
    refine G_skip ?_
    refine GQ_sub (.cons (k := 1) rfl (.cons (k := 3) rfl (.cons (k := 5) rfl (.nil _)))) ?_
    refine GQ_then ?_
    refine G_seq ?_
    refine G_region ?_
    refine GL_step rfl (PS_move rfl) ?_
    refine GL_step rfl (PS_fieldAddr fa36_2 rfl) ?_
    refine GL_step rfl (PS_load rfl tys3 (.head _) Ing.Event.l2 rfl rfl) ?_
    refine GL_step rfl (PS_eql rfl rfl) ?_
    refine GL_step rfl (PS_assign rfl) ?_
    refine GL_nil ?_
    refine GQ_sub (.cons (k := 1) rfl (.cons (k := 3) rfl (.cons (k := 5) rfl (.cons (k := 7) rfl (.nil _))))) ?_
    refine GQ_then ?_
    refine G_seq ?_
    refine G_seq ?_
    refine G_planN (N := 17) [0, 1, 3, 7, 15, 31, 63, 127, 127, 511, 1023, 2047, 127, 4223, 16383, 32767, 65535] mix (by kernel_rfl) rfl ?_
    refine Plan_float 0 rfl rfl (by kernel_rfl) (OK_s (EX_s (PS_move rfl))) ?_
    refine Plan_float 1 rfl rfl (by kernel_rfl) (OK_s (EX_s (PS_not rfl))) ?_
    refine Plan_float 2 rfl rfl (by kernel_rfl) (OK_s (EX_s (PS_move rfl))) ?_
    refine Plan_float 3 rfl rfl (by kernel_rfl) (OK_gt (t := 19) rfl rfl (fun q => EX_s (PS_fieldAddr fa36_0 rfl))) ?_
    refine Plan_float 4 rfl rfl (by kernel_rfl) (OK_gt (t := 19) rfl rfl (fun q => EX_s (PS_load (cvE rfl q) tys3 (.head _) Ing.Event.l0 rfl rfl))) ?_
    refine Plan_float 5 rfl rfl (by kernel_rfl) (OK_gt (t := 19) rfl rfl (fun q => EX_s (PS_eql (cvE rfl q) rfl))) ?_
    refine Plan_float 6 rfl rfl (by kernel_rfl) (OK_gt (t := 19) rfl rfl (fun q => EX_s (PS_move (cvE rfl q)))) ?_
    refine Plan_float 7 rfl rfl (by kernel_rfl) (OK_gfc (t := 23) rfl rfl (fun qc q => EX_s (PS_move rfl))) ?_
    refine Plan_float 8 rfl rfl (by kernel_rfl) (OK_gfc (t := 23) rfl rfl (fun qc q => EX_s (PS_fieldAddr fa34_2 rfl))) ?_
    refine Plan_float 9 rfl rfl (by kernel_rfl) (OK_gfc (t := 23) rfl rfl (fun qc q => by have q1 := q; have qc1 := qc; (try simp at q1 qc1); exact EX_s (PS_indexAddr ia32 (cvE rfl (by rw [qc, q]; rfl)) (cvE rfl (by rw [qc, q]; rfl)) (by omega) (by omega)))) ?_
    refine Plan_float 10 rfl rfl (by kernel_rfl) (OK_gfc (t := 23) rfl rfl (fun qc q => EX_s (PS_fieldAddr fa31_3 (cvE rfl (by rw [qc, q]; rfl))))) ?_
    refine Plan_float 11 rfl rfl (by kernel_rfl) (OK_gfc (t := 23) rfl rfl (fun qc q => by have q1 := q; have qc1 := qc; (try simp at q1 qc1); exact EX_s (PS_load (cvE rfl (by rw [qc, q]; rfl)) tys3 (.tail _ (.head _)) ((Land.l2.comp (Lens.arr (n := 6) Being.fl (by omega) (by omega))).comp Being.l3) rfl rfl))) ?_
    refine Plan_float 12 rfl rfl (by kernel_rfl) (OK_gfc (t := 23) rfl rfl (fun qc q => EX_s (PS_fieldAddr fa36_1 rfl))) ?_
    refine Plan_float 13 rfl rfl (by kernel_rfl) (OK_gfc (t := 23) rfl rfl (fun qc q => EX_s (PS_load (cvE rfl (by rw [qc, q]; rfl)) tys3 (.head _) Ing.Event.l1 rfl rfl))) ?_
    refine Plan_float 14 rfl rfl (by kernel_rfl) (OK_gfc (t := 23) rfl rfl (fun qc q => EX_s (PS_neq (cvE rfl (by rw [qc, q]; rfl)) (cvE rfl (by rw [qc, q]; rfl))))) ?_
    refine Plan_float 15 rfl rfl (by kernel_rfl) (OK_gt (t := 19) rfl rfl (fun q => EX_s (PS_or (cvE rfl q) rfl (fun h => by rw [q, h]; rfl)))) ?_
    refine Plan_float 16 rfl rfl (by kernel_rfl) (OK_s (EX_s (PS_and rfl rfl (fun h => h)))) ?_
    refine Plan_end (by kernel_rfl) ?_
    refine GQ_sub (.cons (k := 1) rfl (.cons (k := 3) rfl (.cons (k := 5) rfl (.cons (k := 7) rfl (.cons (k := 33) rfl (.nil _)))))) ?_
    refine GQ_then ?_
    refine G_cond rfl (fun c2 => ?_) (fun c2 => ?_)
    · skip
      have c2p := c2
      try simp only [decide_eq_true_eq, decide_eq_false_iff_not, Bool.not_eq_true', Bool.not_eq_false', Bool.or_eq_true, Bool.and_eq_true, Bool.or_eq_false_iff, Bool.and_eq_false_iff, Int.not_lt, Int.not_le] at c2p
      refine G_seq ?_
      refine G_region ?_
      refine GL_step rfl (PS_assign rfl) ?_
      refine GL_nil ?_
      refine GQ_sub (.cons (k := 6) rfl (.nil _)) ?_
      refine GQ_then ?_
      refine G_ret ?_
      refine GQ_then_ret ?_
      refine GQ_ret rfl (.tmp rfl .nil) ?_
      intro w1 hS; refine ⟨?_, hS.toKeep⟩; rw [← Land.perceivesR_eq, show X.perceivesR b e = _ from ((if_f c1).trans (if_t c2))]; rfl
    · skip
      have c2p := c2
      try simp only [decide_eq_true_eq, decide_eq_false_iff_not, Bool.not_eq_true', Bool.not_eq_false', Bool.or_eq_true, Bool.and_eq_true, Bool.or_eq_false_iff, Bool.and_eq_false_iff, Int.not_lt, Int.not_le] at c2p
      refine G_skip ?_
      refine GQ_sub (.cons (k := 1) rfl (.cons (k := 3) rfl (.cons (k := 5) rfl (.cons (k := 7) rfl (.nil _))))) ?_
      refine GQ_then ?_
      refine G_seq ?_
      refine G_region ?_
      refine GL_step rfl (PS_assign rfl) ?_
      refine GL_nil ?_
      refine GQ_then ?_
      refine G_seq ?_
      refine G_seq ?_
      refine G_region ?_
      refine GL_step rfl (PS_move rfl) ?_
      refine GL_step rfl (PS_not rfl) ?_
      refine GL_step rfl (PS_move rfl) ?_
      refine GL_gt (t := 36) rfl rfl rfl (fun q => PS_loadA rfl tya34 (.tail _ (.head _)) (Lens.id Land.fl.len Land.fl.one) rfl) ?_
      refine GL_gt (t := 36) rfl rfl rfl (fun q => PS_move rfl) ?_
      refine GL_gt (t := 36) rfl rfl rfl (fun q => PS_fieldAddr fa36_2 rfl) ?_
      refine GL_gt (t := 36) rfl rfl rfl (fun q => PS_load (cvE rfl q) tys3 (.head _) Ing.Event.l2 rfl rfl) ?_
      refine GL_pgt (t := 36) rfl rfl rfl (fun q => PC_of cf13 (.cons (cvE rfl q) (.cons (cvE rfl q) (.cons (cvE rfl q) .nil))) (fun w hS => ref_IsSeen_spec _ _ _ w)) ?_
      refine GL_gt (t := 36) rfl rfl rfl (fun q => PS_not (cvE rfl q)) ?_
      refine GL_step rfl (PS_and rfl rfl (fun h => h)) ?_
      refine GL_nil ?_
      refine GQ_sub (.cons (k := 1) rfl (.cons (k := 3) rfl (.cons (k := 5) rfl (.cons (k := 8) rfl (.cons (k := 43) rfl (.nil _)))))) ?_
      refine GQ_then ?_
      refine G_cond rfl (fun c3 => ?_) (fun c3 => ?_)
      · skip
        have c3p := c3
        try simp only [decide_eq_true_eq, decide_eq_false_iff_not, Bool.not_eq_true', Bool.not_eq_false', Bool.or_eq_true, Bool.and_eq_true, Bool.or_eq_false_iff, Bool.and_eq_false_iff, Int.not_lt, Int.not_le] at c3p
        refine G_seq ?_
        refine G_seq ?_
        refine G_region ?_
        refine GL_step rfl (PS_fieldAddr fa36_0 rfl) ?_
        refine GL_step rfl (PS_load rfl tys3 (.head _) Ing.Event.l0 rfl rfl) ?_
        refine GL_step rfl (PS_neq rfl rfl) ?_
        refine GL_step rfl (PS_move rfl) ?_
        refine GL_gt (t := 47) rfl rfl rfl (fun q => PS_fieldAddr fa36_0 rfl) ?_
        refine GL_gt (t := 47) rfl rfl rfl (fun q => PS_load (cvE rfl q) tys3 (.head _) Ing.Event.l0 rfl rfl) ?_
        refine GL_gt (t := 47) rfl rfl rfl (fun q => PS_neq (cvE rfl q) rfl) ?_
        refine GL_step rfl (PS_and rfl rfl (fun h => h)) ?_
        refine GL_step rfl (PS_move rfl) ?_
        refine GL_gt (t := 52) rfl rfl rfl (fun q => PS_fieldAddr fa36_0 rfl) ?_
        refine GL_gt (t := 52) rfl rfl rfl (fun q => PS_load (cvE rfl q) tys3 (.head _) Ing.Event.l0 rfl rfl) ?_
        refine GL_gt (t := 52) rfl rfl rfl (fun q => PS_neq (cvE rfl q) rfl) ?_
        refine GL_step rfl (PS_and rfl rfl (fun h => h)) ?_
        refine GL_nil ?_
        refine GQ_sub (.cons (k := 1) rfl (.cons (k := 3) rfl (.cons (k := 5) rfl (.cons (k := 56) rfl (.nil _))))) ?_
        refine GQ_then ?_
        refine G_cond rfl (fun c4 => ?_) (fun c4 => ?_)
        · skip
          have c4p := c4
          try simp only [decide_eq_true_eq, decide_eq_false_iff_not, Bool.not_eq_true', Bool.not_eq_false', Bool.or_eq_true, Bool.and_eq_true, Bool.or_eq_false_iff, Bool.and_eq_false_iff, Int.not_lt, Int.not_le] at c4p
          refine G_seq ?_
          refine G_region ?_
          refine GL_step rfl (PS_assign rfl) ?_
          refine GL_nil ?_
          refine GQ_sub (.cons (k := 6) rfl (.nil _)) ?_
          refine GQ_then ?_
          refine G_ret ?_
          refine GQ_then_ret ?_
          refine GQ_then_ret ?_
          refine GQ_ret rfl (.tmp rfl .nil) ?_
          intro w1 hS; refine ⟨?_, hS.toKeep⟩; rw [← Land.perceivesR_eq, show X.perceivesR b e = _ from ((if_f c1).trans ((if_f c2).trans ((if_t c3).trans (if_t c4))))]; rfl
        · skip
          have c4p := c4
          try simp only [decide_eq_true_eq, decide_eq_false_iff_not, Bool.not_eq_true', Bool.not_eq_false', Bool.or_eq_true, Bool.and_eq_true, Bool.or_eq_false_iff, Bool.and_eq_false_iff, Int.not_lt, Int.not_le] at c4p
          refine G_skip ?_
          refine GQ_sub (.cons (k := 1) rfl (.cons (k := 3) rfl (.cons (k := 5) rfl (.nil _)))) ?_
          refine GQ_then ?_
          refine G_region ?_
          refine GL_step rfl (PS_assign rfl) ?_
          refine GL_nil ?_
          refine GQ_then ?_
          refine G_seq ?_
          refine G_seq ?_
          refine G_region ?_
          refine GL_step rfl (PS_fieldAddr fa36_3 rfl) ?_
          refine GL_step rfl (PS_load rfl tys3 (.head _) Ing.Event.l3 rfl rfl) ?_
          refine GL_step rfl (PS_geq rfl rfl) ?_
          refine GL_step rfl (PS_move rfl) ?_
          refine GL_gt (t := 60) rfl rfl rfl (fun q => PS_fieldAddr fa36_3 rfl) ?_
          refine GL_gt (t := 60) rfl rfl rfl (fun q => PS_load (cvE rfl q) tys3 (.head _) Ing.Event.l3 rfl rfl) ?_
          refine GL_gt (t := 60) rfl rfl rfl (fun q => PS_lss (cvE rfl q) rfl) ?_
          refine GL_step rfl (PS_and rfl rfl (fun h => h)) ?_
          refine GL_step rfl (PS_move rfl) ?_
          refine GL_gt (t := 65) rfl rfl rfl (fun q => PS_loadA rfl tya34 (.tail _ (.head _)) (Lens.id Land.fl.len Land.fl.one) rfl) ?_
          refine GL_gt (t := 65) rfl rfl rfl (fun q => PS_move rfl) ?_
          refine GL_gt (t := 65) rfl rfl rfl (fun q => PS_fieldAddr fa36_3 rfl) ?_
          refine GL_gt (t := 65) rfl rfl rfl (fun q => PS_load (cvE rfl q) tys3 (.head _) Ing.Event.l3 rfl rfl) ?_
          refine GL_pgt (t := 65) rfl rfl rfl (fun q => PC_of cf13 (.cons (cvE rfl q) (.cons (cvE rfl q) (.cons (cvE rfl q) .nil))) (fun w hS => ref_IsSeen_spec _ _ _ w)) ?_
          refine GL_gt (t := 65) rfl rfl rfl (fun q => PS_not (cvE rfl q)) ?_
          refine GL_step rfl (PS_and rfl rfl (fun h => h)) ?_
          refine GL_nil ?_
          refine GQ_sub (.cons (k := 8) rfl (.cons (k := 72) rfl (.nil _))) ?_
          refine GQ_then ?_
          refine G_cond rfl (fun c5 => ?_) (fun c5 => ?_)
          · skip
            have c5p := c5
            try simp only [decide_eq_true_eq, decide_eq_false_iff_not, Bool.not_eq_true', Bool.not_eq_false', Bool.or_eq_true, Bool.and_eq_true, Bool.or_eq_false_iff, Bool.and_eq_false_iff, Int.not_lt, Int.not_le] at c5p
            refine G_region ?_
            refine GL_step rfl (PS_move rfl) ?_
            refine GL_step rfl (PS_add rfl rfl (IntWalk.i64_in _ (by omega))) ?_
            refine GL_step rfl (PS_assign rfl) ?_
            refine GL_nil ?_
            refine GQ_sub (.cons (k := 8) rfl (.nil _)) ?_
            refine GQ_then ?_
            refine G_seq ?_
            refine G_region ?_
            refine GL_step rfl (PS_move rfl) ?_
            refine GL_step rfl (PS_assign rfl) ?_
            refine GL_nil ?_
            refine GQ_sub (.cons (k := 6) rfl (.nil _)) ?_
            refine GQ_then ?_
            refine G_ret ?_
            refine GQ_ret rfl (.tmp rfl .nil) ?_
            intro w1 hS; refine ⟨?_, hS.toKeep⟩; rw [← Land.perceivesR_eq, show X.perceivesR b e = _ from ((if_f c1).trans ((if_f c2).trans ((if_t c3).trans ((if_f c4).trans (if_t c5)))))]; rfl
          · skip
            have c5p := c5
            try simp only [decide_eq_true_eq, decide_eq_false_iff_not, Bool.not_eq_true', Bool.not_eq_false', Bool.or_eq_true, Bool.and_eq_true, Bool.or_eq_false_iff, Bool.and_eq_false_iff, Int.not_lt, Int.not_le] at c5p
            refine G_skip ?_
            refine GQ_sub (.cons (k := 8) rfl (.nil _)) ?_
            refine GQ_then ?_
            refine G_seq ?_
            refine G_region ?_
            refine GL_step rfl (PS_move rfl) ?_
            refine GL_step rfl (PS_assign rfl) ?_
            refine GL_nil ?_
            refine GQ_sub (.cons (k := 6) rfl (.nil _)) ?_
            refine GQ_then ?_
            refine G_ret ?_
            refine GQ_ret rfl (.tmp rfl .nil) ?_
            intro w1 hS; refine ⟨?_, hS.toKeep⟩; rw [← Land.perceivesR_eq, show X.perceivesR b e = _ from ((if_f c1).trans ((if_f c2).trans ((if_t c3).trans ((if_f c4).trans (if_f c5)))))]; rfl
      · skip
        have c3p := c3
        try simp only [decide_eq_true_eq, decide_eq_false_iff_not, Bool.not_eq_true', Bool.not_eq_false', Bool.or_eq_true, Bool.and_eq_true, Bool.or_eq_false_iff, Bool.and_eq_false_iff, Int.not_lt, Int.not_le] at c3p
        refine G_skip ?_
        refine GQ_sub (.cons (k := 1) rfl (.cons (k := 3) rfl (.cons (k := 5) rfl (.cons (k := 8) rfl (.nil _))))) ?_
        refine GQ_then ?_
        refine G_seq ?_
        refine G_seq ?_
        refine G_region ?_
        refine GL_step rfl (PS_fieldAddr fa36_3 rfl) ?_
        refine GL_step rfl (PS_load rfl tys3 (.head _) Ing.Event.l3 rfl rfl) ?_
        refine GL_step rfl (PS_geq rfl rfl) ?_
        refine GL_step rfl (PS_move rfl) ?_
        refine GL_gt (t := 60) rfl rfl rfl (fun q => PS_fieldAddr fa36_3 rfl) ?_
        refine GL_gt (t := 60) rfl rfl rfl (fun q => PS_load (cvE rfl q) tys3 (.head _) Ing.Event.l3 rfl rfl) ?_
        refine GL_gt (t := 60) rfl rfl rfl (fun q => PS_lss (cvE rfl q) rfl) ?_
        refine GL_step rfl (PS_and rfl rfl (fun h => h)) ?_
        refine GL_step rfl (PS_move rfl) ?_
        refine GL_gt (t := 65) rfl rfl rfl (fun q => PS_loadA rfl tya34 (.tail _ (.head _)) (Lens.id Land.fl.len Land.fl.one) rfl) ?_
        refine GL_gt (t := 65) rfl rfl rfl (fun q => PS_move rfl) ?_
        refine GL_gt (t := 65) rfl rfl rfl (fun q => PS_fieldAddr fa36_3 rfl) ?_
        refine GL_gt (t := 65) rfl rfl rfl (fun q => PS_load (cvE rfl q) tys3 (.head _) Ing.Event.l3 rfl rfl) ?_
        refine GL_pgt (t := 65) rfl rfl rfl (fun q => PC_of cf13 (.cons (cvE rfl q) (.cons (cvE rfl q) (.cons (cvE rfl q) .nil))) (fun w hS => ref_IsSeen_spec _ _ _ w)) ?_
        refine GL_gt (t := 65) rfl rfl rfl (fun q => PS_not (cvE rfl q)) ?_
        refine GL_step rfl (PS_and rfl rfl (fun h => h)) ?_
        refine GL_nil ?_
        refine GQ_sub (.cons (k := 8) rfl (.cons (k := 72) rfl (.nil _))) ?_
        refine GQ_then ?_
        refine G_cond rfl (fun c6 => ?_) (fun c6 => ?_)
        · skip
          have c6p := c6
          try simp only [decide_eq_true_eq, decide_eq_false_iff_not, Bool.not_eq_true', Bool.not_eq_false', Bool.or_eq_true, Bool.and_eq_true, Bool.or_eq_false_iff, Bool.and_eq_false_iff, Int.not_lt, Int.not_le] at c6p
          refine G_region ?_
          refine GL_step rfl (PS_move rfl) ?_
          refine GL_step rfl (PS_add rfl rfl (IntWalk.i64_in _ (by omega))) ?_
          refine GL_step rfl (PS_assign rfl) ?_
          refine GL_nil ?_
          refine GQ_sub (.cons (k := 8) rfl (.nil _)) ?_
          refine GQ_then ?_
          refine G_seq ?_
          refine G_region ?_
          refine GL_step rfl (PS_move rfl) ?_
          refine GL_step rfl (PS_assign rfl) ?_
          refine GL_nil ?_
          refine GQ_sub (.cons (k := 6) rfl (.nil _)) ?_
          refine GQ_then ?_
          refine G_ret ?_
          refine GQ_ret rfl (.tmp rfl .nil) ?_
          intro w1 hS; refine ⟨?_, hS.toKeep⟩; rw [← Land.perceivesR_eq, show X.perceivesR b e = _ from ((if_f c1).trans ((if_f c2).trans ((if_f c3).trans (if_t c6))))]; rfl
        · skip
          have c6p := c6
          try simp only [decide_eq_true_eq, decide_eq_false_iff_not, Bool.not_eq_true', Bool.not_eq_false', Bool.or_eq_true, Bool.and_eq_true, Bool.or_eq_false_iff, Bool.and_eq_false_iff, Int.not_lt, Int.not_le] at c6p
          refine G_skip ?_
          refine GQ_sub (.cons (k := 8) rfl (.nil _)) ?_
          refine GQ_then ?_
          refine G_seq ?_
          refine G_region ?_
          refine GL_step rfl (PS_move rfl) ?_
          refine GL_step rfl (PS_assign rfl) ?_
          refine GL_nil ?_
          refine GQ_sub (.cons (k := 6) rfl (.nil _)) ?_
          refine GQ_then ?_
          refine G_ret ?_
          refine GQ_ret rfl (.tmp rfl .nil) ?_
          intro w1 hS; refine ⟨?_, hS.toKeep⟩; rw [← Land.perceivesR_eq, show X.perceivesR b e = _ from ((if_f c1).trans ((if_f c2).trans ((if_f c3).trans (if_f c6))))]; rfl
theorem sense_All_spec (X : Land) (e : Ing.Event) (w : World) : Ret Tryd.prog 16 #[.agg X.enc.toArray, .agg e.enc.toArray] w fun v w' => v = .agg (X.allN e 6).enc.toArray ∧ Keep w w' := by
  refine Ret_body [] [] Tryd.func16 rfl rfl rfl (St.start w []) ?_
  refine G_seq ?_
  refine G_region ?_
  refine GL_box rfl rfl rfl (fun b1 => ?_)
  refine GL_box rfl rfl rfl (fun b2 => ?_)
  refine GL_alloc rfl zv36 rfl (fun b3 => ?_)
  refine GL_nil ?_
  refine GQ_sub (.cons (k := 2) rfl (.cons (k := 3) rfl (.cons (k := 4) rfl (.nil _)))) ?_
  refine GQ_then ?_
  refine G_seq ?_
  refine G_seq ?_
  refine G_region ?_
  refine GL_step rfl (PS_move rfl) ?_
  refine GL_nil ?_
  refine GQ_then ?_
  refine G_block ?_
  refine G_subF (.cons (k := 6) rfl (.cons (k := 2) rfl (.cons (k := 3) rfl (.cons (k := 4) rfl (.nil _))))) ?_
  refine G_pull (.tail .head) ?_
  refine G_loop1_ (fun (k : Int) => 0 ≤ k ∧ k ≤ 6) (fun (k : Int) => (6 - k).toNat) (fun (k : Int) => [(6, .int .i64 k)]) (fun (k : Int) => [Res.box b2 36 (Ing.Event.enc (X.allN e k.toNat))]) (0) ?_ rfl rfl (fun k hI1 => ?_)
  · exact ⟨Int.le_refl _, by omega⟩
  obtain ⟨hI11, hI12⟩ := hI1
  refine G_seq ?_
  refine G_region ?_
  refine GL_step rfl (PS_lss rfl rfl) ?_
  refine GL_nil ?_
  refine GQ_then ?_
  refine G_seq ?_
  refine G_cond rfl (fun c1 => ?_) (fun c1 => ?_)
  · skip
    have c1p := c1
    try simp only [decide_eq_true_eq, decide_eq_false_iff_not, Bool.not_eq_true', Bool.not_eq_false', Bool.or_eq_true, Bool.and_eq_true, Bool.or_eq_false_iff, Bool.and_eq_false_iff, Int.not_lt, Int.not_le] at c1p
    refine G_skip ?_
    refine GQ_sub (.cons (k := 2) rfl (.cons (k := 3) rfl (.cons (k := 4) rfl (.cons (k := 6) rfl (.nil _))))) ?_
    refine GQ_then ?_
    refine G_seq ?_
    refine G_block ?_
    refine G_seq ?_
    refine G_region ?_
    refine GL_step rfl (PS_move rfl) ?_
    refine GL_step rfl (PS_assign rfl) ?_
    refine GL_nil ?_
    refine GQ_sub (.cons (k := 2) rfl (.cons (k := 3) rfl (.cons (k := 4) rfl (.cons (k := 5) rfl (.cons (k := 6) rfl (.nil _)))))) ?_
    refine GQ_then ?_
    refine G_region ?_
    refine GL_step rfl (PS_move rfl) ?_
    refine GL_step rfl (PS_loadA rfl tya34 (.tail _ (.tail _ (.head _))) (Lens.id Land.fl.len Land.fl.one) rfl) ?_
    refine GL_step rfl (PS_move rfl) ?_
    refine GL_step rfl (PS_loadA rfl tya36 (.head _) (Lens.id Ing.Event.fl.len Ing.Event.fl.one) rfl) ?_
    refine GL_pure rfl cf14 (.cons rfl (.cons rfl (.cons rfl .nil))) (fun w hS => sense_Perceives_spec _ _ _ w) ?_
    refine GL_step rfl (PS_fieldAddr fa36_10 rfl) ?_
    refine GL_step rfl (PS_indexAddr ia22 rfl rfl (by omega) (by omega)) ?_
    refine GL_unit (PU_store (Ing.Event.l10.comp (Lens.arr (n := 6) flI (by omega) (by omega))) rfl rfl rfl sz3 rfl .head) ?_
    refine GL_nil ?_
    refine GQ_sub (.cons (k := 2) rfl (.cons (k := 3) rfl (.cons (k := 4) rfl (.cons (k := 6) rfl (.nil _))))) ?_
    refine GQ_block ?_
    refine GQ_then ?_
    refine G_region ?_
    refine GL_step rfl (PS_add rfl rfl (IntWalk.i64_in _ (by omega))) ?_
    refine GL_step rfl (PS_move rfl) ?_
    refine GL_nil ?_
    refine GQ_sub (.cons (k := 2) rfl (.cons (k := 3) rfl (.cons (k := 4) rfl (.cons (k := 6) rfl (.nil _))))) ?_
    refine GQ_next1_ (k + 1) ?_ ?_ (.cons (k := 6) rfl (.cons (k := 2) rfl (.cons (k := 3) rfl (.cons (k := 4) rfl (.nil _))))) (by rw [Land.allN_step (by omega)]; exact (.refl _))
    · exact ⟨by omega, by omega⟩
    · omega
  · skip
    have c1p := c1
    try simp only [decide_eq_true_eq, decide_eq_false_iff_not, Bool.not_eq_true', Bool.not_eq_false', Bool.or_eq_true, Bool.and_eq_true, Bool.or_eq_false_iff, Bool.and_eq_false_iff, Int.not_lt, Int.not_le] at c1p
    obtain rfl : k = 6 := by omega
    refine G_exit ?_
    refine GQ_then_exit ?_
    refine GQ_then_exit ?_
    refine GQ_block_exit ?_
    refine GQ_sub (.cons (k := 3) rfl (.cons (k := 4) rfl (.nil _))) ?_
    refine GQ_then ?_
    refine G_seq ?_
    refine G_region ?_
    refine GL_step rfl (PS_loadA rfl tya36 (.head _) (Lens.id Ing.Event.fl.len Ing.Event.fl.one) rfl) ?_
    refine GL_unit (PU_store (Lens.id Ing.Event.fl.len Ing.Event.fl.one) rfl rfl rfl sz36 rfl (.tail .head)) ?_
    refine GL_nil ?_
    refine GQ_sub (.cons (k := 4) rfl (.nil _)) ?_
    refine GQ_then ?_
    refine G_ret ?_
    refine GQ_ret rfl (.cell rfl (.tail _ (.head _)) (.inl ⟨(by rw [Ing.Event.fl.len]; exact tya36), rfl⟩) .nil) ?_
    intro w1 hS; refine ⟨?_, hS.toKeep⟩; rfl
theorem ref_Everybody_spec (X : Land) (e : Ing.Event) (w : World) : Ret Tryd.prog 17 #[.agg X.enc.toArray, .agg e.enc.toArray] w fun v w' => v = .agg (X.allN e 6).enc.toArray ∧ Keep w w' := by
  refine Ret_body [] [] Tryd.func17 rfl rfl rfl (St.start w []) ?_
  refine G_seq ?_
  refine G_region ?_
  refine GL_box rfl rfl rfl (fun b1 => ?_)
  refine GL_box rfl rfl rfl (fun b2 => ?_)
  refine GL_alloc rfl zv36 rfl (fun b3 => ?_)
  refine GL_nil ?_
  refine GQ_sub (.cons (k := 2) rfl (.cons (k := 3) rfl (.cons (k := 4) rfl (.nil _)))) ?_
  refine GQ_then ?_
  refine G_seq ?_
  refine G_seq ?_
  refine G_region ?_
  refine GL_step rfl (PS_move rfl) ?_
  refine GL_nil ?_
  refine GQ_then ?_
  refine G_block ?_
  refine G_subF (.cons (k := 6) rfl (.cons (k := 2) rfl (.cons (k := 3) rfl (.cons (k := 4) rfl (.nil _))))) ?_
  refine G_pull (.tail .head) ?_
  refine G_loop1_ (fun (k : Int) => 0 ≤ k ∧ k ≤ 6) (fun (k : Int) => (6 - k).toNat) (fun (k : Int) => [(6, .int .i64 k)]) (fun (k : Int) => [Res.box b2 36 (Ing.Event.enc (X.allN e k.toNat))]) (0) ?_ rfl rfl (fun k hI1 => ?_)
  · exact ⟨Int.le_refl _, by omega⟩
  obtain ⟨hI11, hI12⟩ := hI1
  refine G_seq ?_
  refine G_region ?_
  refine GL_step rfl (PS_lss rfl rfl) ?_
  refine GL_nil ?_
  refine GQ_then ?_
  refine G_seq ?_
  refine G_cond rfl (fun c1 => ?_) (fun c1 => ?_)
  · skip
    have c1p := c1
    try simp only [decide_eq_true_eq, decide_eq_false_iff_not, Bool.not_eq_true', Bool.not_eq_false', Bool.or_eq_true, Bool.and_eq_true, Bool.or_eq_false_iff, Bool.and_eq_false_iff, Int.not_lt, Int.not_le] at c1p
    refine G_skip ?_
    refine GQ_sub (.cons (k := 2) rfl (.cons (k := 3) rfl (.cons (k := 4) rfl (.cons (k := 6) rfl (.nil _))))) ?_
    refine GQ_then ?_
    refine G_seq ?_
    refine G_block ?_
    refine G_seq ?_
    refine G_region ?_
    refine GL_step rfl (PS_move rfl) ?_
    refine GL_step rfl (PS_assign rfl) ?_
    refine GL_nil ?_
    refine GQ_sub (.cons (k := 2) rfl (.cons (k := 3) rfl (.cons (k := 4) rfl (.cons (k := 5) rfl (.cons (k := 6) rfl (.nil _)))))) ?_
    refine GQ_then ?_
    refine G_region ?_
    refine GL_step rfl (PS_move rfl) ?_
    refine GL_step rfl (PS_loadA rfl tya34 (.tail _ (.tail _ (.head _))) (Lens.id Land.fl.len Land.fl.one) rfl) ?_
    refine GL_step rfl (PS_move rfl) ?_
    refine GL_step rfl (PS_loadA rfl tya36 (.head _) (Lens.id Ing.Event.fl.len Ing.Event.fl.one) rfl) ?_
    refine GL_pure rfl cf15 (.cons rfl (.cons rfl (.cons rfl .nil))) (fun w hS => ref_Perceived_spec _ _ _ w) ?_
    refine GL_step rfl (PS_fieldAddr fa36_10 rfl) ?_
    refine GL_step rfl (PS_indexAddr ia22 rfl rfl (by omega) (by omega)) ?_
    refine GL_unit (PU_store (Ing.Event.l10.comp (Lens.arr (n := 6) flI (by omega) (by omega))) rfl rfl rfl sz3 rfl .head) ?_
    refine GL_nil ?_
    refine GQ_sub (.cons (k := 2) rfl (.cons (k := 3) rfl (.cons (k := 4) rfl (.cons (k := 6) rfl (.nil _))))) ?_
    refine GQ_block ?_
    refine GQ_then ?_
    refine G_region ?_
    refine GL_step rfl (PS_add rfl rfl (IntWalk.i64_in _ (by omega))) ?_
    refine GL_step rfl (PS_move rfl) ?_
    refine GL_nil ?_
    refine GQ_sub (.cons (k := 2) rfl (.cons (k := 3) rfl (.cons (k := 4) rfl (.cons (k := 6) rfl (.nil _))))) ?_
    refine GQ_next1_ (k + 1) ?_ ?_ (.cons (k := 6) rfl (.cons (k := 2) rfl (.cons (k := 3) rfl (.cons (k := 4) rfl (.nil _))))) (by rw [Land.allN_step (by omega)]; exact (.refl _))
    · exact ⟨by omega, by omega⟩
    · omega
  · skip
    have c1p := c1
    try simp only [decide_eq_true_eq, decide_eq_false_iff_not, Bool.not_eq_true', Bool.not_eq_false', Bool.or_eq_true, Bool.and_eq_true, Bool.or_eq_false_iff, Bool.and_eq_false_iff, Int.not_lt, Int.not_le] at c1p
    obtain rfl : k = 6 := by omega
    refine G_exit ?_
    refine GQ_then_exit ?_
    refine GQ_then_exit ?_
    refine GQ_block_exit ?_
    refine GQ_sub (.cons (k := 3) rfl (.cons (k := 4) rfl (.nil _))) ?_
    refine GQ_then ?_
    refine G_seq ?_
    refine G_region ?_
    refine GL_step rfl (PS_loadA rfl tya36 (.head _) (Lens.id Ing.Event.fl.len Ing.Event.fl.one) rfl) ?_
    refine GL_unit (PU_store (Lens.id Ing.Event.fl.len Ing.Event.fl.one) rfl rfl rfl sz36 rfl (.tail .head)) ?_
    refine GL_nil ?_
    refine GQ_sub (.cons (k := 4) rfl (.nil _)) ?_
    refine GQ_then ?_
    refine G_ret ?_
    refine GQ_ret rfl (.cell rfl (.tail _ (.head _)) (.inl ⟨(by rw [Ing.Event.fl.len]; exact tya36), rfl⟩) .nil) ?_
    intro w1 hS; refine ⟨?_, hS.toKeep⟩; rfl
theorem land_New_spec  (w : World) : Ret Tryd.prog 27 #[] w fun v w' => v = .agg Land.new.enc.toArray ∧ Keep w w' := by
  refine Ret_body [] [] Tryd.func27 rfl rfl rfl (St.start w []) ?_
  refine G_seq ?_
  refine G_region ?_
  refine GL_alloc rfl zv34 rfl (fun b1 => ?_)
  refine GL_nil ?_
  refine GQ_then ?_
  refine G_seq ?_
  refine G_region ?_
  refine GL_alloc rfl zv34 rfl (fun b2 => ?_)
  refine GL_nil ?_
  refine GQ_then ?_
  refine G_seq ?_
  refine G_seq ?_
  refine G_region ?_
  refine GL_step rfl (PS_buildA Tryd.underlying22 sz3 zv22 rfl (.cons (Lens.arr (n := 6) (i := 0) flI (by decide) (by decide)) rfl rfl rfl (.cons (Lens.arr (n := 6) (i := 1) flI (by decide) (by decide)) rfl rfl rfl (.cons (Lens.arr (n := 6) (i := 2) flI (by decide) (by decide)) rfl rfl rfl (.cons (Lens.arr (n := 6) (i := 3) flI (by decide) (by decide)) rfl rfl rfl (.cons (Lens.arr (n := 6) (i := 4) flI (by decide) (by decide)) rfl rfl rfl (.cons (Lens.arr (n := 6) (i := 5) flI (by decide) (by decide)) rfl rfl rfl .nil))))))) ?_
  refine GL_step rfl (PS_buildA Tryd.underlying23 sz4 zv23 rfl (.cons (Lens.arr (n := 6) (i := 5) flB (by decide) (by decide)) rfl rfl rfl .nil)) ?_
  refine GL_step rfl (PS_build pl25 zv25 rfl (.cons Room.l0 rfl rfl rfl (.cons Room.l2 rfl rfl rfl (.cons Room.l3 rfl rfl rfl .nil)))) ?_
  refine GL_step rfl (PS_buildA Tryd.underlying22 sz3 zv22 rfl (.cons (Lens.arr (n := 6) (i := 0) flI (by decide) (by decide)) rfl rfl rfl (.cons (Lens.arr (n := 6) (i := 1) flI (by decide) (by decide)) rfl rfl rfl (.cons (Lens.arr (n := 6) (i := 2) flI (by decide) (by decide)) rfl rfl rfl (.cons (Lens.arr (n := 6) (i := 3) flI (by decide) (by decide)) rfl rfl rfl (.cons (Lens.arr (n := 6) (i := 4) flI (by decide) (by decide)) rfl rfl rfl (.cons (Lens.arr (n := 6) (i := 5) flI (by decide) (by decide)) rfl rfl rfl .nil))))))) ?_
  refine GL_step rfl (PS_build pl25 zv25 rfl (.cons Room.l0 rfl rfl rfl (.cons Room.l2 rfl rfl rfl .nil))) ?_
  refine GL_step rfl (PS_buildA Tryd.underlying22 sz3 zv22 rfl (.cons (Lens.arr (n := 6) (i := 0) flI (by decide) (by decide)) rfl rfl rfl (.cons (Lens.arr (n := 6) (i := 1) flI (by decide) (by decide)) rfl rfl rfl (.cons (Lens.arr (n := 6) (i := 2) flI (by decide) (by decide)) rfl rfl rfl (.cons (Lens.arr (n := 6) (i := 3) flI (by decide) (by decide)) rfl rfl rfl (.cons (Lens.arr (n := 6) (i := 4) flI (by decide) (by decide)) rfl rfl rfl (.cons (Lens.arr (n := 6) (i := 5) flI (by decide) (by decide)) rfl rfl rfl .nil))))))) ?_
  refine GL_step rfl (PS_build pl25 zv25 rfl (.cons Room.l0 rfl rfl rfl (.cons Room.l2 rfl rfl rfl (.cons Room.l1 rfl rfl rfl .nil)))) ?_
  refine GL_step rfl (PS_buildA Tryd.underlying22 sz3 zv22 rfl (.cons (Lens.arr (n := 6) (i := 0) flI (by decide) (by decide)) rfl rfl rfl (.cons (Lens.arr (n := 6) (i := 1) flI (by decide) (by decide)) rfl rfl rfl (.cons (Lens.arr (n := 6) (i := 2) flI (by decide) (by decide)) rfl rfl rfl (.cons (Lens.arr (n := 6) (i := 3) flI (by decide) (by decide)) rfl rfl rfl (.cons (Lens.arr (n := 6) (i := 4) flI (by decide) (by decide)) rfl rfl rfl (.cons (Lens.arr (n := 6) (i := 5) flI (by decide) (by decide)) rfl rfl rfl .nil))))))) ?_
  refine GL_step rfl (PS_build pl25 zv25 rfl (.cons Room.l0 rfl rfl rfl (.cons Room.l2 rfl rfl rfl (.cons Room.l1 rfl rfl rfl .nil)))) ?_
  refine GL_step rfl (PS_buildA Tryd.underlying22 sz3 zv22 rfl (.cons (Lens.arr (n := 6) (i := 0) flI (by decide) (by decide)) rfl rfl rfl (.cons (Lens.arr (n := 6) (i := 1) flI (by decide) (by decide)) rfl rfl rfl (.cons (Lens.arr (n := 6) (i := 2) flI (by decide) (by decide)) rfl rfl rfl (.cons (Lens.arr (n := 6) (i := 3) flI (by decide) (by decide)) rfl rfl rfl (.cons (Lens.arr (n := 6) (i := 4) flI (by decide) (by decide)) rfl rfl rfl (.cons (Lens.arr (n := 6) (i := 5) flI (by decide) (by decide)) rfl rfl rfl .nil))))))) ?_
  refine GL_step rfl (PS_buildA Tryd.underlying23 sz4 zv23 rfl (.cons (Lens.arr (n := 6) (i := 2) flB (by decide) (by decide)) rfl rfl rfl .nil)) ?_
  refine GL_step rfl (PS_build pl25 zv25 rfl (.cons Room.l0 rfl rfl rfl (.cons Room.l2 rfl rfl rfl (.cons Room.l3 rfl rfl rfl (.cons Room.l1 rfl rfl rfl .nil))))) ?_
  refine GL_step rfl (PS_buildA Tryd.underlying22 sz3 zv22 rfl (.cons (Lens.arr (n := 6) (i := 0) flI (by decide) (by decide)) rfl rfl rfl (.cons (Lens.arr (n := 6) (i := 1) flI (by decide) (by decide)) rfl rfl rfl (.cons (Lens.arr (n := 6) (i := 2) flI (by decide) (by decide)) rfl rfl rfl (.cons (Lens.arr (n := 6) (i := 3) flI (by decide) (by decide)) rfl rfl rfl (.cons (Lens.arr (n := 6) (i := 4) flI (by decide) (by decide)) rfl rfl rfl (.cons (Lens.arr (n := 6) (i := 5) flI (by decide) (by decide)) rfl rfl rfl .nil))))))) ?_
  refine GL_step rfl (PS_build pl25 zv25 rfl (.cons Room.l0 rfl rfl rfl (.cons Room.l2 rfl rfl rfl .nil))) ?_
  refine GL_bs (cs := encA (n := 6) Room.enc (Vector.replicate 6 default)) (cs' := encA (n := 6) Room.enc Land.roomsV) rfl Tryd.underlying68 sz25 zv25 (by decide) (by decide) (by kernel_rfl) (.cons (Lens.arr (n := 6) (i := 0) Room.fl (by decide) (by decide)) rfl rfl rfl (.cons (Lens.arr (n := 6) (i := 1) Room.fl (by decide) (by decide)) rfl rfl rfl (.cons (Lens.arr (n := 6) (i := 2) Room.fl (by decide) (by decide)) rfl rfl rfl (.cons (Lens.arr (n := 6) (i := 3) Room.fl (by decide) (by decide)) rfl rfl rfl (.cons (Lens.arr (n := 6) (i := 4) Room.fl (by decide) (by decide)) rfl rfl rfl (.cons (Lens.arr (n := 6) (i := 5) Room.fl (by decide) (by decide)) rfl rfl rfl .nil)))))) ((flA Room.fl).len _) (fun b3 => ?_)
  refine GL_step rfl (PS_len_slice rfl Tryd.underlying68 rfl) ?_
  refine GL_step rfl (PS_move rfl) ?_
  refine GL_nil ?_
  refine GQ_sub (.cons (k := 0) rfl (.cons (k := 1) rfl (.cons (k := 20) rfl (.cons (k := 21) rfl (.cons (k := 22) rfl (.nil _)))))) ?_
  refine GQ_then ?_
  refine G_block ?_
  refine G_subF (.cons (k := 22) rfl (.cons (k := 0) rfl (.cons (k := 1) rfl (.cons (k := 20) rfl (.cons (k := 21) rfl (.nil _)))))) ?_
  refine G_pull (.tail .head) ?_
  refine G_loop1_ (fun (k : Int) => 0 ≤ k ∧ k ≤ 6) (fun (k : Int) => (6 - k).toNat) (fun (k : Int) => [(22, .int .i64 k)]) (fun (k : Int) => [Res.box b2 34 (Land.enc (Land.newA k.toNat))]) (0) ?_ rfl rfl (fun k hI1 => ?_)
  · exact ⟨Int.le_refl _, by omega⟩
  obtain ⟨hI11, hI12⟩ := hI1
  refine G_seq ?_
  refine G_region ?_
  refine GL_step rfl (PS_lss rfl rfl) ?_
  refine GL_nil ?_
  refine GQ_then ?_
  refine G_seq ?_
  refine G_cond rfl (fun c1 => ?_) (fun c1 => ?_)
  · skip
    have c1p := c1
    try simp only [decide_eq_true_eq, decide_eq_false_iff_not, Bool.not_eq_true', Bool.not_eq_false', Bool.or_eq_true, Bool.and_eq_true, Bool.or_eq_false_iff, Bool.and_eq_false_iff, Int.not_lt, Int.not_le] at c1p
    refine G_skip ?_
    refine GQ_sub (.cons (k := 0) rfl (.cons (k := 1) rfl (.cons (k := 20) rfl (.cons (k := 21) rfl (.cons (k := 22) rfl (.nil _)))))) ?_
    refine GQ_then ?_
    refine G_seq ?_
    refine G_block ?_
    refine G_seq ?_
    refine G_region ?_
    refine GL_step rfl (PS_move rfl) ?_
    refine GL_step rfl (PS_idxS is68 (by decide) (Kn.own (.tail _ (.head _))) rfl rfl (by omega) (by dsimp only; omega)) ?_
    refine GL_step rfl (PS_ldG rfl tya25 (by decide) Room.fl (Kn.own (.tail _ (.head _))) (by simp; omega)) ?_
    refine GL_alloc rfl zv25 rfl (fun b4 => ?_)
    refine GL_step rfl (PS_assign rfl) ?_
    refine GL_unit (PU_store (Lens.id Room.fl.len Room.fl.one) rfl rfl rfl sz25 rfl .head) ?_
    refine GL_nil ?_
    refine GQ_sub (.cons (k := 0) rfl (.cons (k := 1) rfl (.cons (k := 2) rfl (.cons (k := 3) rfl (.cons (k := 20) rfl (.cons (k := 21) rfl (.cons (k := 22) rfl (.nil _)))))))) ?_
    refine GQ_then ?_
    refine G_region ?_
    refine GL_step rfl (PS_move rfl) ?_
    refine GL_step rfl (PS_loadA rfl tya25 (.head _) (Lens.id Room.fl.len Room.fl.one) rfl) ?_
    refine GL_step rfl (PS_fieldAddr fa34_0 rfl) ?_
    refine GL_step rfl (PS_indexAddr ia26 rfl rfl (by omega) (by omega)) ?_
    refine GL_unit (PU_store (Land.l0.comp (Lens.arr (n := 6) Room.fl (by omega) (by omega))) rfl rfl rfl sz25 rfl (.tail .head)) ?_
    refine GL_nil ?_
    refine GQ_sub (.cons (k := 0) rfl (.cons (k := 1) rfl (.cons (k := 20) rfl (.cons (k := 21) rfl (.cons (k := 22) rfl (.nil _)))))) ?_
    refine GQ_block ?_
    refine GQ_then ?_
    refine G_region ?_
    refine GL_step rfl (PS_add rfl rfl (IntWalk.i64_in _ (by omega))) ?_
    refine GL_step rfl (PS_move rfl) ?_
    refine GL_nil ?_
    refine GQ_sub (.cons (k := 0) rfl (.cons (k := 1) rfl (.cons (k := 20) rfl (.cons (k := 21) rfl (.cons (k := 22) rfl (.nil _)))))) ?_
    refine GQ_next1_ (k + 1) ?_ ?_ (.cons (k := 22) rfl (.cons (k := 0) rfl (.cons (k := 1) rfl (.cons (k := 20) rfl (.cons (k := 21) rfl (.nil _)))))) (by rw [Land.newA_step (by omega)]; exact (.cons _ (.refl _)))
    · exact ⟨by omega, by omega⟩
    · omega
  · skip
    have c1p := c1
    try simp only [decide_eq_true_eq, decide_eq_false_iff_not, Bool.not_eq_true', Bool.not_eq_false', Bool.or_eq_true, Bool.and_eq_true, Bool.or_eq_false_iff, Bool.and_eq_false_iff, Int.not_lt, Int.not_le] at c1p
    obtain rfl : k = 6 := by omega
    refine G_exit ?_
    refine GQ_then_exit ?_
    refine GQ_then_exit ?_
    refine GQ_block_exit ?_
    refine GQ_sub (.cons (k := 0) rfl (.cons (k := 1) rfl (.nil _))) ?_
    refine GQ_then ?_
    refine G_seq ?_
    refine G_seq ?_
    refine G_region ?_
    refine GL_step rfl (PS_build pl28 zv28 rfl (.cons Thing.l0 rfl rfl rfl (.cons Thing.l1 rfl rfl rfl .nil))) ?_
    refine GL_step rfl (PS_build pl28 zv28 rfl (.cons Thing.l0 rfl rfl rfl (.cons Thing.l1 rfl rfl rfl (.cons Thing.l3 rfl rfl rfl .nil)))) ?_
    refine GL_step rfl (PS_build pl28 zv28 rfl (.cons Thing.l0 rfl rfl rfl (.cons Thing.l1 rfl rfl rfl .nil))) ?_
    refine GL_step rfl (PS_build pl28 zv28 rfl (.cons Thing.l0 rfl rfl rfl (.cons Thing.l1 rfl rfl rfl (.cons Thing.l3 rfl rfl rfl .nil)))) ?_
    refine GL_step rfl (PS_build pl28 zv28 rfl (.cons Thing.l0 rfl rfl rfl (.cons Thing.l2 rfl rfl rfl (.cons Thing.l3 rfl rfl rfl .nil)))) ?_
    refine GL_step rfl (PS_build pl28 zv28 rfl (.cons Thing.l0 rfl rfl rfl (.cons Thing.l3 rfl rfl rfl .nil))) ?_
    refine GL_step rfl (PS_build pl28 zv28 rfl (.cons Thing.l0 rfl rfl rfl .nil)) ?_
    refine GL_step rfl (PS_build pl28 zv28 rfl (.cons Thing.l0 rfl rfl rfl (.cons Thing.l1 rfl rfl rfl (.cons Thing.l4 rfl rfl rfl .nil)))) ?_
    refine GL_step rfl (PS_build pl28 zv28 rfl (.cons Thing.l0 rfl rfl rfl (.cons Thing.l2 rfl rfl rfl (.cons Thing.l3 rfl rfl rfl .nil)))) ?_
    refine GL_bs (cs := encA (n := 9) Thing.enc (Vector.replicate 9 default)) (cs' := encA (n := 9) Thing.enc Land.thingsV) rfl Tryd.underlying69 sz28 zv28 (by decide) (by decide) (by kernel_rfl) (.cons (Lens.arr (n := 9) (i := 0) Thing.fl (by decide) (by decide)) rfl rfl rfl (.cons (Lens.arr (n := 9) (i := 1) Thing.fl (by decide) (by decide)) rfl rfl rfl (.cons (Lens.arr (n := 9) (i := 2) Thing.fl (by decide) (by decide)) rfl rfl rfl (.cons (Lens.arr (n := 9) (i := 3) Thing.fl (by decide) (by decide)) rfl rfl rfl (.cons (Lens.arr (n := 9) (i := 4) Thing.fl (by decide) (by decide)) rfl rfl rfl (.cons (Lens.arr (n := 9) (i := 5) Thing.fl (by decide) (by decide)) rfl rfl rfl (.cons (Lens.arr (n := 9) (i := 6) Thing.fl (by decide) (by decide)) rfl rfl rfl (.cons (Lens.arr (n := 9) (i := 7) Thing.fl (by decide) (by decide)) rfl rfl rfl (.cons (Lens.arr (n := 9) (i := 8) Thing.fl (by decide) (by decide)) rfl rfl rfl .nil))))))))) ((flA Thing.fl).len _) (fun b5 => ?_)
    refine GL_step rfl (PS_len_slice rfl Tryd.underlying69 rfl) ?_
    refine GL_step rfl (PS_move rfl) ?_
    refine GL_nil ?_
    refine GQ_sub (.cons (k := 0) rfl (.cons (k := 1) rfl (.cons (k := 41) rfl (.cons (k := 42) rfl (.cons (k := 43) rfl (.nil _)))))) ?_
    refine GQ_then ?_
    refine G_block ?_
    refine G_subF (.cons (k := 43) rfl (.cons (k := 0) rfl (.cons (k := 1) rfl (.cons (k := 41) rfl (.cons (k := 42) rfl (.nil _)))))) ?_
    refine G_pull (.tail .head) ?_
    refine G_loop1_ (fun (k : Int) => 0 ≤ k ∧ k ≤ 9) (fun (k : Int) => (9 - k).toNat) (fun (k : Int) => [(43, .int .i64 k)]) (fun (k : Int) => [Res.box b2 34 (Land.enc (Land.newB k.toNat))]) (0) ?_ rfl rfl (fun k hI2 => ?_)
    · exact ⟨Int.le_refl _, by omega⟩
    obtain ⟨hI21, hI22⟩ := hI2
    refine G_seq ?_
    refine G_region ?_
    refine GL_step rfl (PS_lss rfl rfl) ?_
    refine GL_nil ?_
    refine GQ_then ?_
    refine G_seq ?_
    refine G_cond rfl (fun c2 => ?_) (fun c2 => ?_)
    · skip
      have c2p := c2
      try simp only [decide_eq_true_eq, decide_eq_false_iff_not, Bool.not_eq_true', Bool.not_eq_false', Bool.or_eq_true, Bool.and_eq_true, Bool.or_eq_false_iff, Bool.and_eq_false_iff, Int.not_lt, Int.not_le] at c2p
      refine G_skip ?_
      refine GQ_sub (.cons (k := 0) rfl (.cons (k := 1) rfl (.cons (k := 41) rfl (.cons (k := 42) rfl (.cons (k := 43) rfl (.nil _)))))) ?_
      refine GQ_then ?_
      refine G_seq ?_
      refine G_block ?_
      refine G_seq ?_
      refine G_region ?_
      refine GL_step rfl (PS_move rfl) ?_
      refine GL_step rfl (PS_idxS is69 (by decide) (Kn.own (.tail _ (.head _))) rfl rfl (by omega) (by dsimp only; omega)) ?_
      refine GL_step rfl (PS_ldG rfl tya28 (by decide) Thing.fl (Kn.own (.tail _ (.head _))) (by simp; omega)) ?_
      refine GL_alloc rfl zv28 rfl (fun b6 => ?_)
      refine GL_step rfl (PS_assign rfl) ?_
      refine GL_unit (PU_store (Lens.id Thing.fl.len Thing.fl.one) rfl rfl rfl sz28 rfl .head) ?_
      refine GL_nil ?_
      refine GQ_sub (.cons (k := 0) rfl (.cons (k := 1) rfl (.cons (k := 4) rfl (.cons (k := 5) rfl (.cons (k := 41) rfl (.cons (k := 42) rfl (.cons (k := 43) rfl (.nil _)))))))) ?_
      refine GQ_then ?_
      refine G_region ?_
      refine GL_step rfl (PS_move rfl) ?_
      refine GL_step rfl (PS_loadA rfl tya28 (.head _) (Lens.id Thing.fl.len Thing.fl.one) rfl) ?_
      refine GL_step rfl (PS_fieldAddr fa34_1 rfl) ?_
      refine GL_step rfl (PS_indexAddr ia29 rfl rfl (by omega) (by omega)) ?_
      refine GL_unit (PU_store (Land.l1.comp (Lens.arr (n := 9) Thing.fl (by omega) (by omega))) rfl rfl rfl sz28 rfl (.tail .head)) ?_
      refine GL_nil ?_
      refine GQ_sub (.cons (k := 0) rfl (.cons (k := 1) rfl (.cons (k := 41) rfl (.cons (k := 42) rfl (.cons (k := 43) rfl (.nil _)))))) ?_
      refine GQ_block ?_
      refine GQ_then ?_
      refine G_region ?_
      refine GL_step rfl (PS_add rfl rfl (IntWalk.i64_in _ (by omega))) ?_
      refine GL_step rfl (PS_move rfl) ?_
      refine GL_nil ?_
      refine GQ_sub (.cons (k := 0) rfl (.cons (k := 1) rfl (.cons (k := 41) rfl (.cons (k := 42) rfl (.cons (k := 43) rfl (.nil _)))))) ?_
      refine GQ_next1_ (k + 1) ?_ ?_ (.cons (k := 43) rfl (.cons (k := 0) rfl (.cons (k := 1) rfl (.cons (k := 41) rfl (.cons (k := 42) rfl (.nil _)))))) (by rw [Land.newB_step (by omega)]; exact (.cons _ (.refl _)))
      · exact ⟨by omega, by omega⟩
      · omega
    · skip
      have c2p := c2
      try simp only [decide_eq_true_eq, decide_eq_false_iff_not, Bool.not_eq_true', Bool.not_eq_false', Bool.or_eq_true, Bool.and_eq_true, Bool.or_eq_false_iff, Bool.and_eq_false_iff, Int.not_lt, Int.not_le] at c2p
      obtain rfl : k = 9 := by omega
      refine G_exit ?_
      refine GQ_then_exit ?_
      refine GQ_then_exit ?_
      refine GQ_block_exit ?_
      refine GQ_sub (.cons (k := 0) rfl (.cons (k := 1) rfl (.nil _))) ?_
      refine GQ_then ?_
      refine G_seq ?_
      refine G_region ?_
      refine GL_step rfl (PS_build pl31 zv31 rfl (.cons Being.l0 rfl rfl rfl (.cons Being.l1 rfl rfl rfl (.cons Being.l2 rfl rfl rfl (.cons Being.l4 rfl rfl rfl .nil))))) ?_
      refine GL_step rfl (PS_fieldAddr fa34_2 rfl) ?_
      refine GL_step rfl (PS_indexAddr ia32 rfl rfl (by decide) (by decide)) ?_
      refine GL_unit (PU_store (Land.l2.comp (Lens.arr (n := 6) Being.fl (by decide) (by decide))) rfl rfl rfl sz31 rfl .head) ?_
      refine GL_nil ?_
      refine GQ_sub (.cons (k := 0) rfl (.cons (k := 1) rfl (.nil _))) ?_
      refine GQ_then ?_
      refine G_seq ?_
      refine G_region ?_
      refine GL_step rfl (PS_build pl31 zv31 rfl (.cons Being.l0 rfl rfl rfl (.cons Being.l1 rfl rfl rfl (.cons Being.l3 rfl rfl rfl (.cons Being.l4 rfl rfl rfl .nil))))) ?_
      refine GL_step rfl (PS_fieldAddr fa34_2 rfl) ?_
      refine GL_step rfl (PS_indexAddr ia32 rfl rfl (by decide) (by decide)) ?_
      refine GL_unit (PU_store (Land.l2.comp (Lens.arr (n := 6) Being.fl (by decide) (by decide))) rfl rfl rfl sz31 rfl .head) ?_
      refine GL_nil ?_
      refine GQ_sub (.cons (k := 0) rfl (.cons (k := 1) rfl (.nil _))) ?_
      refine GQ_then ?_
      refine G_seq ?_
      refine G_region ?_
      refine GL_step rfl (PS_loadA rfl tya34 (.head _) (Lens.id Land.fl.len Land.fl.one) rfl) ?_
      refine GL_unit (PU_store (Lens.id Land.fl.len Land.fl.one) rfl rfl rfl sz34 rfl (.tail (.tail (.tail .head)))) ?_
      refine GL_nil ?_
      refine GQ_sub (.cons (k := 0) rfl (.nil _)) ?_
      refine GQ_then ?_
      refine G_ret ?_
      refine GQ_ret rfl (.cell rfl (.tail _ (.tail _ (.tail _ (.head _)))) (.inl ⟨(by rw [Land.fl.len]; exact tya34), rfl⟩) .nil) ?_
      intro w1 hS; refine ⟨?_, hS.toKeep⟩; rfl
theorem sense_form_spec (z : Int) (hz : z = 7) (w : World) : Ret Tryd.prog 28 #[.int .i64 z] w fun v w' => v = .tuple #[vstr Land.sayT, vstr [65, 32, 115, 97, 121, 115, 58, 32, 88]] ∧ Keep w w' := by
  refine Ret_body [] [] Tryd.func28 rfl rfl rfl (St.start w []) ?_
  refine G_seq ?_
  refine G_region ?_
  refine GL_step rfl (PS_assign rfl) ?_
  refine GL_step rfl (PS_assign rfl) ?_
  refine GL_nil ?_
  refine GQ_sub (.cons (k := 0) rfl (.nil _)) ?_
  refine GQ_then ?_
  refine G_seq ?_
  refine G_seq ?_
  refine G_region ?_
  refine GL_step rfl (PS_move rfl) ?_
  refine GL_nil ?_
  refine GQ_sub (.cons (k := 4) rfl (.nil _)) ?_
  refine GQ_then ?_
  refine G_block ?_
  refine G_seq ?_
  refine G_region ?_
  refine GL_step rfl (PS_eql rfl rfl) ?_
  refine GL_step rfl (PS_assign rfl) ?_
  refine GL_nil ?_
  refine GQ_sub (.cons (k := 4) rfl (.cons (k := 5) rfl (.nil _))) ?_
  refine GQ_then ?_
  refine G_false rfl (by rw [hz]; rfl) ?_
  refine G_seq ?_
  refine G_region ?_
  refine GL_step rfl (PS_eql rfl rfl) ?_
  refine GL_step rfl (PS_assign rfl) ?_
  refine GL_nil ?_
  refine GQ_sub (.cons (k := 4) rfl (.cons (k := 7) rfl (.nil _))) ?_
  refine GQ_then ?_
  refine G_false rfl (by rw [hz]; rfl) ?_
  refine G_seq ?_
  refine G_region ?_
  refine GL_step rfl (PS_eql rfl rfl) ?_
  refine GL_step rfl (PS_assign rfl) ?_
  refine GL_nil ?_
  refine GQ_sub (.cons (k := 4) rfl (.cons (k := 9) rfl (.nil _))) ?_
  refine GQ_then ?_
  refine G_false rfl (by rw [hz]; rfl) ?_
  refine G_seq ?_
  refine G_region ?_
  refine GL_step rfl (PS_eql rfl rfl) ?_
  refine GL_step rfl (PS_assign rfl) ?_
  refine GL_nil ?_
  refine GQ_sub (.cons (k := 4) rfl (.cons (k := 11) rfl (.nil _))) ?_
  refine GQ_then ?_
  refine G_false rfl (by rw [hz]; rfl) ?_
  refine G_seq ?_
  refine G_region ?_
  refine GL_step rfl (PS_eql rfl rfl) ?_
  refine GL_step rfl (PS_assign rfl) ?_
  refine GL_nil ?_
  refine GQ_sub (.cons (k := 4) rfl (.cons (k := 13) rfl (.nil _))) ?_
  refine GQ_then ?_
  refine G_false rfl (by rw [hz]; rfl) ?_
  refine G_seq ?_
  refine G_region ?_
  refine GL_step rfl (PS_eql rfl rfl) ?_
  refine GL_step rfl (PS_assign rfl) ?_
  refine GL_nil ?_
  refine GQ_sub (.cons (k := 4) rfl (.cons (k := 15) rfl (.nil _))) ?_
  refine GQ_then ?_
  refine G_false rfl (by rw [hz]; rfl) ?_
  refine G_seq ?_
  refine G_region ?_
  refine GL_step rfl (PS_eql rfl rfl) ?_
  refine GL_step rfl (PS_assign rfl) ?_
  refine GL_nil ?_
  refine GQ_sub (.cons (k := 4) rfl (.cons (k := 17) rfl (.nil _))) ?_
  refine GQ_then ?_
  refine G_true rfl (by rw [hz]; rfl) ?_
  refine G_seq ?_
  refine G_region ?_
  refine GL_step rfl (PS_assign rfl) ?_
  refine GL_step rfl (PS_assign rfl) ?_
  refine GL_nil ?_
  refine GQ_sub (.cons (k := 2) rfl (.cons (k := 3) rfl (.nil _))) ?_
  refine GQ_then ?_
  refine G_ret ?_
  refine GQ_block_ret ?_
  refine GQ_then_ret ?_
  refine GQ_ret rfl (.tmp rfl (.tmp rfl .nil)) ?_
  intro w1 hS; refine ⟨?_, hS.toKeep⟩; rfl
theorem strings_Builder_copyCheck_spec (b : Nat) (p : Option Addr) (h : Hd) (hp : p = none ∨ p = some ⟨b, 0, none⟩) : Ctr Tryd.prog 38 #[.pointer (some ⟨b, 0, none⟩)] [Res.box b 57 (BldV.enc ⟨p, h⟩)] (fun v B => v = .tuple #[] ∧ B = [Res.box b 57 (BldV.enc ⟨some ⟨b, 0, none⟩, h⟩)]) := by
  intro w hS0
  refine Ret_body _ _ Tryd.func38 rfl rfl rfl (hS0) ?_
  refine G_seq ?_
  refine G_region ?_
  refine GL_step rfl (PS_move rfl) ?_
  refine GL_step rfl (PS_nilCheck rfl) ?_
  refine GL_step rfl (PS_fieldAddr fa57_0 rfl) ?_
  refine GL_step rfl (PS_load rfl tys54 (.head _) BldV.l0 rfl rfl) ?_
  refine GL_step rfl (PS_eqp_nil Tryd.underlying54 rfl) ?_
  refine GL_nil ?_
  refine GQ_sub (.cons (k := 0) rfl (.cons (k := 6) rfl (.nil _))) ?_
  refine GQ_then ?_
  refine G_cond rfl (fun c1 => ?_) (fun c1 => ?_)
  · skip
    have c1p := c1
    try simp only [decide_eq_true_eq, decide_eq_false_iff_not, Bool.not_eq_true', Bool.not_eq_false', Bool.or_eq_true, Bool.and_eq_true, Bool.or_eq_false_iff, Bool.and_eq_false_iff, Int.not_lt, Int.not_le] at c1p
    obtain rfl : p = none := by simpa using c1
    refine G_region ?_
    refine GL_step rfl (PS_move rfl) ?_
    refine GL_step rfl (PS_move rfl) ?_
    refine GL_step rfl ((let ⟨_, h, h2⟩ := inf57; PS_toUnsafe Tryd.underlying54 Tryd.underlying73 h h2 rfl (.head _) (by rw [BldV.fl.len]; decide))) ?_
    refine GL_step rfl (PS_noEscape Tryd.func40 (by kernel_rfl) (by kernel_rfl) (by kernel_rfl) (by kernel_rfl) rfl) ?_
    refine GL_step rfl ((let ⟨_, h, _⟩ := inf57; PS_fromUnsafe Tryd.underlying73 Tryd.underlying54 h rfl (.head _) (by rw [BldV.fl.len]; kernel_rfl))) ?_
    refine GL_step rfl (PS_nilCheck rfl) ?_
    refine GL_step rfl (PS_fieldAddr fa57_0 rfl) ?_
    refine GL_unit (PU_store BldV.l0 rfl rfl rfl sz54 rfl .head) ?_
    refine GL_nil ?_
    refine GQ_end rfl .nil ?_
    intro w1 hS
    have hS := (hS.perm (Pulls.perm (.cons .head .nil))).headL
    exact ⟨_, ⟨rfl, rfl⟩, hS⟩
  · skip
    have c1p := c1
    try simp only [decide_eq_true_eq, decide_eq_false_iff_not, Bool.not_eq_true', Bool.not_eq_false', Bool.or_eq_true, Bool.and_eq_true, Bool.or_eq_false_iff, Bool.and_eq_false_iff, Int.not_lt, Int.not_le] at c1p
    obtain rfl : p = some ⟨b, 0, none⟩ := by rcases hp with h | h; (subst h; simp at c1); exact h
    refine G_seq ?_
    refine G_region ?_
    refine GL_step rfl (PS_move rfl) ?_
    refine GL_step rfl (PS_nilCheck rfl) ?_
    refine GL_step rfl (PS_fieldAddr fa57_0 rfl) ?_
    refine GL_step rfl (PS_load rfl tys54 (.head _) BldV.l0 rfl rfl) ?_
    refine GL_step rfl (PS_move rfl) ?_
    refine GL_step rfl ((let ⟨_, h, _⟩ := inf57; PS_neqp_same Tryd.underlying54 h rfl rfl)) ?_
    refine GL_nil ?_
    refine GQ_sub (.cons (k := 19) rfl (.nil _)) ?_
    refine GQ_then ?_
    refine G_false rfl rfl ?_
    refine G_skip ?_
    refine GQ_end rfl .nil ?_
    intro w1 hS
    have hS := (hS.perm (Pulls.perm (.cons .head .nil))).headL
    exact ⟨_, ⟨rfl, rfl⟩, hS⟩
theorem strings_Builder_WriteByte_spec (b : Nat) (p : Option Addr) (h : Hd) (s : Str) (hp : p = none ∨ p = some ⟨b, 0, none⟩) (hz : h.Z) (hl : h.len = s.length) (c : UInt8) (hb : s.length < 140737488355000) : Ctr Tryd.prog 29 #[.pointer (some ⟨b, 0, none⟩), .int .u8 (c.toNat : Int)] [Res.box b 57 (BldV.enc ⟨p, h⟩), Res.own h 5 1 (s.flatMap encY)] (fun v B => ∃ p' h', v = .nilIface ∧ (p' = none ∨ p' = some ⟨b, 0, none⟩) ∧ h'.Z ∧ h'.len = (s ++ [c]).length ∧ B = [Res.box b 57 (BldV.enc ⟨p', h'⟩), Res.own h' 5 1 ((s ++ [c]).flatMap encY)]) := by
  intro w hS0
  refine Ret_body _ _ Tryd.func29 rfl rfl rfl (hS0) ?_
  refine G_seq ?_
  refine G_region ?_
  refine GL_step rfl (PS_assign rfl) ?_
  refine GL_nil ?_
  refine GQ_sub (.cons (k := 0) rfl (.cons (k := 1) rfl (.nil _))) ?_
  refine GQ_then ?_
  refine G_seq ?_
  refine G_region ?_
  refine GL_step rfl (PS_move rfl) ?_
  refine GL_callL rfl cf38 (.cons rfl .nil) (.cons .head .nil) (strings_Builder_copyCheck_spec _ _ _ (by first | assumption | omega)) (fun v1 B hv => ?_)
  obtain ⟨rfl, rfl⟩ := hv
  refine GL_nil ?_
  refine GQ_sub (.cons (k := 0) rfl (.cons (k := 1) rfl (.nil _))) ?_
  refine GQ_then ?_
  refine G_seq ?_
  refine G_region ?_
  refine GL_step rfl (PS_move rfl) ?_
  refine GL_step rfl (PS_move rfl) ?_
  refine GL_step rfl (PS_nilCheck rfl) ?_
  refine GL_step rfl (PS_fieldAddr fa57_1 rfl) ?_
  refine GL_step rfl (PS_load rfl tys55 (.head _) BldV.l1 rfl rfl) ?_
  refine GL_step rfl (PS_move rfl) ?_
  refine GL_bs1 rfl Tryd.underlying55 sz5 zv5 rfl (by decide) (by decide) rfl rfl rfl (fun b1 => ?_)
  refine GL_appendG rfl Tryd.underlying55 sz5 zv5 rfl by5 (by decide) (by decide) rfl rfl (fun w hS => Src.sliceT Tryd.underlying55 ((Kn.own (.head _)) w hS)) (by intro v hv; simp at hv; subst hv; rfl) (by dsimp only; omega) (fun _ => (.tail (.tail .head))) (fun h2 h2l h2z => ?_)
  have h2z := h2z hz; dsimp only at h2l
  refine GL_step rfl (PS_nilCheck rfl) ?_
  refine GL_step rfl (PS_fieldAddr fa57_1 rfl) ?_
  refine GL_unit (PU_store BldV.l1 rfl rfl rfl sz55 rfl (.tail .head)) ?_
  refine GL_nil ?_
  refine GQ_sub (.nil _) ?_
  refine GQ_then ?_
  refine G_seq ?_
  refine G_region ?_
  refine GL_step rfl (PS_assign rfl) ?_
  refine GL_nil ?_
  refine GQ_then ?_
  refine G_ret ?_
  refine GQ_ret rfl (.tmp rfl .nil) ?_
  intro w1 hS
  have hS := (hS.perm (Pulls.perm (.cons (.tail .head) (.cons (.tail .head) .nil)))).headL
  exact ⟨_, ⟨_, _, rfl, .inr rfl, by assumption, by simp; omega, by rw [List.flatMap_append]; rfl⟩, hS⟩
theorem strings_Builder_WriteString_spec (b : Nat) (p : Option Addr) (h : Hd) (s : Str) (hp : p = none ∨ p = some ⟨b, 0, none⟩) (hz : h.Z) (hl : h.len = s.length) (t : Str) (hb : s.length + t.length < 140737488355000) : Ctr Tryd.prog 30 #[.pointer (some ⟨b, 0, none⟩), vstr t] [Res.box b 57 (BldV.enc ⟨p, h⟩), Res.own h 5 1 (s.flatMap encY)] (fun v B => ∃ p' h', v = .tuple #[.int .i64 t.length, .nilIface] ∧ (p' = none ∨ p' = some ⟨b, 0, none⟩) ∧ h'.Z ∧ h'.len = (s ++ t).length ∧ B = [Res.box b 57 (BldV.enc ⟨p', h'⟩), Res.own h' 5 1 ((s ++ t).flatMap encY)]) := by
  intro w hS0
  refine Ret_body _ _ Tryd.func30 rfl rfl rfl (hS0) ?_
  refine G_seq ?_
  refine G_region ?_
  refine GL_step rfl (PS_assign rfl) ?_
  refine GL_step rfl (PS_assign rfl) ?_
  refine GL_nil ?_
  refine GQ_sub (.cons (k := 0) rfl (.cons (k := 1) rfl (.nil _))) ?_
  refine GQ_then ?_
  refine G_seq ?_
  refine G_region ?_
  refine GL_step rfl (PS_move rfl) ?_
  refine GL_callL rfl cf38 (.cons rfl .nil) (.cons .head .nil) (strings_Builder_copyCheck_spec _ _ _ (by first | assumption | omega)) (fun v1 B hv => ?_)
  obtain ⟨rfl, rfl⟩ := hv
  refine GL_nil ?_
  refine GQ_sub (.cons (k := 0) rfl (.cons (k := 1) rfl (.nil _))) ?_
  refine GQ_then ?_
  refine G_seq ?_
  refine G_region ?_
  refine GL_step rfl (PS_move rfl) ?_
  refine GL_step rfl (PS_move rfl) ?_
  refine GL_step rfl (PS_nilCheck rfl) ?_
  refine GL_step rfl (PS_fieldAddr fa57_1 rfl) ?_
  refine GL_step rfl (PS_load rfl tys55 (.head _) BldV.l1 rfl rfl) ?_
  refine GL_step rfl (PS_move rfl) ?_
  refine GL_appendF flY rfl Tryd.underlying55 sz5 zv5 rfl by5 (by decide) (by decide) rfl rfl (fun _ _ => Src.str Tryd.underlying9) (by dsimp only; omega) (fun _ => (.tail .head)) (fun h2 h2l h2z => ?_)
  have h2z := h2z hz; dsimp only at h2l
  refine GL_step rfl (PS_nilCheck rfl) ?_
  refine GL_step rfl (PS_fieldAddr fa57_1 rfl) ?_
  refine GL_unit (PU_store BldV.l1 rfl rfl rfl sz55 rfl .head) ?_
  refine GL_nil ?_
  refine GQ_sub (.cons (k := 1) rfl (.nil _)) ?_
  refine GQ_then ?_
  refine G_seq ?_
  refine G_region ?_
  refine GL_step rfl (PS_move rfl) ?_
  refine GL_step rfl (PS_len_str rfl Tryd.underlying9 rfl) ?_
  refine GL_step rfl (PS_assign rfl) ?_
  refine GL_step rfl (PS_assign rfl) ?_
  refine GL_nil ?_
  refine GQ_sub (.cons (k := 4) rfl (.cons (k := 5) rfl (.nil _))) ?_
  refine GQ_then ?_
  refine G_ret ?_
  refine GQ_ret rfl (.tmp rfl (.tmp rfl .nil)) ?_
  intro w1 hS
  have hS := (hS.perm (Pulls.perm (.cons .head (.cons .head .nil)))).headL
  exact ⟨_, ⟨_, _, rfl, .inr rfl, by assumption, by simp; omega, by rw [List.flatMap_append]⟩, hS⟩
theorem strings_Builder_String_spec (b : Nat) (p : Option Addr) (h : Hd) (s : Str) (hz : h.Z) (hl : h.len = s.length) (hb : s.length < 140737488355000) : Ctr Tryd.prog 33 #[.pointer (some ⟨b, 0, none⟩)] [Res.box b 57 (BldV.enc ⟨p, h⟩), Res.own h 5 1 (s.flatMap encY)] (fun v B => v = vstr s ∧ B = [Res.box b 57 (BldV.enc ⟨p, h⟩)]) := by
  intro w hS0
  refine Ret_body _ _ Tryd.func33 rfl rfl rfl (hS0) ?_
  refine G_seq ?_
  refine G_region ?_
  refine GL_step rfl (PS_assign rfl) ?_
  refine GL_nil ?_
  refine GQ_sub (.cons (k := 0) rfl (.nil _)) ?_
  refine GQ_then ?_
  refine G_seq ?_
  refine G_planN (N := 12) [0, 1, 3, 7, 15, 0, 32, 96, 224, 480, 1023, 2047] mix (by kernel_rfl) rfl ?_
  refine Plan_float 0 rfl rfl (by kernel_rfl) (OK_s (EX_s (PS_move rfl))) ?_
  refine Plan_float 1 rfl rfl (by kernel_rfl) (OK_s (EX_s (PS_nilCheck rfl))) ?_
  refine Plan_float 2 rfl rfl (by kernel_rfl) (OK_s (EX_s (PS_fieldAddr fa57_1 rfl))) ?_
  refine Plan_float 3 rfl rfl (by kernel_rfl) (OK_s (EX_s (PS_load rfl tys55 (.head _) BldV.l1 rfl rfl))) ?_
  refine Plan_float 4 rfl rfl (by kernel_rfl) (OK_s (EX_s (PS_sliceData rfl (by assumption)))) ?_
  refine Plan_float 5 rfl rfl (by kernel_rfl) (OK_s (EX_s (PS_move rfl))) ?_
  refine Plan_float 6 rfl rfl (by kernel_rfl) (OK_s (EX_s (PS_nilCheck rfl))) ?_
  refine Plan_float 7 rfl rfl (by kernel_rfl) (OK_s (EX_s (PS_fieldAddr fa57_1 rfl))) ?_
  refine Plan_float 8 rfl rfl (by kernel_rfl) (OK_s (EX_s (PS_load rfl tys55 (.head _) BldV.l1 rfl rfl))) ?_
  refine Plan_float 9 rfl rfl (by kernel_rfl) (OK_s (EX_s (PS_len_slice rfl Tryd.underlying55 rfl))) ?_
  refine Plan_chain 10 rfl (by kernel_rfl) ?_
  refine GL_unsafeString rfl Tryd.underlying71 ce5 rfl rfl (by assumption) (by omega) (.tail .head) ?_
  refine GL_hand rfl ⟨?_, ?_⟩
  · exact (Pend_skip (by kernel_rfl) (Pend_skip (by kernel_rfl) (Pend_skip (by kernel_rfl) (Pend_skip (by kernel_rfl) (Pend_skip (by kernel_rfl) (Pend_skip (by kernel_rfl) (Pend_skip (by kernel_rfl) (Pend_skip (by kernel_rfl) (Pend_skip (by kernel_rfl) (Pend_skip (by kernel_rfl) Pend_nil))))))))))
  refine Plan_float 11 rfl rfl (by kernel_rfl) (OK_s (EX_s (PS_assign rfl))) ?_
  refine Plan_end (by kernel_rfl) ?_
  refine GQ_sub (.cons (k := 2) rfl (.nil _)) ?_
  refine GQ_then ?_
  refine G_ret ?_
  refine GQ_ret rfl (.tmp rfl .nil) ?_
  intro w1 hS
  have hS := (hS.perm (Pulls.perm (.cons .head .nil))).headL
  exact ⟨_, ⟨rfl, rfl⟩, hS⟩
theorem sense_Tell_spec (e : Ing.Event) (hk : e.kind = 7) (ha : e.actor = 0) (ho : e.other = -1) (hy : e.by_.at 0 = 1) (hu : e.text.length ≤ 1000000) (w : World) : Ret Tryd.prog 19 #[.agg e.enc.toArray, .int .i64 0] w fun v w' => v = .tuple #[vstr (Land.said e.text 10), .bool true] ∧ Keep w w' := by
  refine Ret_body [] [] Tryd.func19 rfl rfl rfl (St.start w []) ?_
  refine G_seq ?_
  refine G_region ?_
  refine GL_box rfl rfl rfl (fun b1 => ?_)
  refine GL_step rfl (PS_assign rfl) ?_
  refine GL_step rfl (PS_assign rfl) ?_
  refine GL_nil ?_
  refine GQ_sub (.cons (k := 1) rfl (.cons (k := 2) rfl (.nil _))) ?_
  refine GQ_then ?_
  refine G_seq ?_
  refine G_seq ?_
  refine G_region ?_
  refine GL_step rfl (PS_move rfl) ?_
  refine GL_step rfl (PS_lss rfl rfl) ?_
  refine GL_step rfl (PS_move rfl) ?_
  refine GL_gf (t := 17) rfl rfl rfl (fun q => PS_move rfl) ?_
  refine GL_gf (t := 17) rfl rfl rfl (fun q => PS_geq (cvE rfl (by rw [q]; rfl)) rfl) ?_
  refine GL_step rfl (PS_or rfl rfl (fun h => by rw [h]; rfl)) ?_
  refine GL_step rfl (PS_move rfl) ?_
  refine GL_gf (t := 21) rfl rfl rfl (fun q => PS_move rfl) ?_
  refine GL_gf (t := 21) rfl rfl rfl (fun q => PS_fieldAddr fa36_10 rfl) ?_
  refine GL_gf (t := 21) rfl rfl rfl (fun q => by have q1 := q; (try simp at q1); exact PS_indexAddr ia22 (cvE rfl (by rw [q]; rfl)) (cvE rfl (by rw [q]; rfl)) (by have e10 : Land.sayT.length = 10 := rfl; omega) (by have e10 : Land.sayT.length = 10 := rfl; omega)) ?_
  refine GL_gf (t := 21) rfl rfl rfl (fun q => by have q1 := q; (try simp at q1); exact PS_load (cvE rfl (by rw [q]; rfl)) tys3 (.head _) (Ing.Event.l10.comp (Lens.arr (n := 6) flI (by have e10 : Land.sayT.length = 10 := rfl; omega) (by have e10 : Land.sayT.length = 10 := rfl; omega))) rfl rfl) ?_
  refine GL_gf (t := 21) rfl rfl rfl (fun q => by have q1 := q; (try simp at q1); exact PS_andb (cvE rfl (by rw [q]; rfl)) rfl (and_nat (by omega) (by omega) (by decide) (by decide))) ?_
  refine GL_gf (t := 21) rfl rfl rfl (fun q => PS_eql (cvE rfl (by rw [q]; rfl)) rfl) ?_
  refine GL_step rfl (PS_or rfl rfl (fun h => by rw [h]; rfl)) ?_
  refine GL_nil ?_
  refine GQ_sub (.cons (k := 1) rfl (.cons (k := 2) rfl (.cons (k := 28) rfl (.nil _)))) ?_
  refine GQ_then ?_
  refine G_false rfl (by rw [hy]; rfl) ?_
  refine G_skip ?_
  refine GQ_sub (.cons (k := 1) rfl (.cons (k := 2) rfl (.nil _))) ?_
  refine GQ_then ?_
  refine G_seq ?_
  refine G_region ?_
  refine GL_step rfl (PS_fieldAddr fa36_0 rfl) ?_
  refine GL_step rfl (PS_load rfl tys3 (.head _) Ing.Event.l0 rfl rfl) ?_
  refine GL_pure rfl cf28 (.cons rfl .nil) (fun w hS => sense_form_spec _ hk w) ?_
  refine GL_step rfl (PS_move rfl) ?_
  refine GL_step rfl (PS_extract rfl rfl) ?_
  refine GL_step rfl (PS_extract rfl rfl) ?_
  refine GL_step rfl (PS_assign rfl) ?_
  refine GL_step rfl (PS_assign rfl) ?_
  refine GL_nil ?_
  refine GQ_sub (.cons (k := 1) rfl (.cons (k := 2) rfl (.cons (k := 6) rfl (.cons (k := 7) rfl (.nil _))))) ?_
  refine GQ_then ?_
  refine G_seq ?_
  refine G_region ?_
  refine GL_step rfl (PS_move rfl) ?_
  refine GL_step rfl (PS_assign rfl) ?_
  refine GL_nil ?_
  refine GQ_sub (.cons (k := 1) rfl (.cons (k := 2) rfl (.cons (k := 6) rfl (.cons (k := 8) rfl (.nil _))))) ?_
  refine GQ_then ?_
  refine G_seq ?_
  refine G_seq ?_
  refine G_region ?_
  refine GL_step rfl (PS_move rfl) ?_
  refine GL_step rfl (PS_fieldAddr fa36_2 rfl) ?_
  refine GL_step rfl (PS_load rfl tys3 (.head _) Ing.Event.l2 rfl rfl) ?_
  refine GL_step rfl (PS_eql rfl rfl) ?_
  refine GL_nil ?_
  refine GQ_sub (.cons (k := 1) rfl (.cons (k := 2) rfl (.cons (k := 6) rfl (.cons (k := 8) rfl (.cons (k := 39) rfl (.nil _)))))) ?_
  refine GQ_then ?_
  refine G_true rfl (by rw [ha]; rfl) ?_
  refine G_region ?_
  refine GL_step rfl (PS_move rfl) ?_
  refine GL_step rfl (PS_assign rfl) ?_
  refine GL_nil ?_
  refine GQ_sub (.cons (k := 1) rfl (.cons (k := 2) rfl (.cons (k := 8) rfl (.nil _)))) ?_
  refine GQ_then ?_
  refine G_seq ?_
  refine G_seq ?_
  refine G_region ?_
  refine GL_step rfl (PS_move rfl) ?_
  refine GL_step rfl (PS_eql_str rfl rfl) ?_
  refine GL_nil ?_
  refine GQ_sub (.cons (k := 1) rfl (.cons (k := 2) rfl (.cons (k := 8) rfl (.cons (k := 42) rfl (.nil _))))) ?_
  refine GQ_then ?_
  refine G_false rfl rfl ?_
  refine G_skip ?_
  refine GQ_sub (.cons (k := 1) rfl (.cons (k := 2) rfl (.cons (k := 8) rfl (.nil _)))) ?_
  refine GQ_then ?_
  refine G_seq ?_
  refine G_planN (N := 6) [0, 1, 0, 4, 3, 31] mix (by kernel_rfl) rfl ?_
  refine Plan_float 0 rfl rfl (by kernel_rfl) (OK_s (EX_s (PS_fieldAddr fa36_6 rfl))) ?_
  refine Plan_float 1 rfl rfl (by kernel_rfl) (OK_s (EX_s (PS_load rfl tys9 (.head _) Ing.Event.l6 rfl rfl))) ?_
  refine Plan_float 2 rfl rfl (by kernel_rfl) (OK_s (EX_s (PS_fieldAddr fa36_7 rfl))) ?_
  refine Plan_float 3 rfl rfl (by kernel_rfl) (OK_s (EX_s (PS_load rfl tys9 (.head _) Ing.Event.l7 rfl rfl))) ?_
  refine Plan_float 4 rfl rfl (by kernel_rfl) (OK_s (EX_s (PS_assign rfl))) ?_
  refine Plan_float 5 rfl rfl (by kernel_rfl) (OK_s (EX_s (PS_assign rfl))) ?_
  refine Plan_end (by kernel_rfl) ?_
  refine GQ_sub (.cons (k := 1) rfl (.cons (k := 2) rfl (.cons (k := 8) rfl (.cons (k := 9) rfl (.cons (k := 10) rfl (.nil _)))))) ?_
  refine GQ_then ?_
  refine G_seq ?_
  refine G_seq ?_
  refine G_region ?_
  refine GL_step rfl (PS_move rfl) ?_
  refine GL_step rfl (PS_fieldAddr fa36_10 rfl) ?_
  refine GL_step rfl (PS_indexAddr ia22 rfl rfl (by have e10 : Land.sayT.length = 10 := rfl; omega) (by have e10 : Land.sayT.length = 10 := rfl; omega)) ?_
  refine GL_step rfl (PS_load rfl tys3 (.head _) (Ing.Event.l10.comp (Lens.arr (n := 6) flI (by have e10 : Land.sayT.length = 10 := rfl; omega) (by have e10 : Land.sayT.length = 10 := rfl; omega))) rfl rfl) ?_
  refine GL_step rfl (PS_andb rfl rfl (and_nat (by omega) (by omega) (by decide) (by decide))) ?_
  refine GL_step rfl (PS_neq rfl rfl) ?_
  refine GL_nil ?_
  refine GQ_sub (.cons (k := 1) rfl (.cons (k := 2) rfl (.cons (k := 8) rfl (.cons (k := 9) rfl (.cons (k := 10) rfl (.cons (k := 52) rfl (.nil _))))))) ?_
  refine GQ_then ?_
  refine G_false rfl (by rw [hy]; rfl) ?_
  refine G_skip ?_
  refine GQ_sub (.cons (k := 1) rfl (.cons (k := 2) rfl (.cons (k := 8) rfl (.cons (k := 9) rfl (.cons (k := 10) rfl (.nil _)))))) ?_
  refine GQ_then ?_
  refine G_seq ?_
  refine G_seq ?_
  refine G_region ?_
  refine GL_step rfl (PS_move rfl) ?_
  refine GL_step rfl (PS_fieldAddr fa36_10 rfl) ?_
  refine GL_step rfl (PS_indexAddr ia22 rfl rfl (by have e10 : Land.sayT.length = 10 := rfl; omega) (by have e10 : Land.sayT.length = 10 := rfl; omega)) ?_
  refine GL_step rfl (PS_load rfl tys3 (.head _) (Ing.Event.l10.comp (Lens.arr (n := 6) flI (by have e10 : Land.sayT.length = 10 := rfl; omega) (by have e10 : Land.sayT.length = 10 := rfl; omega))) rfl rfl) ?_
  refine GL_step rfl (PS_andb rfl rfl (and_nat (by omega) (by omega) (by decide) (by decide))) ?_
  refine GL_step rfl (PS_neq rfl rfl) ?_
  refine GL_nil ?_
  refine GQ_sub (.cons (k := 1) rfl (.cons (k := 2) rfl (.cons (k := 8) rfl (.cons (k := 9) rfl (.cons (k := 10) rfl (.cons (k := 58) rfl (.nil _))))))) ?_
  refine GQ_then ?_
  refine G_false rfl (by rw [hy]; rfl) ?_
  refine G_skip ?_
  refine GQ_sub (.cons (k := 1) rfl (.cons (k := 2) rfl (.cons (k := 8) rfl (.cons (k := 9) rfl (.cons (k := 10) rfl (.nil _)))))) ?_
  refine GQ_then ?_
  refine G_seq ?_
  refine G_seq ?_
  refine G_region ?_
  refine GL_step rfl (PS_move rfl) ?_
  refine GL_step rfl (PS_fieldAddr fa36_3 rfl) ?_
  refine GL_step rfl (PS_load rfl tys3 (.head _) Ing.Event.l3 rfl rfl) ?_
  refine GL_step rfl (PS_eql rfl rfl) ?_
  refine GL_nil ?_
  refine GQ_sub (.cons (k := 2) rfl (.cons (k := 8) rfl (.cons (k := 9) rfl (.cons (k := 10) rfl (.cons (k := 62) rfl (.nil _)))))) ?_
  refine GQ_then ?_
  refine G_false rfl (by rw [ho]; rfl) ?_
  refine G_skip ?_
  refine GQ_sub (.cons (k := 2) rfl (.cons (k := 8) rfl (.cons (k := 9) rfl (.cons (k := 10) rfl (.nil _))))) ?_
  refine GQ_then ?_
  refine G_seq ?_
  refine G_region ?_
  refine GL_alloc rfl zv57 rfl (fun b2 => ?_)
  refine GL_nilF encY 5 1 ?_
  refine GL_nil ?_
  refine GQ_then ?_
  refine G_seq ?_
  refine G_seq ?_
  refine G_region ?_
  refine GL_step rfl (PS_move rfl) ?_
  refine GL_step rfl (PS_len_str rfl Tryd.underlying9 rfl) ?_
  refine GL_step rfl (PS_move rfl) ?_
  refine GL_nil ?_
  refine GQ_sub (.cons (k := 2) rfl (.cons (k := 8) rfl (.cons (k := 9) rfl (.cons (k := 10) rfl (.cons (k := 11) rfl (.cons (k := 64) rfl (.cons (k := 65) rfl (.nil _)))))))) ?_
  refine GQ_then ?_
  refine G_block ?_
  refine G_subF (.cons (k := 65) rfl (.cons (k := 2) rfl (.cons (k := 8) rfl (.cons (k := 9) rfl (.cons (k := 10) rfl (.cons (k := 11) rfl (.cons (k := 64) rfl (.nil _)))))))) ?_
  refine G_pull (.tail .head) ?_
  refine G_pull (.tail .head) ?_
  refine G_loop4_ (fun (k : Int) (x : Str) (p : Option Addr) (h : Hd) => 0 ≤ k ∧ k ≤ 10 ∧ x = Land.said e.text k ∧ (p = none ∨ p = some ⟨b2, 0, none⟩) ∧ h.Z ∧ h.len = x.length) (fun (k : Int) (x : Str) (p : Option Addr) (h : Hd) => (10 - k).toNat) (fun (k : Int) (x : Str) (p : Option Addr) (h : Hd) => [(65, .int .i64 k)]) (fun (k : Int) (x : Str) (p : Option Addr) (h : Hd) => [Res.own h 5 1 (x.flatMap encY), Res.box b2 57 (BldV.enc ⟨p, h⟩)]) (0) ([]) (none) (⟨none, 0, 0⟩) ?_ rfl rfl (fun k x p h hI1 => ?_)
  · exact ⟨by omega, by omega, rfl, .inl rfl, Hd.Z_nil, rfl⟩
  obtain ⟨hI11, hI12, hI13, hp, hz, hl⟩ := hI1
  refine G_seq ?_
  refine G_region ?_
  refine GL_step rfl (PS_lss rfl rfl) ?_
  refine GL_nil ?_
  refine GQ_then ?_
  refine G_seq ?_
  refine G_cond rfl (fun c1 => ?_) (fun c1 => ?_)
  · skip
    have c1p := c1
    try simp only [decide_eq_true_eq, decide_eq_false_iff_not, Bool.not_eq_true', Bool.not_eq_false', Bool.or_eq_true, Bool.and_eq_true, Bool.or_eq_false_iff, Bool.and_eq_false_iff, Int.not_lt, Int.not_le] at c1p
    have e10 : Land.sayT.length = 10 := rfl
    have hk10 : k < 10 := by omega
    refine G_skip ?_
    refine GQ_sub (.cons (k := 2) rfl (.cons (k := 8) rfl (.cons (k := 9) rfl (.cons (k := 10) rfl (.cons (k := 11) rfl (.cons (k := 64) rfl (.cons (k := 65) rfl (.nil _)))))))) ?_
    refine GQ_then ?_
    refine G_seq ?_
    refine G_block ?_
    refine G_seq ?_
    refine G_region ?_
    refine GL_step rfl (PS_move rfl) ?_
    refine GL_step rfl (PS_assign rfl) ?_
    refine GL_nil ?_
    refine GQ_sub (.cons (k := 2) rfl (.cons (k := 8) rfl (.cons (k := 9) rfl (.cons (k := 10) rfl (.cons (k := 11) rfl (.cons (k := 12) rfl (.cons (k := 64) rfl (.cons (k := 65) rfl (.nil _))))))))) ?_
    refine GQ_then ?_
    refine G_seq ?_
    refine G_region ?_
    refine GL_step rfl (PS_move rfl) ?_
    refine GL_step rfl (PS_move rfl) ?_
    refine GL_step rfl (PS_index_str Tryd.underlying9 rfl rfl (by have e10 : Land.sayT.length = 10 := rfl; omega) (by have e10 : Land.sayT.length = 10 := rfl; omega)) ?_
    refine GL_step rfl (PS_assign rfl) ?_
    refine GL_nil ?_
    refine GQ_sub (.cons (k := 2) rfl (.cons (k := 8) rfl (.cons (k := 9) rfl (.cons (k := 10) rfl (.cons (k := 11) rfl (.cons (k := 12) rfl (.cons (k := 13) rfl (.cons (k := 64) rfl (.cons (k := 65) rfl (.nil _)))))))))) ?_
    refine GQ_then ?_
    refine G_seq ?_
    refine G_region ?_
    refine GL_step rfl (PS_move rfl) ?_
    refine GL_step rfl (PS_eql rfl rfl) ?_
    refine GL_step rfl (PS_move rfl) ?_
    refine GL_gf (t := 73) rfl rfl rfl (fun q => PS_move rfl) ?_
    refine GL_gf (t := 73) rfl rfl rfl (fun q => PS_move rfl) ?_
    refine GL_gf (t := 73) rfl rfl rfl (fun q => by have q1 := q; (try simp at q1); exact PS_sub (cvE rfl (by rw [q]; rfl)) rfl (IntWalk.i64_in _ (by have e10 : Land.sayT.length = 10 := rfl; omega))) ?_
    refine GL_gf (t := 73) rfl rfl rfl (fun q => by have q1 := q; (try simp at q1); exact PS_index_str Tryd.underlying9 (cvE rfl (by rw [q]; rfl)) (cvE rfl (by rw [q]; rfl)) (by have e10 : Land.sayT.length = 10 := rfl; omega) (by have e10 : Land.sayT.length = 10 := rfl; omega)) ?_
    refine GL_gf (t := 73) rfl rfl rfl (fun q => PS_eql (cvE rfl (by rw [q]; rfl)) rfl) ?_
    refine GL_step rfl (PS_or rfl rfl (fun h => by rw [h]; rfl)) ?_
    refine GL_step rfl (PS_move rfl) ?_
    refine GL_gt (t := 80) rfl rfl rfl (fun q => PS_move rfl) ?_
    refine GL_gt (t := 80) rfl rfl rfl (fun q => by have q1 := q; (try simp at q1); exact PS_add (cvE rfl q) rfl (IntWalk.i64_in _ (by have e10 : Land.sayT.length = 10 := rfl; omega))) ?_
    refine GL_gt (t := 80) rfl rfl rfl (fun q => PS_move rfl) ?_
    refine GL_gt (t := 80) rfl rfl rfl (fun q => PS_len_str rfl Tryd.underlying9 (cvE rfl q)) ?_
    refine GL_gt (t := 80) rfl rfl rfl (fun q => PS_eql (cvE rfl q) (cvE rfl q)) ?_
    refine GL_gt (t := 80) rfl rfl rfl (fun q => PS_move (cvE rfl q)) ?_
    refine GL_gfc (t := 86) rfl rfl rfl (fun qc q => PS_move rfl) ?_
    refine GL_gfc (t := 86) rfl rfl rfl (fun qc q => PS_move rfl) ?_
    refine GL_gfc (t := 86) rfl rfl rfl (fun qc q => by have q1 := q; have qc1 := qc; (try simp at q1 qc1); exact PS_add (cvE rfl (by rw [qc, q]; rfl)) rfl (IntWalk.i64_in _ (by have e10 : Land.sayT.length = 10 := rfl; omega))) ?_
    refine GL_gfc (t := 86) rfl rfl rfl (fun qc q => by have q1 := q; have qc1 := qc; (try simp at q1 qc1); exact PS_index_str Tryd.underlying9 (cvE rfl (by rw [qc, q]; rfl)) (cvE rfl (by rw [qc, q]; rfl)) (by have e10 : Land.sayT.length = 10 := rfl; omega) (by have e10 : Land.sayT.length = 10 := rfl; omega)) ?_
    refine GL_gfc (t := 86) rfl rfl rfl (fun qc q => PS_eql (cvE rfl (by rw [qc, q]; rfl)) rfl) ?_
    refine GL_gt (t := 80) rfl rfl rfl (fun q => PS_or (cvE rfl q) rfl (fun h => by rw [q, h]; rfl)) ?_
    refine GL_gt (t := 80) rfl rfl rfl (fun q => PS_move (cvE rfl q)) ?_
    refine GL_gfc (t := 93) rfl rfl rfl (fun qc q => PS_move rfl) ?_
    refine GL_gfc (t := 93) rfl rfl rfl (fun qc q => PS_move rfl) ?_
    refine GL_gfc (t := 93) rfl rfl rfl (fun qc q => by have q1 := q; have qc1 := qc; (try simp at q1 qc1); exact PS_add (cvE rfl (by rw [qc, q]; rfl)) rfl (IntWalk.i64_in _ (by have e10 : Land.sayT.length = 10 := rfl; omega))) ?_
    refine GL_gfc (t := 93) rfl rfl rfl (fun qc q => by have q1 := q; have qc1 := qc; (try simp at q1 qc1); exact PS_index_str Tryd.underlying9 (cvE rfl (by rw [qc, q]; rfl)) (cvE rfl (by rw [qc, q]; rfl)) (by have e10 : Land.sayT.length = 10 := rfl; omega) (by have e10 : Land.sayT.length = 10 := rfl; omega)) ?_
    refine GL_gfc (t := 93) rfl rfl rfl (fun qc q => PS_eql (cvE rfl (by rw [qc, q]; rfl)) rfl) ?_
    refine GL_gt (t := 80) rfl rfl rfl (fun q => PS_or (cvE rfl q) rfl (fun h => by rw [q, h]; rfl)) ?_
    refine GL_step rfl (PS_and rfl rfl (fun h => h)) ?_
    refine GL_step rfl (PS_assign rfl) ?_
    refine GL_nil ?_
    refine GQ_sub (.cons (k := 2) rfl (.cons (k := 8) rfl (.cons (k := 9) rfl (.cons (k := 10) rfl (.cons (k := 11) rfl (.cons (k := 13) rfl (.cons (k := 14) rfl (.cons (k := 64) rfl (.cons (k := 65) rfl (.nil _)))))))))) ?_
    refine GQ_then ?_
    refine G_block ?_
    refine G_seq ?_
    refine G_region ?_
    refine GL_step rfl (PS_move rfl) ?_
    refine GL_step rfl (PS_not rfl) ?_
    refine GL_step rfl (PS_assign rfl) ?_
    refine GL_nil ?_
    refine GQ_sub (.cons (k := 2) rfl (.cons (k := 8) rfl (.cons (k := 9) rfl (.cons (k := 10) rfl (.cons (k := 11) rfl (.cons (k := 13) rfl (.cons (k := 64) rfl (.cons (k := 65) rfl (.cons (k := 103) rfl (.nil _)))))))))) ?_
    refine GQ_then ?_
    refine G_cond rfl (fun c2 => ?_) (fun c2 => ?_)
    · skip
      have c2p := c2
      try simp only [decide_eq_true_eq, decide_eq_false_iff_not, Bool.not_eq_true', Bool.not_eq_false', Bool.or_eq_true, Bool.and_eq_true, Bool.or_eq_false_iff, Bool.and_eq_false_iff, Int.not_lt, Int.not_le] at c2p
      have hk9 : k ≠ 9 := by rintro rfl; exact absurd c2 (by decide)
      have hxl : x.length ≤ 10 := by rw [hI13]; exact Land.said_len _ (by omega)
      refine G_region ?_
      refine GL_step rfl (PS_move rfl) ?_
      refine GL_callL rfl cf29 (.cons rfl (.cons rfl .nil)) (.cons (.tail .head) (.cons .head .nil)) (strings_Builder_WriteByte_spec _ _ _ _ (by assumption) (by assumption) (by assumption) _ (by omega)) (fun v1 B hv => ?_)
      obtain ⟨y2, y3, rfl, y4, y5, y6, rfl⟩ := hv
      refine GL_nil ?_
      refine GQ_sub (.cons (k := 2) rfl (.cons (k := 8) rfl (.cons (k := 9) rfl (.cons (k := 10) rfl (.cons (k := 11) rfl (.cons (k := 64) rfl (.cons (k := 65) rfl (.nil _)))))))) ?_
      refine GQ_block ?_
      refine GQ_block ?_
      refine GQ_then ?_
      refine G_region ?_
      refine GL_step rfl (PS_add rfl rfl (IntWalk.i64_in _ (by have e10 : Land.sayT.length = 10 := rfl; omega))) ?_
      refine GL_step rfl (PS_move rfl) ?_
      refine GL_nil ?_
      refine GQ_sub (.cons (k := 2) rfl (.cons (k := 8) rfl (.cons (k := 9) rfl (.cons (k := 10) rfl (.cons (k := 11) rfl (.cons (k := 64) rfl (.cons (k := 65) rfl (.nil _)))))))) ?_
      refine GQ_pulls (.cons (.tail .head) (.cons .head (.cons .head .nil))) ?_
      refine GQ_dropr ?_
      refine GQ_next4_ (k + 1) _ _ _ ?_ ?_ (.cons (k := 65) rfl (.cons (k := 2) rfl (.cons (k := 8) rfl (.cons (k := 9) rfl (.cons (k := 10) rfl (.cons (k := 11) rfl (.cons (k := 64) rfl (.nil _)))))))) (.refl _)
      · exact ⟨by omega, by omega, by rw [hI13]; exact Land.said_next hI11 (by omega), by assumption, by assumption, by assumption⟩
      · omega
    · skip
      have c2p := c2
      try simp only [decide_eq_true_eq, decide_eq_false_iff_not, Bool.not_eq_true', Bool.not_eq_false', Bool.or_eq_true, Bool.and_eq_true, Bool.or_eq_false_iff, Bool.and_eq_false_iff, Int.not_lt, Int.not_le] at c2p
      have hk9 : k = 9 := Classical.byContradiction fun hn => absurd c2 (by rw [Land.say_lt hI11 (by omega)]; decide)
      have hxl : x.length ≤ 10 := by rw [hI13]; exact Land.said_len _ (by omega)
      refine G_seq ?_
      refine G_region ?_
      refine GL_step rfl (PS_move rfl) ?_
      refine GL_step rfl (PS_eql rfl rfl) ?_
      refine GL_step rfl (PS_assign rfl) ?_
      refine GL_nil ?_
      refine GQ_sub (.cons (k := 2) rfl (.cons (k := 8) rfl (.cons (k := 9) rfl (.cons (k := 10) rfl (.cons (k := 11) rfl (.cons (k := 13) rfl (.cons (k := 64) rfl (.cons (k := 65) rfl (.cons (k := 108) rfl (.nil _)))))))))) ?_
      refine GQ_then ?_
      refine G_false rfl (by rw [hk9]; rfl) ?_
      refine G_seq ?_
      refine G_region ?_
      refine GL_step rfl (PS_move rfl) ?_
      refine GL_step rfl (PS_eql rfl rfl) ?_
      refine GL_step rfl (PS_assign rfl) ?_
      refine GL_nil ?_
      refine GQ_sub (.cons (k := 2) rfl (.cons (k := 8) rfl (.cons (k := 9) rfl (.cons (k := 10) rfl (.cons (k := 11) rfl (.cons (k := 13) rfl (.cons (k := 64) rfl (.cons (k := 65) rfl (.cons (k := 113) rfl (.nil _)))))))))) ?_
      refine GQ_then ?_
      refine G_false rfl (by rw [hk9]; rfl) ?_
      refine G_seq ?_
      refine G_region ?_
      refine GL_step rfl (PS_move rfl) ?_
      refine GL_step rfl (PS_eql rfl rfl) ?_
      refine GL_step rfl (PS_assign rfl) ?_
      refine GL_nil ?_
      refine GQ_sub (.cons (k := 2) rfl (.cons (k := 8) rfl (.cons (k := 9) rfl (.cons (k := 10) rfl (.cons (k := 11) rfl (.cons (k := 13) rfl (.cons (k := 64) rfl (.cons (k := 65) rfl (.cons (k := 118) rfl (.nil _)))))))))) ?_
      refine GQ_then ?_
      refine G_false rfl (by rw [hk9]; rfl) ?_
      refine G_seq ?_
      refine G_region ?_
      refine GL_step rfl (PS_move rfl) ?_
      refine GL_step rfl (PS_eql rfl rfl) ?_
      refine GL_step rfl (PS_assign rfl) ?_
      refine GL_nil ?_
      refine GQ_sub (.cons (k := 2) rfl (.cons (k := 8) rfl (.cons (k := 9) rfl (.cons (k := 10) rfl (.cons (k := 11) rfl (.cons (k := 13) rfl (.cons (k := 64) rfl (.cons (k := 65) rfl (.cons (k := 124) rfl (.nil _)))))))))) ?_
      refine GQ_then ?_
      refine G_false rfl (by rw [hk9]; rfl) ?_
      refine G_seq ?_
      refine G_region ?_
      refine GL_step rfl (PS_move rfl) ?_
      refine GL_step rfl (PS_eql rfl rfl) ?_
      refine GL_step rfl (PS_assign rfl) ?_
      refine GL_nil ?_
      refine GQ_sub (.cons (k := 2) rfl (.cons (k := 8) rfl (.cons (k := 9) rfl (.cons (k := 10) rfl (.cons (k := 11) rfl (.cons (k := 13) rfl (.cons (k := 64) rfl (.cons (k := 65) rfl (.cons (k := 131) rfl (.nil _)))))))))) ?_
      refine GQ_then ?_
      refine G_true rfl (by rw [hk9]; rfl) ?_
      refine G_region ?_
      refine GL_step rfl (PS_fieldAddr fa36_9 rfl) ?_
      refine GL_step rfl (PS_load rfl tys9 (.tail _ (.tail _ (.head _))) Ing.Event.l9 rfl rfl) ?_
      refine GL_callL rfl cf30 (.cons rfl (.cons rfl .nil)) (.cons (.tail .head) (.cons .head .nil)) (strings_Builder_WriteString_spec _ _ _ _ (by assumption) (by assumption) (by assumption) _ (by omega)) (fun v7 B hv => ?_)
      obtain ⟨y8, y9, rfl, y10, y11, y12, rfl⟩ := hv
      refine GL_nil ?_
      refine GQ_sub (.cons (k := 2) rfl (.cons (k := 8) rfl (.cons (k := 9) rfl (.cons (k := 10) rfl (.cons (k := 11) rfl (.cons (k := 64) rfl (.cons (k := 65) rfl (.nil _)))))))) ?_
      refine GQ_block ?_
      refine GQ_block ?_
      refine GQ_then ?_
      refine G_region ?_
      refine GL_step rfl (PS_add rfl rfl (IntWalk.i64_in _ (by have e10 : Land.sayT.length = 10 := rfl; omega))) ?_
      refine GL_step rfl (PS_move rfl) ?_
      refine GL_nil ?_
      refine GQ_sub (.cons (k := 2) rfl (.cons (k := 8) rfl (.cons (k := 9) rfl (.cons (k := 10) rfl (.cons (k := 11) rfl (.cons (k := 64) rfl (.cons (k := 65) rfl (.nil _)))))))) ?_
      refine GQ_pulls (.cons (.tail .head) (.cons .head (.cons .head .nil))) ?_
      refine GQ_dropr ?_
      refine GQ_next4_ (k + 1) _ _ _ ?_ ?_ (.cons (k := 65) rfl (.cons (k := 2) rfl (.cons (k := 8) rfl (.cons (k := 9) rfl (.cons (k := 10) rfl (.cons (k := 11) rfl (.cons (k := 64) rfl (.nil _)))))))) (.refl _)
      · exact ⟨by omega, by omega, by rw [hI13, hk9]; rfl, by assumption, by assumption, by assumption⟩
      · omega
  · skip
    have c1p := c1
    try simp only [decide_eq_true_eq, decide_eq_false_iff_not, Bool.not_eq_true', Bool.not_eq_false', Bool.or_eq_true, Bool.and_eq_true, Bool.or_eq_false_iff, Bool.and_eq_false_iff, Int.not_lt, Int.not_le] at c1p
    have e10 : Land.sayT.length = 10 := rfl
    obtain rfl : k = 10 := by omega
    have hxl : x.length ≤ 2000000 := by rw [hI13]; show (Land.sayT.take 9 ++ e.text).length ≤ _; rw [List.length_append]; show 9 + _ ≤ _; omega
    refine G_exit ?_
    refine GQ_then_exit ?_
    refine GQ_then_exit ?_
    refine GQ_block_exit ?_
    refine GQ_sub (.cons (k := 11) rfl (.nil _)) ?_
    refine GQ_then ?_
    refine G_seq ?_
    refine G_region ?_
    refine GL_callL rfl cf33 (.cons rfl .nil) (.cons (.tail .head) (.cons .head .nil)) (strings_Builder_String_spec _ _ _ _ (by assumption) (by assumption) (by omega)) (fun v13 B hv => ?_)
    obtain ⟨rfl, rfl⟩ := hv
    refine GL_step rfl (PS_assign rfl) ?_
    refine GL_step rfl (PS_assign rfl) ?_
    refine GL_nil ?_
    refine GQ_sub (.cons (k := 4) rfl (.cons (k := 5) rfl (.nil _))) ?_
    refine GQ_then ?_
    refine G_ret ?_
    refine GQ_ret rfl (.tmp rfl (.tmp rfl .nil)) ?_
    intro w1 hS; refine ⟨?_, hS.toKeep⟩; rw [hI13]; rfl
theorem law_senses_spec  (w : World) : Ret Tryd.prog 18 #[] w fun v w' => v = .bool true ∧ Keep w w' := by
  refine Ret_body [] [] Tryd.func18 rfl rfl rfl (St.start w []) ?_
  refine G_seq ?_
  refine G_region ?_
  refine GL_step rfl (PS_assign rfl) ?_
  refine GL_nil ?_
  refine GQ_sub (.nil _) ?_
  refine GQ_then ?_
  refine G_seq ?_
  refine G_region ?_
  refine GL_pure rfl cf27 .nil (fun w hS => land_New_spec w) ?_
  refine GL_step rfl (PS_build pl36 zv36 rfl (.cons Ing.Event.l0 rfl rfl rfl (.cons Ing.Event.l2 rfl rfl rfl (.cons Ing.Event.l3 rfl rfl rfl (.cons Ing.Event.l6 rfl rfl rfl (.cons Ing.Event.l9 rfl rfl rfl .nil)))))) ?_
  refine GL_pure rfl cf16 (.cons rfl (.cons rfl .nil)) (fun w hS => sense_All_spec Land.new Land.sensed w) ?_
  refine GL_alloc rfl zv36 rfl (fun b1 => ?_)
  refine GL_unit (PU_store (Lens.id Ing.Event.fl.len Ing.Event.fl.one) rfl rfl rfl sz36 rfl .head) ?_
  refine GL_nil ?_
  refine GQ_sub (.cons (k := 1) rfl (.nil _)) ?_
  refine GQ_then ?_
  refine G_seq ?_
  refine G_region ?_
  refine GL_step rfl (PS_loadA rfl tya36 (.head _) (Lens.id Ing.Event.fl.len Ing.Event.fl.one) rfl) ?_
  refine GL_pure rfl cf19 (.cons rfl (.cons rfl .nil)) (fun w hS => sense_Tell_spec (Land.new.allN Land.sensed 6) rfl rfl rfl Land.sensed_0 (by decide) w) ?_
  refine GL_step rfl (PS_move rfl) ?_
  refine GL_step rfl (PS_extract rfl rfl) ?_
  refine GL_step rfl (PS_extract rfl rfl) ?_
  refine GL_step rfl (PS_assign rfl) ?_
  refine GL_step rfl (PS_assign rfl) ?_
  refine GL_nil ?_
  refine GQ_sub (.cons (k := 1) rfl (.cons (k := 2) rfl (.cons (k := 3) rfl (.nil _)))) ?_
  refine GQ_then ?_
  refine G_seq ?_
  refine G_region ?_
  refine GL_step rfl (PS_move rfl) ?_
  refine GL_step rfl (PS_move rfl) ?_
  refine GL_gt (t := 13) rfl rfl rfl (fun q => PS_move rfl) ?_
  refine GL_gt (t := 13) rfl rfl rfl (fun q => PS_eql_str (cvE rfl q) rfl) ?_
  refine GL_step rfl (PS_and rfl rfl (fun h => h)) ?_
  refine GL_step rfl (PS_move rfl) ?_
  refine GL_gt (t := 17) rfl rfl rfl (fun q => PS_fieldAddr fa36_10 rfl) ?_
  refine GL_gt (t := 17) rfl rfl rfl (fun q => PS_indexAddr ia22 (cvE rfl q) rfl (by decide) (by decide)) ?_
  refine GL_gt (t := 17) rfl rfl rfl (fun q => PS_load (cvE rfl q) tys3 (.head _) (Ing.Event.l10.comp (Lens.arr (n := 6) flI (by decide) (by decide))) rfl rfl) ?_
  refine GL_gt (t := 17) rfl rfl rfl (fun q => PS_eql (cvE rfl q) rfl) ?_
  refine GL_step rfl (PS_and rfl rfl (fun h => h)) ?_
  refine GL_step rfl (PS_assign rfl) ?_
  refine GL_nil ?_
  refine GQ_sub (.cons (k := 0) rfl (.nil _)) ?_
  refine GQ_then ?_
  refine G_ret ?_
  refine GQ_ret rfl (.tmp rfl .nil) ?_
  intro w1 hS; refine ⟨congrArg Value.bool ?_, hS.toKeep⟩; show (true && true && decide (_ = (0 : Int))) = true; rw [Land.sensed_1]; rfl
theorem law_SensePerceives_spec (X : Land) (a b : Int) (e : Ing.Event) (w : World) : Ret Tryd.prog 3 #[.agg X.enc.toArray, .int .i64 a, .int .i64 b, .agg e.enc.toArray] w fun v w' => v = .bool true ∧ Keep w w' := by
  refine Ret_body [] [] Tryd.func3 rfl rfl rfl (St.start w []) ?_
  refine G_seq ?_
  refine G_region ?_
  refine GL_box rfl rfl rfl (fun b1 => ?_)
  refine GL_box rfl rfl rfl (fun b2 => ?_)
  refine GL_step rfl (PS_assign rfl) ?_
  refine GL_nil ?_
  refine GQ_sub (.cons (k := 1) rfl (.cons (k := 2) rfl (.cons (k := 4) rfl (.cons (k := 7) rfl (.nil _))))) ?_
  refine GQ_then ?_
  refine G_seq ?_
  refine G_planN (N := 51) [0, 0, 3, 0, 0, 31, 63, 127, 255, 255, 1023, 255, 255, 8191, 16383, 32767, 65535, 131071, 131071, 131071, 1048575, 131071, 131071, 131071, 16777215, 33554431, 67108863, 134217727, 268435455, 268435455, 268435455, 2147483647, 268435455, 268435455, 268435455, 34359738367, 68719476735, 137438953471, 274877906943, 549755813887, 549755813887, 2199023255551, 549755813887, 549755813887, 17592186044415, 35184372088831, 70368744177663, 140737488355327, 281474976710655, 562949953421311, 1125899906842623] mix (by kernel_rfl) rfl ?_
  refine Plan_float 0 rfl rfl (by kernel_rfl) (OK_s (EX_s (PS_loadA rfl tya34 (.tail _ (.head _)) (Lens.id Land.fl.len Land.fl.one) rfl))) ?_
  refine Plan_float 1 rfl rfl (by kernel_rfl) (OK_s (EX_s (PS_move rfl))) ?_
  refine Plan_float 2 rfl rfl (by kernel_rfl) (OK_s (EX_c (PC_of cf8 (.cons rfl (.cons rfl .nil)) (fun w hS => sense_Bright_spec _ _ w)))) ?_
  refine Plan_float 3 rfl rfl (by kernel_rfl) (OK_s (EX_s (PS_loadA rfl tya34 (.tail _ (.head _)) (Lens.id Land.fl.len Land.fl.one) rfl))) ?_
  refine Plan_float 4 rfl rfl (by kernel_rfl) (OK_s (EX_s (PS_move rfl))) ?_
  refine Plan_float 5 rfl rfl (by kernel_rfl) (OK_s (EX_c (PC_of cf9 (.cons rfl (.cons rfl .nil)) (fun w hS => ref_IsBright_spec _ _ w)))) ?_
  refine Plan_float 6 rfl rfl (by kernel_rfl) (OK_s (EX_s (PS_eql_bool Tryd.underlying4 rfl rfl))) ?_
  refine Plan_float 7 rfl rfl (by kernel_rfl) (OK_s (EX_s (PS_move rfl))) ?_
  refine Plan_float 8 rfl rfl (by kernel_rfl) (OK_gt (t := 16) rfl rfl (fun q => EX_s (PS_loadA rfl tya34 (.tail _ (.head _)) (Lens.id Land.fl.len Land.fl.one) rfl))) ?_
  refine Plan_float 9 rfl rfl (by kernel_rfl) (OK_gt (t := 16) rfl rfl (fun q => EX_s (PS_move rfl))) ?_
  refine Plan_float 10 rfl rfl (by kernel_rfl) (OK_gt (t := 16) rfl rfl (fun q => EX_c (PC_of cf10 (.cons (cvE rfl q) (.cons (cvE rfl q) .nil)) (fun w hS => sense_Hidden_spec _ _ w)))) ?_
  refine Plan_float 11 rfl rfl (by kernel_rfl) (OK_gt (t := 16) rfl rfl (fun q => EX_s (PS_loadA rfl tya34 (.tail _ (.head _)) (Lens.id Land.fl.len Land.fl.one) rfl))) ?_
  refine Plan_float 12 rfl rfl (by kernel_rfl) (OK_gt (t := 16) rfl rfl (fun q => EX_s (PS_move rfl))) ?_
  refine Plan_float 13 rfl rfl (by kernel_rfl) (OK_gt (t := 16) rfl rfl (fun q => EX_c (PC_of cf11 (.cons (cvE rfl q) (.cons (cvE rfl q) .nil)) (fun w hS => ref_IsHidden_spec _ _ w)))) ?_
  refine Plan_float 14 rfl rfl (by kernel_rfl) (OK_gt (t := 16) rfl rfl (fun q => EX_s (PS_eql_bool Tryd.underlying4 (cvE rfl q) (cvE rfl q)))) ?_
  refine Plan_float 15 rfl rfl (by kernel_rfl) (OK_s (EX_s (PS_and rfl rfl (fun h => h)))) ?_
  refine Plan_float 16 rfl rfl (by kernel_rfl) (OK_s (EX_s (PS_move rfl))) ?_
  refine Plan_float 17 rfl rfl (by kernel_rfl) (OK_gt (t := 25) rfl rfl (fun q => EX_s (PS_loadA rfl tya34 (.tail _ (.head _)) (Lens.id Land.fl.len Land.fl.one) rfl))) ?_
  refine Plan_float 18 rfl rfl (by kernel_rfl) (OK_gt (t := 25) rfl rfl (fun q => EX_s (PS_move rfl))) ?_
  refine Plan_float 19 rfl rfl (by kernel_rfl) (OK_gt (t := 25) rfl rfl (fun q => EX_s (PS_move rfl))) ?_
  refine Plan_float 20 rfl rfl (by kernel_rfl) (OK_gt (t := 25) rfl rfl (fun q => EX_c (PC_of cf12 (.cons (cvE rfl q) (.cons (cvE rfl q) (.cons (cvE rfl q) .nil))) (fun w hS => sense_Sees_spec _ _ _ w)))) ?_
  refine Plan_float 21 rfl rfl (by kernel_rfl) (OK_gt (t := 25) rfl rfl (fun q => EX_s (PS_loadA rfl tya34 (.tail _ (.head _)) (Lens.id Land.fl.len Land.fl.one) rfl))) ?_
  refine Plan_float 22 rfl rfl (by kernel_rfl) (OK_gt (t := 25) rfl rfl (fun q => EX_s (PS_move rfl))) ?_
  refine Plan_float 23 rfl rfl (by kernel_rfl) (OK_gt (t := 25) rfl rfl (fun q => EX_s (PS_move rfl))) ?_
  refine Plan_float 24 rfl rfl (by kernel_rfl) (OK_gt (t := 25) rfl rfl (fun q => EX_c (PC_of cf13 (.cons (cvE rfl q) (.cons (cvE rfl q) (.cons (cvE rfl q) .nil))) (fun w hS => ref_IsSeen_spec _ _ _ w)))) ?_
  refine Plan_float 25 rfl rfl (by kernel_rfl) (OK_gt (t := 25) rfl rfl (fun q => EX_s (PS_eql_bool Tryd.underlying4 (cvE rfl q) (cvE rfl q)))) ?_
  refine Plan_float 26 rfl rfl (by kernel_rfl) (OK_s (EX_s (PS_and rfl rfl (fun h => h)))) ?_
  refine Plan_float 27 rfl rfl (by kernel_rfl) (OK_s (EX_s (PS_move rfl))) ?_
  refine Plan_float 28 rfl rfl (by kernel_rfl) (OK_gt (t := 36) rfl rfl (fun q => EX_s (PS_loadA rfl tya34 (.tail _ (.head _)) (Lens.id Land.fl.len Land.fl.one) rfl))) ?_
  refine Plan_float 29 rfl rfl (by kernel_rfl) (OK_gt (t := 36) rfl rfl (fun q => EX_s (PS_move rfl))) ?_
  refine Plan_float 30 rfl rfl (by kernel_rfl) (OK_gt (t := 36) rfl rfl (fun q => EX_s (PS_loadA rfl tya36 (.head _) (Lens.id Ing.Event.fl.len Ing.Event.fl.one) rfl))) ?_
  refine Plan_float 31 rfl rfl (by kernel_rfl) (OK_gt (t := 36) rfl rfl (fun q => EX_c (PC_of cf14 (.cons (cvE rfl q) (.cons (cvE rfl q) (.cons (cvE rfl q) .nil))) (fun w hS => sense_Perceives_spec _ _ _ w)))) ?_
  refine Plan_float 32 rfl rfl (by kernel_rfl) (OK_gt (t := 36) rfl rfl (fun q => EX_s (PS_loadA rfl tya34 (.tail _ (.head _)) (Lens.id Land.fl.len Land.fl.one) rfl))) ?_
  refine Plan_float 33 rfl rfl (by kernel_rfl) (OK_gt (t := 36) rfl rfl (fun q => EX_s (PS_move rfl))) ?_
  refine Plan_float 34 rfl rfl (by kernel_rfl) (OK_gt (t := 36) rfl rfl (fun q => EX_s (PS_loadA rfl tya36 (.head _) (Lens.id Ing.Event.fl.len Ing.Event.fl.one) rfl))) ?_
  refine Plan_float 35 rfl rfl (by kernel_rfl) (OK_gt (t := 36) rfl rfl (fun q => EX_c (PC_of cf15 (.cons (cvE rfl q) (.cons (cvE rfl q) (.cons (cvE rfl q) .nil))) (fun w hS => ref_Perceived_spec _ _ _ w)))) ?_
  refine Plan_float 36 rfl rfl (by kernel_rfl) (OK_gt (t := 36) rfl rfl (fun q => EX_s (PS_eql (cvE rfl q) (cvE rfl q)))) ?_
  refine Plan_float 37 rfl rfl (by kernel_rfl) (OK_s (EX_s (PS_and rfl rfl (fun h => h)))) ?_
  refine Plan_float 38 rfl rfl (by kernel_rfl) (OK_s (EX_s (PS_move rfl))) ?_
  refine Plan_float 39 rfl rfl (by kernel_rfl) (OK_gt (t := 47) rfl rfl (fun q => EX_s (PS_loadA rfl tya34 (.tail _ (.head _)) (Lens.id Land.fl.len Land.fl.one) rfl))) ?_
  refine Plan_float 40 rfl rfl (by kernel_rfl) (OK_gt (t := 47) rfl rfl (fun q => EX_s (PS_loadA rfl tya36 (.head _) (Lens.id Ing.Event.fl.len Ing.Event.fl.one) rfl))) ?_
  refine Plan_float 41 rfl rfl (by kernel_rfl) (OK_gt (t := 47) rfl rfl (fun q => EX_c (PC_of cf16 (.cons (cvE rfl q) (.cons (cvE rfl q) .nil)) (fun w hS => sense_All_spec _ _ w)))) ?_
  refine Plan_float 42 rfl rfl (by kernel_rfl) (OK_gt (t := 47) rfl rfl (fun q => EX_s (PS_loadA rfl tya34 (.tail _ (.head _)) (Lens.id Land.fl.len Land.fl.one) rfl))) ?_
  refine Plan_float 43 rfl rfl (by kernel_rfl) (OK_gt (t := 47) rfl rfl (fun q => EX_s (PS_loadA rfl tya36 (.head _) (Lens.id Ing.Event.fl.len Ing.Event.fl.one) rfl))) ?_
  refine Plan_float 44 rfl rfl (by kernel_rfl) (OK_gt (t := 47) rfl rfl (fun q => EX_c (PC_of cf17 (.cons (cvE rfl q) (.cons (cvE rfl q) .nil)) (fun w hS => ref_Everybody_spec _ _ w)))) ?_
  refine Plan_float 45 rfl rfl (by kernel_rfl) (OK_gt (t := 47) rfl rfl (fun q => EX_s (PS_eql_agg eq36 (by decide) (by kernel_rfl) (cvE rfl q) (cvE rfl q)))) ?_
  refine Plan_float 46 rfl rfl (by kernel_rfl) (OK_s (EX_s (PS_and rfl rfl (fun h => h)))) ?_
  refine Plan_float 47 rfl rfl (by kernel_rfl) (OK_s (EX_s (PS_move rfl))) ?_
  refine Plan_float 48 rfl rfl (by kernel_rfl) (OK_gt (t := 56) rfl rfl (fun q => EX_c (PC_of cf18 .nil (fun w hS => law_senses_spec w)))) ?_
  refine Plan_float 49 rfl rfl (by kernel_rfl) (OK_s (EX_s (PS_and rfl rfl (fun h => h)))) ?_
  refine Plan_float 50 rfl rfl (by kernel_rfl) (OK_s (EX_s (PS_assign rfl))) ?_
  refine Plan_end (by kernel_rfl) ?_
  refine GQ_sub (.cons (k := 8) rfl (.nil _)) ?_
  refine GQ_then ?_
  refine G_ret ?_
  refine GQ_ret rfl (.tmp rfl .nil) ?_
  intro w1 hS; refine ⟨?_, hS.toKeep⟩; exact congrArg Value.bool (by simp)
mutual
def cellsD {H : Type} : DataW H → List Value
  | .lit (.int k n) => [.int k n]
  | .lit (.string bs) => [.string ⟨bs.toArray⟩]
  | .lit (.bool b) => [.bool b]
  | .agg ps => cellsDs ps
  | _ => []
def cellsDs {H : Type} : List (DataW H) → List Value
  | [] => []
  | d :: r => cellsD d ++ cellsDs r
end
/-- A world in which the listed variables hold what is listed. -/
noncomputable def laidWorld (os : Os) : World := { World.holding Tryd.prog os ⟨#[], #[], []⟩ with heap := (((((World.holding Tryd.prog os ⟨#[], #[], []⟩).heap.modify 3 fun o => match o with | .cells _ t frozen => .cells (cellsD (Rows.laid_math_bits_deBruijn32tab : DataW Unit)).toArray t frozen | o => o).modify 4 fun o => match o with | .cells _ t frozen => .cells (cellsD (Rows.laid_math_bits_deBruijn64tab : DataW Unit)).toArray t frozen | o => o).modify 2 fun o => match o with | .cells _ t frozen => .cells (cellsD (Rows.laid_internal_strconv_uint64pow10 : DataW Unit)).toArray t frozen | o => o).modify 0 fun o => match o with | .cells _ t frozen => .cells (cellsD (Rows.laid_inglenook_words_verbs : DataW Unit)).toArray t frozen | o => o) }
set_option maxRecDepth 100000 in
theorem laid_met (os : Os) : laidMet Tryd.prog Rows.sensePerceivesRow.laid ((laidWorld os).forCall (fun _ _ => 0) ⟨#[], #[.agg (Land.enc (default : Land)).toArray, .int .i64 0, .int .i64 0, .agg (Ing.Event.enc (default : Ing.Event)).toArray], []⟩).memory :=
  laidMet_of_run' 8 (by kernel_rfl) (by kernel_rfl)
set_option maxRecDepth 100000 in
theorem reads (os : Os) {H : Type} (enc : TypeId × Value → H) : ∃ places, DataW.whole enc Tryd.prog ((laidWorld os).forCall (fun _ _ => 0) ⟨#[], #[.agg (Land.enc (default : Land)).toArray, .int .i64 0, .int .i64 0, .agg (Ing.Event.enc (default : Ing.Event)).toArray], []⟩).memory Tryd.f3.params.toList Rows.sensePerceivesSpec.vars false (#[.agg (Land.enc (default : Land)).toArray, .int .i64 0, .int .i64 0, .agg (Ing.Event.enc (default : Ing.Event)).toArray] : Array Value).toList 8 = some ([.agg [.agg (List.replicate 6 (.agg [.lit (.string []), .lit (.bool false), .agg (List.replicate 6 (.lit (.int .i64 0))), .agg (List.replicate 6 (.lit (.bool false)))])), .agg (List.replicate 9 (.agg [.lit (.string []), .lit (.int .i64 0), .lit (.int .i64 0), .lit (.int .i64 0), .lit (.bool false)])), .agg (List.replicate 6 (.agg [.lit (.string []), .lit (.bool false), .lit (.bool false), .lit (.int .i64 0), .lit (.int .i64 0), .lit (.int .i64 0)]))], .lit (.int .i64 0), .lit (.int .i64 0), .agg [.lit (.int .i64 0), .lit (.int .i64 0), .lit (.int .i64 0), .lit (.int .i64 0), .lit (.int .i64 0), .lit (.int .i64 0), .lit (.string []), .lit (.string []), .lit (.string []), .lit (.string []), .agg (List.replicate 6 (.lit (.int .i64 0)))]], [], places) := ⟨[], by kernel_rfl⟩
set_option maxRecDepth 100000 in
theorem sensePerceives_lifted (os : Os) (started : os.Started) (H : Type) (enc : TypeId × Value → H) (F : Stop.Interp) :
    ReturnsInHanded {} Tryd.checked os 3 .any ((OpenSpec.ofChange Rows.sensePerceivesSpec).preRow enc Tryd.prog Tryd.f3 Rows.sensePerceivesRow.domain false Rows.sensePerceivesRow.laid) (((OpenSpec.ofChange Rows.sensePerceivesSpec).at F).post enc Tryd.prog Tryd.f3 false true false false) := by
  obtain ⟨places, hx⟩ := reads os enc
  refine returnsInHanded_of_row (C := Tryd.checked) (s := (OpenSpec.ofChange Rows.sensePerceivesSpec)) own started (by kernel_rfl) Tryd.func3
    (witness_row_at (enc := enc) (C := Tryd.checked) false (laidWorld os) #[.agg (Land.enc (default : Land)).toArray, .int .i64 0, .int .i64 0, .agg (Ing.Event.enc (default : Ing.Event)).toArray] rfl (by kernel_rfl) (by kernel_rfl) (by kernel_rfl)
      (OpenSpec.preRow_of_cond 8 hx (by kernel_rfl) (fun k hk => by cases hk) (by kernel_rfl) (laid_met os))) ?_
  intro W base args ds gs before hval hW _ hcond hsz hL _ _
  refine law_post (B := 4) laidOut (by kernel_rfl) Tryd.underlying4 (by kernel_rfl) rfl (fun ds h => by rw [Tryd.params3] at h; match ds, h with | [d1, d2, d3, d4], _ => rfl) hW ?_
  obtain ⟨p, q, hA, hV, _, _, _⟩ := hW
  rw [Tryd.params3] at hA
  obtain ⟨v0, vs0, d0, ds0, p0, q0, hv0, rfl, rfl, hd0, hA⟩ := trodAll_cons hA
  obtain ⟨v1, vs1, d1, ds1, p1, q1, hv1, rfl, rfl, hd1, hA⟩ := trodAll_cons hA
  obtain ⟨v2, vs2, d2, ds2, p2, q2, hv2, rfl, rfl, hd2, hA⟩ := trodAll_cons hA
  obtain ⟨v3, vs3, d3, ds3, p3, q3, hv3, rfl, rfl, hd3, hA⟩ := trodAll_cons hA
  obtain ⟨hvn, rfl, rfl⟩ := trodAll_nil hA
  obtain rfl : args = #[v0, v1, v2, v3] := by cases args; simp_all
  obtain ⟨X, rfl, w0⟩ := open_ag (P := Tryd.prog) (t := 34) (by rw [Tryd.underlying34]) (hval 0 _ _ rfl rfl) dc34 hd0
  obtain ⟨a, rfl, rfl, rfl, w1⟩ := open_int Tryd.underlying3 (hval 1 _ _ rfl rfl) hd1
  have w1 := bounds_i64 w1
  obtain ⟨b, rfl, rfl, rfl, w2⟩ := open_int Tryd.underlying3 (hval 2 _ _ rfl rfl) hd2
  have w2 := bounds_i64 w2
  obtain ⟨e, rfl, w3⟩ := open_ag (P := Tryd.prog) (t := 36) (by rw [Tryd.underlying36]) (hval 3 _ _ rfl rfl) dc36 hd3
  exact law_SensePerceives_spec _ _ _ _ W
theorem sensePerceives_said : Rows.SensePerceivesSaid :=
  OpenClaim.holds_of_cond 3 Tryd.f3 rfl rfl rfl rfl rfl rfl rfl ⟨rfl, rfl, rfl, rfl, rfl⟩ rfl rfl rfl rfl rfl (by kernel_rfl) Tryd.func3 (by kernel_rfl)
    (of_decide_eq_true (by kernel_rfl)) (by unfold Func.isWrapper; first | (rw [if_pos (by decide +kernel)]; kernel_rfl) | (rw [if_neg (by decide +kernel)]; exact ⟨rfl, rfl⟩))
    (fun os started H enc _ F => by rw [OpenClaim.pre_eq_preRow]; exact sensePerceives_lifted os started H enc F)
theorem plainArgs (f : FuncId) (fn : Func) (hf : Tryd.pinned.checked.prog.funcNamed "inglenook/inglenooklaw.SensePerceives" = some f) (hfn : Tryd.pinned.checked.prog.funcs[f]? = some fn) :
    false = Tryd.pinned.checked.prog.looks [] ∧ ∀ (j : Nat) t, fn.params[j]? = some t → Tryd.pinned.checked.prog.wantsStandIn t = false := by
  obtain rfl : f = 3 := Option.some.inj ((show Tryd.prog.funcNamed "inglenook/inglenooklaw.SensePerceives" = some 3 by kernel_rfl).symm.trans hf) |>.symm
  obtain rfl : fn = Tryd.f3 := (Option.some.inj (Tryd.func3.symm.trans hfn)).symm
  refine ⟨by kernel_rfl, fun j t ht => ?_⟩
  rw [Tryd.params3] at ht
  have hm : t ∈ [34, 3, 3, 36] := by simpa using Array.mem_of_getElem? ht
  have hall : ([34, 3, 3, 36].all fun u => !Tryd.prog.wantsStandIn u) = true := by kernel_rfl
  exact (show Tryd.prog.wantsStandIn t = false by simpa using List.all_eq_true.1 hall t hm)
theorem sensePerceives_holds : Rows.SensePerceivesCardSaid :=
  Claim7.holds_tied_plain_at .later [] _ _ _ _ sensePerceives_said (fun _ h => by cases h) (by kernel_rfl) (fun _ h => by cases h) sensePerceives_row_tie rfl ⟨rfl, rfl⟩ (by kernel_rfl) rfl plainArgs (by kernel_rfl)
end Go.Proofs.YtclcdddimmelaaaDoor
