/- For every input the law RulesFights returns true. No condition. -/
import Derived.Test.YthaobbemigbcgaaGreatDoorCards
import Derived.Test.YthaobbemigbcgaaGreatDoorTie
import Derived.Deep.DeepHandedRow
import Derived.Test.YthaobbemigbcgaaGreatDoorRows
import Derived.Test.YthaobbemigbcgaaGreatDoorRulesFightsWalks
import Derived.Test.YthaobbemigbcgaaGreatDoorRulesFightsWalks2
import Derived.Test.YthaobbemigbcgaaGreatDoorRulesFightsWalks3
import Derived.Test.YthaobbemigbcgaaGreatDoorRulesFightsEc3
import Derived.Test.YthaobbemigbcgaaGreatDoorRulesFightsRa1
import Derived.Test.YthaobbemigbcgaaGreatDoorRulesFightsRb1
set_option linter.unusedSimpArgs false
set_option linter.unusedVariables false
set_option maxRecDepth 100000
set_option maxHeartbeats 1000000
namespace Go.Proofs.YthaobbemigbcgaaGreatDoor
open Go Go.Ing Go.RowKit Go.ChangeShapes Go.WideShapes Go.ChangeAt
theorem own : ownKnob Tryz.prog.godebug = none := by kernel_rfl
theorem laidOut : laidOutB Tryz.prog = true := by kernel_rfl
theorem ld_laid_inglenook_words_verbs : (Rows.laid_inglenook_words_verbs : DataW Unit) = strData Land.verbs := by kernel_rfl
theorem mem_laid_inglenook_words_verbs : ("inglenook/words.verbs", (strData Land.verbs : DataW Unit)) ∈ Rows.rulesFightsRow.laid := ld_laid_inglenook_words_verbs ▸ (.tail _ (.tail _ (.tail _ (.tail _ (.tail _ (.tail _ (.head _)))))))
theorem mem_laid_strconv_ErrSyntax : ("strconv.ErrSyntax", (Rows.laid_strconv_ErrSyntax : DataW Unit)) ∈ Rows.rulesFightsRow.laid := .tail _ (.tail _ (.tail _ (.tail _ (.head _))))
theorem mem_laid_strconv_ErrRange : ("strconv.ErrRange", (Rows.laid_strconv_ErrRange : DataW Unit)) ∈ Rows.rulesFightsRow.laid := .tail _ (.tail _ (.tail _ (.head _)))
theorem ld_laid_inglenook_inglenookref_verbs : (Rows.laid_inglenook_inglenookref_verbs : DataW Unit) = strData Land.verbs := by kernel_rfl
theorem mem_laid_inglenook_inglenookref_verbs : ("inglenook/inglenookref.verbs", (strData Land.verbs : DataW Unit)) ∈ Rows.rulesFightsRow.laid := ld_laid_inglenook_inglenookref_verbs ▸ (.tail _ (.tail _ (.tail _ (.tail _ (.tail _ (.head _))))))
theorem dc9 {H : Type} {enc : TypeId × Value → H} {w : World} : Dc H enc Tryz.prog w (encS) wfS 9 := Dc_string Tryz.underlying9
theorem dc4 {H : Type} {enc : TypeId × Value → H} {w : World} : Dc H enc Tryz.prog w (encB) wfB 4 := Dc_bool Tryz.underlying4
theorem dc3 {H : Type} {enc : TypeId × Value → H} {w : World} : Dc H enc Tryz.prog w (encI) wfI 3 := Dc_int Tryz.underlying3
theorem dc22 {H : Type} {enc : TypeId × Value → H} {w : World} : Dc H enc Tryz.prog w (encA (n := 6) encI) (wfA wfI) 22 := Dc_arr (sz := 1) Tryz.underlying22 (by kernel_rfl) (by kernel_rfl) dc3
theorem dc23 {H : Type} {enc : TypeId × Value → H} {w : World} : Dc H enc Tryz.prog w (encA (n := 6) encB) (wfA wfB) 23 := Dc_arr (sz := 1) Tryz.underlying23 (by kernel_rfl) (by kernel_rfl) dc4
theorem dc25 {H : Type} {enc : TypeId × Value → H} {w : World} : Dc H enc Tryz.prog w (Room.enc) Room.wf 25 := Room.dc Tryz.underlying25 (by kernel_rfl) rfl (by kernel_rfl) dc9 rfl (by kernel_rfl) dc4 rfl (by kernel_rfl) dc22 rfl (by kernel_rfl) dc23
theorem dc26 {H : Type} {enc : TypeId × Value → H} {w : World} : Dc H enc Tryz.prog w (encA (n := 6) Room.enc) (wfA Room.wf) 26 := Dc_arr (sz := 14) Tryz.underlying26 (by kernel_rfl) (by kernel_rfl) dc25
theorem dc28 {H : Type} {enc : TypeId × Value → H} {w : World} : Dc H enc Tryz.prog w (Thing.enc) Thing.wf 28 := Thing.dc Tryz.underlying28 (by kernel_rfl) rfl (by kernel_rfl) dc9 rfl (by kernel_rfl) dc3 rfl (by kernel_rfl) dc3 rfl (by kernel_rfl) dc3 rfl (by kernel_rfl) dc4
theorem dc29 {H : Type} {enc : TypeId × Value → H} {w : World} : Dc H enc Tryz.prog w (encA (n := 9) Thing.enc) (wfA Thing.wf) 29 := Dc_arr (sz := 5) Tryz.underlying29 (by kernel_rfl) (by kernel_rfl) dc28
theorem dc31 {H : Type} {enc : TypeId × Value → H} {w : World} : Dc H enc Tryz.prog w (Being.enc) Being.wf 31 := Being.dc Tryz.underlying31 (by kernel_rfl) rfl (by kernel_rfl) dc9 rfl (by kernel_rfl) dc4 rfl (by kernel_rfl) dc4 rfl (by kernel_rfl) dc3 rfl (by kernel_rfl) dc3 rfl (by kernel_rfl) dc3
theorem dc32 {H : Type} {enc : TypeId × Value → H} {w : World} : Dc H enc Tryz.prog w (encA (n := 6) Being.enc) (wfA Being.wf) 32 := Dc_arr (sz := 6) Tryz.underlying32 (by kernel_rfl) (by kernel_rfl) dc31
theorem dc34 {H : Type} {enc : TypeId × Value → H} {w : World} : Dc H enc Tryz.prog w (Land.enc) Land.wf 34 := Land.dc Tryz.underlying34 (by kernel_rfl) rfl (by kernel_rfl) dc26 rfl (by kernel_rfl) dc29 rfl (by kernel_rfl) dc32
theorem law_RulesFights_spec (X : Land) (d : Int) (hw : X.Brief) (w : World) (gl0 : GV 1 Land.verbsV w) (gl1 : GVE 3 w) (gl2 : GVE 4 w) (gl3 : GV 0 Land.verbsV w) : Ret Tryz.prog 4 #[.agg X.enc.toArray, .int .i64 d] w fun v w' => v = .bool true ∧ Keep w w' := by
 refine Ret_body [] [] Tryz.func4 rfl rfl rfl (St.start w []) ?_
 refine G_seq ?_
 refine G_region ?_
 refine GL_box rfl rfl rfl (fun b1 => ?_)
 refine GL_step rfl (PS_assign rfl) ?_
 refine GL_nil ?_
 refine GQ_sub (.cons (k := 1) rfl (.cons (k := 2) rfl (.nil _))) ?_
 refine GQ_then ?_
 refine G_seq ?_
 refine G_region ?_
 refine GL_step rfl (PS_loadA rfl tya34 (.head _) (Lens.id Land.fl.len Land.fl.one) rfl) ?_
 refine GL_step rfl (PS_move rfl) ?_
 refine GL_callR rfl cf12 (.cons rfl (.cons rfl .nil)) .nil (rules_Round_spec X d hw) (fun w hS => gl0.pull (by simp) hS .nil) (fun v1 B hv => ?_)
 obtain ⟨y2, rfl, y3, rfl⟩ := hv
 refine GL_step rfl (PS_move rfl) ?_
 refine GL_step rfl (PS_extract rfl rfl) ?_
 refine GL_step rfl (PS_extract rfl rfl) ?_
 refine GL_step rfl (PS_extract rfl rfl) ?_
 refine GL_alloc rfl zv34 rfl (fun b2 => ?_)
 refine GL_unit (PU_store (Lens.id Land.fl.len Land.fl.one) rfl rfl rfl sz34 rfl .head) ?_
 refine GL_step rfl (PS_assign rfl) ?_
 refine GL_step rfl (PS_assign rfl) ?_
 refine GL_nil ?_
 refine GQ_sub (.cons (k := 1) rfl (.cons (k := 2) rfl (.cons (k := 5) rfl (.cons (k := 6) rfl (.cons (k := 7) rfl (.nil _)))))) ?_
 refine GQ_then ?_
 refine G_seq ?_
 refine G_region ?_
 refine GL_step rfl (PS_loadA rfl tya34 (.tail _ (.tail _ (.head _))) (Lens.id Land.fl.len Land.fl.one) rfl) ?_
 refine GL_step rfl (PS_move rfl) ?_
 refine GL_callR rfl cf13 (.cons rfl (.cons rfl .nil)) .nil (ref_RoundOf_spec X d hw) (fun w hS => gl3.pull (by simp) hS .nil) (fun v5 B hv => ?_)
 obtain ⟨y6, rfl, y7, rfl⟩ := hv
 refine GL_step rfl (PS_move rfl) ?_
 refine GL_step rfl (PS_extract rfl rfl) ?_
 refine GL_step rfl (PS_extract rfl rfl) ?_
 refine GL_step rfl (PS_extract rfl rfl) ?_
 refine GL_alloc rfl zv34 rfl (fun b3 => ?_)
 refine GL_unit (PU_store (Lens.id Land.fl.len Land.fl.one) rfl rfl rfl sz34 rfl .head) ?_
 refine GL_step rfl (PS_assign rfl) ?_
 refine GL_step rfl (PS_assign rfl) ?_
 refine GL_nil ?_
 refine GQ_sub (.cons (k := 5) rfl (.cons (k := 6) rfl (.cons (k := 7) rfl (.cons (k := 8) rfl (.cons (k := 9) rfl (.cons (k := 10) rfl (.nil _))))))) ?_
 refine GQ_then ?_
 refine G_seq ?_
 refine G_region ?_
 refine GL_step rfl (PS_loadA rfl tya34 (.tail _ (.tail _ (.head _))) (Lens.id Land.fl.len Land.fl.one) rfl) ?_
 refine GL_step rfl (PS_loadA rfl tya34 (.head _) (Lens.id Land.fl.len Land.fl.one) rfl) ?_
 refine GL_step rfl (PS_eql_agg eq34 (by decide) (by kernel_rfl) rfl rfl) ?_
 refine GL_step rfl (PS_move rfl) ?_
 refine GL_gt (t := 28) rfl rfl rfl (fun q => PS_move rfl) ?_
 refine GL_gt (t := 28) rfl rfl rfl (fun q => PS_move rfl) ?_
 refine GL_pgt (t := 28) rfl rfl rfl (fun q => by have q1 := q; (try simp at q1); exact PC_of cf8 (.cons (cvE rfl q) (.cons (cvE rfl q) .nil)) (fun w hS => ref_SameEvents_spec _ _ _ _ (Nat.le_trans (Turn.round_len hw d) (by decide)) w ((Kn.own (.tail _ (.tail _ (.tail _ (.head _))))) w hS) ((Kn.own (.tail _ (.head _))) w hS))) ?_
 refine GL_step rfl (PS_and rfl rfl (fun h => h)) ?_
 refine GL_step rfl (PS_move rfl) ?_
 refine GL_gt (t := 33) rfl rfl rfl (fun q => PS_move rfl) ?_
 refine GL_gt (t := 33) rfl rfl rfl (fun q => PS_move rfl) ?_
 refine GL_gt (t := 33) rfl rfl rfl (fun q => PS_eql (cvE rfl q) (cvE rfl q)) ?_
 refine GL_step rfl (PS_and rfl rfl (fun h => h)) ?_
 refine GL_step rfl (PS_move rfl) ?_
 refine GL_pgt (t := 38) rfl rfl rfl (fun q => PC_of cf11 .nil (fun w hS => law_acts_spec w (gl0.st hS) (gl1.st hS) (gl2.st hS))) ?_
 refine GL_step rfl (PS_and rfl rfl (fun h => h)) ?_
 refine GL_step rfl (PS_assign rfl) ?_
 refine GL_nil ?_
 refine GQ_sub (.cons (k := 4) rfl (.nil _)) ?_
 refine GQ_then ?_
 refine G_ret ?_
 refine GQ_ret rfl (.tmp rfl .nil) ?_
 intro w1 hS; refine ⟨?_, hS.toKeep⟩; exact congrArg Value.bool (by simp)
mutual
def cellsD {H : Type} : DataW H → List Value
  | .lit (.int k n) => [.int k n]
  | .lit (.string bs) => [.string ⟨bs.toArray⟩]
  | .lit (.bool b) => [.bool b]
  | .agg ps => cellsDs ps
  | _ => []
def cellsDs {H : Type} : List (DataW H) → List Value
  | [] => []
  | d :: r => cellsD d ++ cellsDs r
end
def cellsE {H : Type} : DataW H → List Value
  | .iface _ (.ptr (.agg ps)) => cellsDs ps
  | _ => []
/-- Where what the errors point to lies. -/
noncomputable def low : Nat := (World.holding Tryz.prog default ⟨#[], #[], []⟩).heap.size
/-- A world in which the listed variables hold what is listed. -/
noncomputable def laidWorld (os : Os) : World := { World.holding Tryz.prog os ⟨#[.cells (cellsE (Rows.laid_strconv_ErrRange : DataW Unit)).toArray 137, .cells (cellsE (Rows.laid_strconv_ErrSyntax : DataW Unit)).toArray 137], #[], []⟩ with heap := ((((((((World.holding Tryz.prog os ⟨#[.cells (cellsE (Rows.laid_strconv_ErrRange : DataW Unit)).toArray 137, .cells (cellsE (Rows.laid_strconv_ErrSyntax : DataW Unit)).toArray 137], #[], []⟩).heap.modify 4 fun o => match o with | .cells _ t frozen => .cells #[.iface 135 (.pointer (some ⟨low + 0, 0, none⟩))] t frozen | o => o).modify 3 fun o => match o with | .cells _ t frozen => .cells #[.iface 135 (.pointer (some ⟨low + 1, 0, none⟩))] t frozen | o => o).modify 8 fun o => match o with | .cells _ t frozen => .cells (cellsD (Rows.laid_math_bits_deBruijn32tab : DataW Unit)).toArray t frozen | o => o).modify 9 fun o => match o with | .cells _ t frozen => .cells (cellsD (Rows.laid_math_bits_deBruijn64tab : DataW Unit)).toArray t frozen | o => o).modify 7 fun o => match o with | .cells _ t frozen => .cells (cellsD (Rows.laid_internal_strconv_uint64pow10 : DataW Unit)).toArray t frozen | o => o).modify 0 fun o => match o with | .cells _ t frozen => .cells (cellsD (Rows.laid_inglenook_inglenookref_verbs : DataW Unit)).toArray t frozen | o => o).modify 1 fun o => match o with | .cells _ t frozen => .cells (cellsD (Rows.laid_inglenook_words_verbs : DataW Unit)).toArray t frozen | o => o) }
set_option maxRecDepth 100000 in
theorem laid_met (os : Os) : laidMet Tryz.prog Rows.rulesFightsRow.laid ((laidWorld os).forCall (fun _ _ => 0) ⟨#[], #[.agg (Land.enc (default : Land)).toArray, .int .i64 0], []⟩).memory :=
  laidMet_of_run' 8 (by kernel_rfl) (by kernel_rfl)
set_option maxRecDepth 100000 in
theorem reads (os : Os) {H : Type} (enc : TypeId × Value → H) : ∃ places, DataW.whole enc Tryz.prog ((laidWorld os).forCall (fun _ _ => 0) ⟨#[], #[.agg (Land.enc (default : Land)).toArray, .int .i64 0], []⟩).memory Tryz.f4.params.toList Rows.rulesFightsSpec.vars false (#[.agg (Land.enc (default : Land)).toArray, .int .i64 0] : Array Value).toList 8 = some ([.agg [.agg (List.replicate 6 (.agg [.lit (.string []), .lit (.bool false), .agg (List.replicate 6 (.lit (.int .i64 0))), .agg (List.replicate 6 (.lit (.bool false)))])), .agg (List.replicate 9 (.agg [.lit (.string []), .lit (.int .i64 0), .lit (.int .i64 0), .lit (.int .i64 0), .lit (.bool false)])), .agg (List.replicate 6 (.agg [.lit (.string []), .lit (.bool false), .lit (.bool false), .lit (.int .i64 0), .lit (.int .i64 0), .lit (.int .i64 0)]))], .lit (.int .i64 0)], [], places) := ⟨[], by kernel_rfl⟩
set_option maxRecDepth 100000 in
theorem rulesFights_lifted (os : Os) (started : os.Started) (H : Type) (enc : TypeId × Value → H) (F : Stop.Interp) :
    ReturnsInHanded {} Tryz.checked os 4 .any ((OpenSpec.ofChange Rows.rulesFightsSpec).preRow enc Tryz.prog Tryz.f4 Rows.rulesFightsRow.domain false Rows.rulesFightsRow.laid) (((OpenSpec.ofChange Rows.rulesFightsSpec).at F).post enc Tryz.prog Tryz.f4 false true false false) := by
  obtain ⟨places, hx⟩ := reads os enc
  refine returnsInHanded_of_row (C := Tryz.checked) (s := (OpenSpec.ofChange Rows.rulesFightsSpec)) own started (by kernel_rfl) Tryz.func4
    (witness_row_at (enc := enc) (C := Tryz.checked) false (laidWorld os) #[.agg (Land.enc (default : Land)).toArray, .int .i64 0] rfl (by kernel_rfl) (by kernel_rfl) (by kernel_rfl)
      (OpenSpec.preRow_of_cond 8 hx (by kernel_rfl) (fun k hk => by cases hk) (by kernel_rfl) (laid_met os))) ?_
  intro W base args ds gs before hval hW _ hcond hsz hL hSh _
  refine law_post (B := 4) laidOut (by kernel_rfl) Tryz.underlying4 (by kernel_rfl) rfl (fun ds h => by rw [Tryz.params4] at h; match ds, h with | [d1, d2], _ => rfl) hW ?_
  obtain ⟨p, q, hA, hV, _, _, _⟩ := hW
  rw [Tryz.params4] at hA
  obtain ⟨v0, vs0, d0, ds0, p0, q0, hv0, rfl, rfl, hd0, hA⟩ := trodAll_cons hA
  obtain ⟨v1, vs1, d1, ds1, p1, q1, hv1, rfl, rfl, hd1, hA⟩ := trodAll_cons hA
  obtain ⟨hvn, rfl, rfl⟩ := trodAll_nil hA
  obtain rfl : args = #[v0, v1] := by cases args; simp_all
  obtain ⟨X, rfl, w0⟩ := open_ag (P := Tryz.prog) (t := 34) (by rw [Tryz.underlying34]) (hval 0 _ _ rfl rfl) dc34 hd0
  obtain ⟨d, rfl, rfl, rfl, w1⟩ := open_int Tryz.underlying3 (hval 1 _ _ rfl rfl) hd1
  have w1 := bounds_i64 w1
  exact law_RulesFights_spec _ _ (by have k1 : ∀ i, 0 ≤ i → i < 9 → (X.things.at i).name.length ≤ 140737488351232 := fun i i0 i1 => (reach3 (q := 1) (oA := 84) (n := 9) (z := 5) (i := i.toNat) (s := (X.things.at i).name) Tryz.underlying34 rfl Tryz.underlying29 (by kernel_rfl) Tryz.underlying28 rfl (by kernel_rfl) Tryz.underlying9 (by kernel_rfl) (by omega) (by decide) hd0 (Land.name_at i0 i1) (sized_arg hsz (j := 0) rfl rfl)); have k2 : ∀ i, 0 ≤ i → i < 6 → (X.beings.at i).name.length ≤ 140737488351232 := fun i i0 i1 => (reach3 (q := 2) (oA := 129) (n := 6) (z := 6) (i := i.toNat) (s := (X.beings.at i).name) Tryz.underlying34 rfl Tryz.underlying32 (by kernel_rfl) Tryz.underlying31 rfl (by kernel_rfl) Tryz.underlying9 (by kernel_rfl) (by omega) (by decide) hd0 (Land.bname_at i0 i1) (sized_arg hsz (j := 0) rfl rfl)); have k3 : ∀ i, 0 ≤ i → i < 6 → (X.rooms.at i).name.length ≤ 140737488351232 := fun i i0 i1 => (reach3 (q := 0) (oA := 0) (n := 6) (z := 14) (i := i.toNat) (s := (X.rooms.at i).name) Tryz.underlying34 rfl Tryz.underlying26 (by kernel_rfl) Tryz.underlying25 rfl (by kernel_rfl) Tryz.underlying9 (by kernel_rfl) (by omega) (by decide) hd0 (Land.rname_at i0 i1) (sized_arg hsz (j := 0) rfl rfl)); exact Land.brief_of k1 k2 k3) W (gv_strs hL mem_laid_inglenook_words_verbs (by kernel_rfl) (by kernel_rfl) Tryz.underlying80 Tryz.underlying9 (by kernel_rfl) (by kernel_rfl)) (gve hL mem_laid_strconv_ErrSyntax rfl (by kernel_rfl) (by kernel_rfl) Tryz.underlying106) (gve hL mem_laid_strconv_ErrRange rfl (by kernel_rfl) (by kernel_rfl) Tryz.underlying106) (gv_strs hL mem_laid_inglenook_inglenookref_verbs (by kernel_rfl) (by kernel_rfl) Tryz.underlying80 Tryz.underlying9 (by kernel_rfl) (by kernel_rfl))
theorem rulesFights_said : Rows.RulesFightsSaid :=
  OpenClaim.holds_of_cond 4 Tryz.f4 rfl rfl rfl rfl rfl rfl rfl ⟨rfl, rfl, rfl, rfl, rfl⟩ rfl rfl rfl rfl rfl (by kernel_rfl) Tryz.func4 (by kernel_rfl)
    (of_decide_eq_true (by kernel_rfl)) (by unfold Func.isWrapper; first | (rw [if_pos (by decide +kernel)]; kernel_rfl) | (rw [if_neg (by decide +kernel)]; exact ⟨rfl, rfl⟩))
    (fun os started H enc _ F => by rw [OpenClaim.pre_eq_preRow]; exact rulesFights_lifted os started H enc F)
theorem plainArgs (f : FuncId) (fn : Func) (hf : Tryz.pinned.checked.prog.funcNamed "inglenook/inglenooklaw.RulesFights" = some f) (hfn : Tryz.pinned.checked.prog.funcs[f]? = some fn) :
    true = Tryz.pinned.checked.prog.looks [] ∧ ∀ (j : Nat) t, fn.params[j]? = some t → Tryz.pinned.checked.prog.wantsStandIn t = false := by
  obtain rfl : f = 4 := Option.some.inj ((show Tryz.prog.funcNamed "inglenook/inglenooklaw.RulesFights" = some 4 by kernel_rfl).symm.trans hf) |>.symm
  obtain rfl : fn = Tryz.f4 := (Option.some.inj (Tryz.func4.symm.trans hfn)).symm
  refine ⟨by kernel_rfl, fun j t ht => ?_⟩
  rw [Tryz.params4] at ht
  have hm : t ∈ [34, 3] := by simpa using Array.mem_of_getElem? ht
  have hall : ([34, 3].all fun u => !Tryz.prog.wantsStandIn u) = true := by kernel_rfl
  exact (show Tryz.prog.wantsStandIn t = false by simpa using List.all_eq_true.1 hall t hm)
theorem rulesFights_holds : Rows.RulesFightsCardSaid :=
  Claim7.holds_tied_plain_at .later [] _ _ _ _ rulesFights_said (fun _ h => by cases h) (by kernel_rfl) (fun _ h => by cases h) rulesFights_row_tie rfl ⟨rfl, rfl⟩ (by kernel_rfl) rfl plainArgs (by kernel_rfl)
end Go.Proofs.YthaobbemigbcgaaGreatDoor
