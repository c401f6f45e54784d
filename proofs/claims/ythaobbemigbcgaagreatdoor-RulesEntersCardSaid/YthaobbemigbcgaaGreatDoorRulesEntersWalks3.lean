/- What the functions that the law RulesEnters reaches compute: walks, part 3. No condition. -/
import Derived.Test.YthaobbemigbcgaaGreatDoorCards
import Derived.Test.YthaobbemigbcgaaGreatDoorTie
import Derived.Deep.DeepHandedRow
import Derived.Test.YthaobbemigbcgaaGreatDoorRows
import Derived.Test.YthaobbemigbcgaaGreatDoorRulesEntersEc3
import Derived.Test.YthaobbemigbcgaaGreatDoorRulesEntersRa1
import Derived.Test.YthaobbemigbcgaaGreatDoorRulesEntersRb1
import Derived.Test.YthaobbemigbcgaaGreatDoorRulesEntersWalks
import Derived.Test.YthaobbemigbcgaaGreatDoorRulesEntersWalks2
set_option linter.unusedSimpArgs false
set_option linter.unusedVariables false
set_option maxRecDepth 100000
set_option maxHeartbeats 1000000
namespace Go.Proofs.YthaobbemigbcgaaGreatDoor
open Go Go.Ing Go.RowKit Go.ChangeShapes Go.WideShapes Go.ChangeAt
theorem ref_SameEvents_spec {t0 t1 : Nat} (f g : Hd) (xs ys : List Ing.Event) (hx : xs.length ≤ 9223372036854775807) (w : World) (r0 : Rd w f t0 16 (xs.flatMap Ing.Event.enc)) (r1 : Rd w g t1 16 (ys.flatMap Ing.Event.enc)) : Ret Tryz.prog 8 #[f.val, g.val] w fun v w' => v = .bool (decide (xs = ys)) ∧ Keep w w' := by
 have hf := r0.len1 Ing.Event.fl (by decide)
 have hg := r1.len1 Ing.Event.fl (by decide)
 refine Ret_body [] [] Tryz.func8 rfl rfl rfl (St.start w []) ?_
 refine G_seq ?_
 refine G_region ?_
 refine GL_step rfl (PS_assign rfl) ?_
 refine GL_nil ?_
 refine GQ_sub (.cons (k := 0) rfl (.cons (k := 1) rfl (.nil _))) ?_
 refine GQ_then ?_
 refine G_seq ?_
 refine G_seq ?_
 refine G_region ?_
 refine GL_step rfl (PS_move rfl) ?_
 refine GL_step rfl (PS_len_slice rfl Tryz.underlying35 rfl) ?_
 refine GL_step rfl (PS_move rfl) ?_
 refine GL_step rfl (PS_len_slice rfl Tryz.underlying35 rfl) ?_
 refine GL_step rfl (PS_neq rfl rfl) ?_
 refine GL_nil ?_
 refine GQ_sub (.cons (k := 0) rfl (.cons (k := 1) rfl (.cons (k := 10) rfl (.nil _)))) ?_
 refine GQ_then ?_
 refine G_cond rfl (fun c1 => ?_) (fun c1 => ?_)
 ·
  have c1p := kz c1
  try dsimp only at c1p
  refine G_seq ?_
  refine G_region ?_
  refine GL_step rfl (PS_assign rfl) ?_
  refine GL_nil ?_
  refine GQ_sub (.cons (k := 4) rfl (.nil _)) ?_
  refine GQ_then ?_
  refine G_ret ?_
  refine GQ_then_ret ?_
  refine GQ_ret rfl (.tmp rfl .nil) ?_
  intro w1 hS; refine ⟨congrArg Value.bool ?_, hS.toKeep⟩; have : xs ≠ ys := fun e => by subst e; simp at c1; omega
  simp [this]
 have c1p := kz c1
 try dsimp only at c1p
 refine G_skip ?_
 refine GQ_sub (.cons (k := 0) rfl (.cons (k := 1) rfl (.nil _))) ?_
 refine GQ_then ?_
 refine G_seq ?_
 refine G_seq ?_
 refine G_region ?_
 refine GL_step rfl (PS_move rfl) ?_
 refine GL_step rfl (PS_len_slice rfl Tryz.underlying35 rfl) ?_
 refine GL_step rfl (PS_move rfl) ?_
 refine GL_nil ?_
 refine GQ_sub (.cons (k := 0) rfl (.cons (k := 1) rfl (.cons (k := 12) rfl (.cons (k := 13) rfl (.nil _))))) ?_
 refine GQ_then ?_
 refine G_block ?_
 refine G_subF (.cons (k := 13) rfl (.cons (k := 0) rfl (.cons (k := 1) rfl (.cons (k := 12) rfl (.nil _))))) ?_
 refine G_loop1_ (fun (i : Int) => 0 ≤ i ∧ i ≤ xs.length ∧ xs.length = ys.length ∧ xs.take i.toNat = ys.take i.toNat) (fun (i : Int) => ((xs.length : Int) - i).toNat) (fun (i : Int) => [(13, .int .i64 i)]) (fun (i : Int) => []) (0) ?_ rfl rfl (fun i hI1 => ?_)
 · exact ⟨by omega, by omega, by simp at c1; omega, rfl⟩
 obtain ⟨hI11, hI12, hI13, hI14⟩ := hI1
 refine G_seq ?_
 refine G_region ?_
 refine GL_step rfl (PS_lss rfl rfl) ?_
 refine GL_nil ?_
 refine GQ_then ?_
 refine G_seq ?_
 refine G_cond rfl (fun c2 => ?_) (fun c2 => ?_)
 ·
  have c2p := kz c2
  try dsimp only at c2p
  refine G_skip ?_
  refine GQ_sub (.cons (k := 0) rfl (.cons (k := 1) rfl (.cons (k := 12) rfl (.cons (k := 13) rfl (.nil _))))) ?_
  refine GQ_then ?_
  refine G_seq ?_
  refine G_block ?_
  refine G_seq ?_
  refine G_region ?_
  refine GL_step rfl (PS_move rfl) ?_
  refine GL_step rfl (PS_assign rfl) ?_
  refine GL_nil ?_
  refine GQ_sub (.cons (k := 0) rfl (.cons (k := 1) rfl (.cons (k := 5) rfl (.cons (k := 12) rfl (.cons (k := 13) rfl (.nil _)))))) ?_
  refine GQ_then ?_
  refine G_seq ?_
  refine G_planN (N := 9) [0, 0, 3, 7, 0, 0, 48, 112, 255] mix (by kernel_rfl) rfl ?_
  refine Plan_float 0 rfl rfl (by kernel_rfl) (OK_s (EX_s (PS_move rfl))) ?_
  refine Plan_float 1 rfl rfl (by kernel_rfl) (OK_s (EX_s (PS_move rfl))) ?_
  refine Plan_float 2 rfl rfl (by kernel_rfl) (OK_s (EX_s (PS_idxS is35 (by decide) (Kn.old r0) rfl rfl (by omega) (by omega)))) ?_
  refine Plan_float 3 rfl rfl (by kernel_rfl) (OK_s (EX_s (PS_ldG rfl tya60 (by decide) Ing.Event.fl (Kn.old r0) (by omega)))) ?_
  refine Plan_float 4 rfl rfl (by kernel_rfl) (OK_s (EX_s (PS_move rfl))) ?_
  refine Plan_float 5 rfl rfl (by kernel_rfl) (OK_s (EX_s (PS_move rfl))) ?_
  refine Plan_float 6 rfl rfl (by kernel_rfl) (OK_s (EX_s (PS_idxS is35 (by decide) (Kn.old r1) rfl rfl (by omega) (by omega)))) ?_
  refine Plan_float 7 rfl rfl (by kernel_rfl) (OK_s (EX_s (PS_ldG rfl tya60 (by decide) Ing.Event.fl (Kn.old r1) (by omega)))) ?_
  refine Plan_float 8 rfl rfl (by kernel_rfl) (OK_s (EX_s (PS_neq_agg eq60 (by decide) (by kernel_rfl) rfl rfl))) ?_
  refine Plan_end (by kernel_rfl) ?_
  refine GQ_sub (.cons (k := 0) rfl (.cons (k := 1) rfl (.cons (k := 12) rfl (.cons (k := 13) rfl (.cons (k := 24) rfl (.nil _)))))) ?_
  refine GQ_then ?_
  refine G_cond rfl (fun c3 => ?_) (fun c3 => ?_)
  ·
   have c3p := kz c3
   try dsimp only at c3p
   refine G_seq ?_
   refine G_region ?_
   refine GL_step rfl (PS_assign rfl) ?_
   refine GL_nil ?_
   refine GQ_sub (.cons (k := 4) rfl (.nil _)) ?_
   refine GQ_then ?_
   refine G_ret ?_
   refine GQ_block_ret ?_
   refine GQ_then_ret ?_
   refine GQ_then_ret ?_
   refine GQ_block_ret ?_
   refine GQ_then_ret ?_
   refine GQ_ret rfl (.tmp rfl .nil) ?_
   intro w1 hS; refine ⟨congrArg Value.bool ?_, hS.toKeep⟩; have := Line.ne_of_getD (d := default) (xs := xs) (ys := ys) (i := i.toNat) (by simpa using c3)
   simp [this]
  have c3p := kz c3
  try dsimp only at c3p
  refine G_skip ?_
  refine GQ_sub (.cons (k := 0) rfl (.cons (k := 1) rfl (.cons (k := 12) rfl (.cons (k := 13) rfl (.nil _))))) ?_
  refine GQ_block ?_
  refine GQ_then ?_
  refine G_region ?_
  refine GL_step rfl (PS_add rfl rfl (IntWalk.i64_in _ (by omega))) ?_
  refine GL_step rfl (PS_move rfl) ?_
  refine GL_nil ?_
  refine GQ_sub (.cons (k := 0) rfl (.cons (k := 1) rfl (.cons (k := 12) rfl (.cons (k := 13) rfl (.nil _))))) ?_
  refine GQ_next1_ (i + 1) ?_ ?_ (.cons (k := 13) rfl (.cons (k := 0) rfl (.cons (k := 1) rfl (.cons (k := 12) rfl (.nil _))))) (.refl _)
  · exact ⟨by omega, by omega, hI13, Line.take_next (d := default) hI11 hI13 (by omega) hI14 (by simpa using c3)⟩
  · omega
 have c2p := kz c2
 try dsimp only at c2p
 refine G_exit ?_
 refine GQ_then_exit ?_
 refine GQ_then_exit ?_
 refine GQ_block_exit ?_
 refine GQ_sub (.nil _) ?_
 refine GQ_then ?_
 refine G_seq ?_
 refine G_region ?_
 refine GL_step rfl (PS_assign rfl) ?_
 refine GL_nil ?_
 refine GQ_then ?_
 refine G_ret ?_
 refine GQ_ret rfl (.tmp rfl .nil) ?_
 intro w1 hS; refine ⟨congrArg Value.bool ?_, hS.toKeep⟩; have := Line.pickE (xs := xs) (ys := ys) hI13 hI14 (by omega)
 simp [this]
theorem land_New_spec  (w : World) : Ret Tryz.prog 22 #[] w fun v w' => v = .agg Land.new.enc.toArray ∧ Keep w w' := by
 refine Ret_body [] [] Tryz.func22 rfl rfl rfl (St.start w []) ?_
 refine G_seq ?_
 refine G_region ?_
 refine GL_alloc rfl zv34 rfl (fun b1 => ?_)
 refine GL_nil ?_
 refine GQ_then ?_
 refine G_seq ?_
 refine G_region ?_
 refine GL_alloc rfl zv34 rfl (fun b2 => ?_)
 refine GL_nil ?_
 refine GQ_then ?_
 refine G_seq ?_
 refine G_seq ?_
 refine G_region ?_
 refine GL_step rfl (PS_buildA Tryz.underlying22 sz3 zv22 rfl (.cons (Lens.arr (n := 6) (i := 0) flI (by decide) (by decide)) rfl rfl rfl (.cons (Lens.arr (n := 6) (i := 1) flI (by decide) (by decide)) rfl rfl rfl (.cons (Lens.arr (n := 6) (i := 2) flI (by decide) (by decide)) rfl rfl rfl (.cons (Lens.arr (n := 6) (i := 3) flI (by decide) (by decide)) rfl rfl rfl (.cons (Lens.arr (n := 6) (i := 4) flI (by decide) (by decide)) rfl rfl rfl (.cons (Lens.arr (n := 6) (i := 5) flI (by decide) (by decide)) rfl rfl rfl .nil))))))) ?_
 refine GL_step rfl (PS_buildA Tryz.underlying23 sz4 zv23 rfl (.cons (Lens.arr (n := 6) (i := 5) flB (by decide) (by decide)) rfl rfl rfl .nil)) ?_
 refine GL_step rfl (PS_build pl25 zv25 rfl (.cons Room.l0 rfl rfl rfl (.cons Room.l2 rfl rfl rfl (.cons Room.l3 rfl rfl rfl .nil)))) ?_
 refine GL_step rfl (PS_buildA Tryz.underlying22 sz3 zv22 rfl (.cons (Lens.arr (n := 6) (i := 0) flI (by decide) (by decide)) rfl rfl rfl (.cons (Lens.arr (n := 6) (i := 1) flI (by decide) (by decide)) rfl rfl rfl (.cons (Lens.arr (n := 6) (i := 2) flI (by decide) (by decide)) rfl rfl rfl (.cons (Lens.arr (n := 6) (i := 3) flI (by decide) (by decide)) rfl rfl rfl (.cons (Lens.arr (n := 6) (i := 4) flI (by decide) (by decide)) rfl rfl rfl (.cons (Lens.arr (n := 6) (i := 5) flI (by decide) (by decide)) rfl rfl rfl .nil))))))) ?_
 refine GL_step rfl (PS_build pl25 zv25 rfl (.cons Room.l0 rfl rfl rfl (.cons Room.l2 rfl rfl rfl .nil))) ?_
 refine GL_step rfl (PS_buildA Tryz.underlying22 sz3 zv22 rfl (.cons (Lens.arr (n := 6) (i := 0) flI (by decide) (by decide)) rfl rfl rfl (.cons (Lens.arr (n := 6) (i := 1) flI (by decide) (by decide)) rfl rfl rfl (.cons (Lens.arr (n := 6) (i := 2) flI (by decide) (by decide)) rfl rfl rfl (.cons (Lens.arr (n := 6) (i := 3) flI (by decide) (by decide)) rfl rfl rfl (.cons (Lens.arr (n := 6) (i := 4) flI (by decide) (by decide)) rfl rfl rfl (.cons (Lens.arr (n := 6) (i := 5) flI (by decide) (by decide)) rfl rfl rfl .nil))))))) ?_
 refine GL_step rfl (PS_build pl25 zv25 rfl (.cons Room.l0 rfl rfl rfl (.cons Room.l2 rfl rfl rfl (.cons Room.l1 rfl rfl rfl .nil)))) ?_
 refine GL_step rfl (PS_buildA Tryz.underlying22 sz3 zv22 rfl (.cons (Lens.arr (n := 6) (i := 0) flI (by decide) (by decide)) rfl rfl rfl (.cons (Lens.arr (n := 6) (i := 1) flI (by decide) (by decide)) rfl rfl rfl (.cons (Lens.arr (n := 6) (i := 2) flI (by decide) (by decide)) rfl rfl rfl (.cons (Lens.arr (n := 6) (i := 3) flI (by decide) (by decide)) rfl rfl rfl (.cons (Lens.arr (n := 6) (i := 4) flI (by decide) (by decide)) rfl rfl rfl (.cons (Lens.arr (n := 6) (i := 5) flI (by decide) (by decide)) rfl rfl rfl .nil))))))) ?_
 refine GL_step rfl (PS_build pl25 zv25 rfl (.cons Room.l0 rfl rfl rfl (.cons Room.l2 rfl rfl rfl (.cons Room.l1 rfl rfl rfl .nil)))) ?_
 refine GL_step rfl (PS_buildA Tryz.underlying22 sz3 zv22 rfl (.cons (Lens.arr (n := 6) (i := 0) flI (by decide) (by decide)) rfl rfl rfl (.cons (Lens.arr (n := 6) (i := 1) flI (by decide) (by decide)) rfl rfl rfl (.cons (Lens.arr (n := 6) (i := 2) flI (by decide) (by decide)) rfl rfl rfl (.cons (Lens.arr (n := 6) (i := 3) flI (by decide) (by decide)) rfl rfl rfl (.cons (Lens.arr (n := 6) (i := 4) flI (by decide) (by decide)) rfl rfl rfl (.cons (Lens.arr (n := 6) (i := 5) flI (by decide) (by decide)) rfl rfl rfl .nil))))))) ?_
 refine GL_step rfl (PS_buildA Tryz.underlying23 sz4 zv23 rfl (.cons (Lens.arr (n := 6) (i := 2) flB (by decide) (by decide)) rfl rfl rfl .nil)) ?_
 refine GL_step rfl (PS_build pl25 zv25 rfl (.cons Room.l0 rfl rfl rfl (.cons Room.l2 rfl rfl rfl (.cons Room.l3 rfl rfl rfl (.cons Room.l1 rfl rfl rfl .nil))))) ?_
 refine GL_step rfl (PS_buildA Tryz.underlying22 sz3 zv22 rfl (.cons (Lens.arr (n := 6) (i := 0) flI (by decide) (by decide)) rfl rfl rfl (.cons (Lens.arr (n := 6) (i := 1) flI (by decide) (by decide)) rfl rfl rfl (.cons (Lens.arr (n := 6) (i := 2) flI (by decide) (by decide)) rfl rfl rfl (.cons (Lens.arr (n := 6) (i := 3) flI (by decide) (by decide)) rfl rfl rfl (.cons (Lens.arr (n := 6) (i := 4) flI (by decide) (by decide)) rfl rfl rfl (.cons (Lens.arr (n := 6) (i := 5) flI (by decide) (by decide)) rfl rfl rfl .nil))))))) ?_
 refine GL_step rfl (PS_build pl25 zv25 rfl (.cons Room.l0 rfl rfl rfl (.cons Room.l2 rfl rfl rfl .nil))) ?_
 refine GL_bs (cs := encA (n := 6) Room.enc (Vector.replicate 6 default)) (cs' := encA (n := 6) Room.enc Land.roomsV) rfl Tryz.underlying81 sz25 zv25 (by decide) (by decide) (by kernel_rfl) (.cons (Lens.arr (n := 6) (i := 0) Room.fl (by decide) (by decide)) rfl rfl rfl (.cons (Lens.arr (n := 6) (i := 1) Room.fl (by decide) (by decide)) rfl rfl rfl (.cons (Lens.arr (n := 6) (i := 2) Room.fl (by decide) (by decide)) rfl rfl rfl (.cons (Lens.arr (n := 6) (i := 3) Room.fl (by decide) (by decide)) rfl rfl rfl (.cons (Lens.arr (n := 6) (i := 4) Room.fl (by decide) (by decide)) rfl rfl rfl (.cons (Lens.arr (n := 6) (i := 5) Room.fl (by decide) (by decide)) rfl rfl rfl .nil)))))) rfl (fun b3 => ?_)
 refine GL_step rfl (PS_len_slice rfl Tryz.underlying81 rfl) ?_
 refine GL_step rfl (PS_move rfl) ?_
 refine GL_nil ?_
 refine GQ_sub (.cons (k := 0) rfl (.cons (k := 1) rfl (.cons (k := 20) rfl (.cons (k := 21) rfl (.cons (k := 22) rfl (.nil _)))))) ?_
 refine GQ_then ?_
 refine G_block ?_
 refine G_subF (.cons (k := 22) rfl (.cons (k := 0) rfl (.cons (k := 1) rfl (.cons (k := 20) rfl (.cons (k := 21) rfl (.nil _)))))) ?_
 refine G_pull (.tail .head) ?_
 refine G_loop1_ (fun (k : Int) => 0 ≤ k ∧ k ≤ 6) (fun (k : Int) => (6 - k).toNat) (fun (k : Int) => [(22, .int .i64 k)]) (fun (k : Int) => [Res.box b2 34 (Land.enc (Land.newA k.toNat))]) (0) ?_ rfl rfl (fun k hI1 => ?_)
 · exact ⟨Int.le_refl _, by omega⟩
 obtain ⟨hI11, hI12⟩ := hI1
 refine G_seq ?_
 refine G_region ?_
 refine GL_step rfl (PS_lss rfl rfl) ?_
 refine GL_nil ?_
 refine GQ_then ?_
 refine G_seq ?_
 refine G_cond rfl (fun c1 => ?_) (fun c1 => ?_)
 ·
  have c1p := kz c1
  dsimp only at c1p
  refine G_skip ?_
  refine GQ_sub (.cons (k := 0) rfl (.cons (k := 1) rfl (.cons (k := 20) rfl (.cons (k := 21) rfl (.cons (k := 22) rfl (.nil _)))))) ?_
  refine GQ_then ?_
  refine G_seq ?_
  refine G_block ?_
  refine G_seq ?_
  refine G_region ?_
  refine GL_step rfl (PS_move rfl) ?_
  refine GL_step rfl (PS_idxS is81 (by decide) (Kn.own (.tail _ (.head _))) rfl rfl (by omega) (by dsimp only; omega)) ?_
  refine GL_step rfl (PS_ldG rfl tya25 (by decide) Room.fl (Kn.own (.tail _ (.head _))) (by simp; omega)) ?_
  refine GL_alloc rfl zv25 rfl (fun b4 => ?_)
  refine GL_step rfl (PS_assign rfl) ?_
  refine GL_unit (PU_store (Lens.id Room.fl.len Room.fl.one) rfl rfl rfl sz25 rfl .head) ?_
  refine GL_nil ?_
  refine GQ_sub (.cons (k := 0) rfl (.cons (k := 1) rfl (.cons (k := 2) rfl (.cons (k := 3) rfl (.cons (k := 20) rfl (.cons (k := 21) rfl (.cons (k := 22) rfl (.nil _)))))))) ?_
  refine GQ_then ?_
  refine G_region ?_
  refine GL_step rfl (PS_move rfl) ?_
  refine GL_step rfl (PS_loadA rfl tya25 (.head _) (Lens.id Room.fl.len Room.fl.one) rfl) ?_
  refine GL_step rfl (PS_fieldAddr fa34_0 rfl) ?_
  refine GL_step rfl (PS_indexAddr ia26 rfl rfl (by omega) (by omega)) ?_
  refine GL_unit (PU_store (Land.l0.comp (Lens.arr (n := 6) Room.fl (by omega) (by omega))) rfl rfl rfl sz25 rfl (.tail .head)) ?_
  refine GL_nil ?_
  refine GQ_sub (.cons (k := 0) rfl (.cons (k := 1) rfl (.cons (k := 20) rfl (.cons (k := 21) rfl (.cons (k := 22) rfl (.nil _)))))) ?_
  refine GQ_block ?_
  refine GQ_then ?_
  refine G_region ?_
  refine GL_step rfl (PS_add rfl rfl (IntWalk.i64_in _ (by omega))) ?_
  refine GL_step rfl (PS_move rfl) ?_
  refine GL_nil ?_
  refine GQ_sub (.cons (k := 0) rfl (.cons (k := 1) rfl (.cons (k := 20) rfl (.cons (k := 21) rfl (.cons (k := 22) rfl (.nil _)))))) ?_
  refine GQ_next1_ (k + 1) ?_ ?_ (.cons (k := 22) rfl (.cons (k := 0) rfl (.cons (k := 1) rfl (.cons (k := 20) rfl (.cons (k := 21) rfl (.nil _)))))) (by rw [Land.newA_step (by omega)]; exact (.cons _ (.refl _)))
  · exact ⟨by omega, by omega⟩
  · omega
 have c1p := kz c1
 dsimp only at c1p
 obtain rfl : k = 6 := by omega
 refine G_exit ?_
 refine GQ_then_exit ?_
 refine GQ_then_exit ?_
 refine GQ_block_exit ?_
 refine GQ_sub (.cons (k := 0) rfl (.cons (k := 1) rfl (.nil _))) ?_
 refine GQ_then ?_
 refine G_seq ?_
 refine G_seq ?_
 refine G_region ?_
 refine GL_step rfl (PS_build pl28 zv28 rfl (.cons Thing.l0 rfl rfl rfl (.cons Thing.l1 rfl rfl rfl .nil))) ?_
 refine GL_step rfl (PS_build pl28 zv28 rfl (.cons Thing.l0 rfl rfl rfl (.cons Thing.l1 rfl rfl rfl (.cons Thing.l3 rfl rfl rfl .nil)))) ?_
 refine GL_step rfl (PS_build pl28 zv28 rfl (.cons Thing.l0 rfl rfl rfl (.cons Thing.l1 rfl rfl rfl .nil))) ?_
 refine GL_step rfl (PS_build pl28 zv28 rfl (.cons Thing.l0 rfl rfl rfl (.cons Thing.l1 rfl rfl rfl (.cons Thing.l3 rfl rfl rfl .nil)))) ?_
 refine GL_step rfl (PS_build pl28 zv28 rfl (.cons Thing.l0 rfl rfl rfl (.cons Thing.l2 rfl rfl rfl (.cons Thing.l3 rfl rfl rfl .nil)))) ?_
 refine GL_step rfl (PS_build pl28 zv28 rfl (.cons Thing.l0 rfl rfl rfl (.cons Thing.l3 rfl rfl rfl .nil))) ?_
 refine GL_step rfl (PS_build pl28 zv28 rfl (.cons Thing.l0 rfl rfl rfl .nil)) ?_
 refine GL_step rfl (PS_build pl28 zv28 rfl (.cons Thing.l0 rfl rfl rfl (.cons Thing.l1 rfl rfl rfl (.cons Thing.l4 rfl rfl rfl .nil)))) ?_
 refine GL_step rfl (PS_build pl28 zv28 rfl (.cons Thing.l0 rfl rfl rfl (.cons Thing.l2 rfl rfl rfl (.cons Thing.l3 rfl rfl rfl .nil)))) ?_
 refine GL_bs (cs := encA (n := 9) Thing.enc (Vector.replicate 9 default)) (cs' := encA (n := 9) Thing.enc Land.thingsV) rfl Tryz.underlying82 sz28 zv28 (by decide) (by decide) (by kernel_rfl) (.cons (Lens.arr (n := 9) (i := 0) Thing.fl (by decide) (by decide)) rfl rfl rfl (.cons (Lens.arr (n := 9) (i := 1) Thing.fl (by decide) (by decide)) rfl rfl rfl (.cons (Lens.arr (n := 9) (i := 2) Thing.fl (by decide) (by decide)) rfl rfl rfl (.cons (Lens.arr (n := 9) (i := 3) Thing.fl (by decide) (by decide)) rfl rfl rfl (.cons (Lens.arr (n := 9) (i := 4) Thing.fl (by decide) (by decide)) rfl rfl rfl (.cons (Lens.arr (n := 9) (i := 5) Thing.fl (by decide) (by decide)) rfl rfl rfl (.cons (Lens.arr (n := 9) (i := 6) Thing.fl (by decide) (by decide)) rfl rfl rfl (.cons (Lens.arr (n := 9) (i := 7) Thing.fl (by decide) (by decide)) rfl rfl rfl (.cons (Lens.arr (n := 9) (i := 8) Thing.fl (by decide) (by decide)) rfl rfl rfl .nil))))))))) rfl (fun b5 => ?_)
 refine GL_step rfl (PS_len_slice rfl Tryz.underlying82 rfl) ?_
 refine GL_step rfl (PS_move rfl) ?_
 refine GL_nil ?_
 refine GQ_sub (.cons (k := 0) rfl (.cons (k := 1) rfl (.cons (k := 41) rfl (.cons (k := 42) rfl (.cons (k := 43) rfl (.nil _)))))) ?_
 refine GQ_then ?_
 refine G_block ?_
 refine G_subF (.cons (k := 43) rfl (.cons (k := 0) rfl (.cons (k := 1) rfl (.cons (k := 41) rfl (.cons (k := 42) rfl (.nil _)))))) ?_
 refine G_pull (.tail .head) ?_
 refine G_loop1_ (fun (k : Int) => 0 ≤ k ∧ k ≤ 9) (fun (k : Int) => (9 - k).toNat) (fun (k : Int) => [(43, .int .i64 k)]) (fun (k : Int) => [Res.box b2 34 (Land.enc (Land.newB k.toNat))]) (0) ?_ rfl rfl (fun k hI2 => ?_)
 · exact ⟨Int.le_refl _, by omega⟩
 obtain ⟨hI21, hI22⟩ := hI2
 refine G_seq ?_
 refine G_region ?_
 refine GL_step rfl (PS_lss rfl rfl) ?_
 refine GL_nil ?_
 refine GQ_then ?_
 refine G_seq ?_
 refine G_cond rfl (fun c2 => ?_) (fun c2 => ?_)
 ·
  have c2p := kz c2
  dsimp only at c2p
  refine G_skip ?_
  refine GQ_sub (.cons (k := 0) rfl (.cons (k := 1) rfl (.cons (k := 41) rfl (.cons (k := 42) rfl (.cons (k := 43) rfl (.nil _)))))) ?_
  refine GQ_then ?_
  refine G_seq ?_
  refine G_block ?_
  refine G_seq ?_
  refine G_region ?_
  refine GL_step rfl (PS_move rfl) ?_
  refine GL_step rfl (PS_idxS is82 (by decide) (Kn.own (.tail _ (.head _))) rfl rfl (by omega) (by dsimp only; omega)) ?_
  refine GL_step rfl (PS_ldG rfl tya28 (by decide) Thing.fl (Kn.own (.tail _ (.head _))) (by simp; omega)) ?_
  refine GL_alloc rfl zv28 rfl (fun b6 => ?_)
  refine GL_step rfl (PS_assign rfl) ?_
  refine GL_unit (PU_store (Lens.id Thing.fl.len Thing.fl.one) rfl rfl rfl sz28 rfl .head) ?_
  refine GL_nil ?_
  refine GQ_sub (.cons (k := 0) rfl (.cons (k := 1) rfl (.cons (k := 4) rfl (.cons (k := 5) rfl (.cons (k := 41) rfl (.cons (k := 42) rfl (.cons (k := 43) rfl (.nil _)))))))) ?_
  refine GQ_then ?_
  refine G_region ?_
  refine GL_step rfl (PS_move rfl) ?_
  refine GL_step rfl (PS_loadA rfl tya28 (.head _) (Lens.id Thing.fl.len Thing.fl.one) rfl) ?_
  refine GL_step rfl (PS_fieldAddr fa34_1 rfl) ?_
  refine GL_step rfl (PS_indexAddr ia29 rfl rfl (by omega) (by omega)) ?_
  refine GL_unit (PU_store (Land.l1.comp (Lens.arr (n := 9) Thing.fl (by omega) (by omega))) rfl rfl rfl sz28 rfl (.tail .head)) ?_
  refine GL_nil ?_
  refine GQ_sub (.cons (k := 0) rfl (.cons (k := 1) rfl (.cons (k := 41) rfl (.cons (k := 42) rfl (.cons (k := 43) rfl (.nil _)))))) ?_
  refine GQ_block ?_
  refine GQ_then ?_
  refine G_region ?_
  refine GL_step rfl (PS_add rfl rfl (IntWalk.i64_in _ (by omega))) ?_
  refine GL_step rfl (PS_move rfl) ?_
  refine GL_nil ?_
  refine GQ_sub (.cons (k := 0) rfl (.cons (k := 1) rfl (.cons (k := 41) rfl (.cons (k := 42) rfl (.cons (k := 43) rfl (.nil _)))))) ?_
  refine GQ_next1_ (k + 1) ?_ ?_ (.cons (k := 43) rfl (.cons (k := 0) rfl (.cons (k := 1) rfl (.cons (k := 41) rfl (.cons (k := 42) rfl (.nil _)))))) (by rw [Land.newB_step (by omega)]; exact (.cons _ (.refl _)))
  · exact ⟨by omega, by omega⟩
  · omega
 have c2p := kz c2
 dsimp only at c2p
 obtain rfl : k = 9 := by omega
 refine G_exit ?_
 refine GQ_then_exit ?_
 refine GQ_then_exit ?_
 refine GQ_block_exit ?_
 refine GQ_sub (.cons (k := 0) rfl (.cons (k := 1) rfl (.nil _))) ?_
 refine GQ_then ?_
 refine G_seq ?_
 refine G_region ?_
 refine GL_step rfl (PS_build pl31 zv31 rfl (.cons Being.l0 rfl rfl rfl (.cons Being.l1 rfl rfl rfl (.cons Being.l2 rfl rfl rfl (.cons Being.l4 rfl rfl rfl .nil))))) ?_
 refine GL_step rfl (PS_fieldAddr fa34_2 rfl) ?_
 refine GL_step rfl (PS_indexAddr ia32 rfl rfl (by decide) (by decide)) ?_
 refine GL_unit (PU_store (Land.l2.comp (Lens.arr (n := 6) Being.fl (by decide) (by decide))) rfl rfl rfl sz31 rfl .head) ?_
 refine GL_nil ?_
 refine GQ_sub (.cons (k := 0) rfl (.cons (k := 1) rfl (.nil _))) ?_
 refine GQ_then ?_
 refine G_seq ?_
 refine G_region ?_
 refine GL_step rfl (PS_build pl31 zv31 rfl (.cons Being.l0 rfl rfl rfl (.cons Being.l1 rfl rfl rfl (.cons Being.l3 rfl rfl rfl (.cons Being.l4 rfl rfl rfl .nil))))) ?_
 refine GL_step rfl (PS_fieldAddr fa34_2 rfl) ?_
 refine GL_step rfl (PS_indexAddr ia32 rfl rfl (by decide) (by decide)) ?_
 refine GL_unit (PU_store (Land.l2.comp (Lens.arr (n := 6) Being.fl (by decide) (by decide))) rfl rfl rfl sz31 rfl .head) ?_
 refine GL_nil ?_
 refine GQ_sub (.cons (k := 0) rfl (.cons (k := 1) rfl (.nil _))) ?_
 refine GQ_then ?_
 refine G_seq ?_
 refine G_region ?_
 refine GL_step rfl (PS_loadA rfl tya34 (.head _) (Lens.id Land.fl.len Land.fl.one) rfl) ?_
 refine GL_unit (PU_store (Lens.id Land.fl.len Land.fl.one) rfl rfl rfl sz34 rfl (.tail (.tail (.tail .head)))) ?_
 refine GL_nil ?_
 refine GQ_sub (.cons (k := 0) rfl (.nil _)) ?_
 refine GQ_then ?_
 refine G_ret ?_
 refine GQ_ret rfl (.cell rfl (.tail _ (.tail _ (.tail _ (.head _)))) (.inl ⟨(by rw [Land.fl.len]; exact tya34), rfl⟩) .nil) ?_
 intro w1 hS; refine ⟨?_, hS.toKeep⟩; rfl
theorem rules_turn_seen_spec (b : Nat) (T : Turn) (g : Hd) (hF : T.Fit) : Ctr Tryz.prog 58 #[.pointer (some ⟨b, 0, none⟩)] [Res.box b 53 (TurnV.enc ⟨T.w, T.b, g⟩)] (fun v B => ∃ f : Hd, v = f.val ∧ f.len = (T.seen).length ∧ B = [Res.box b 53 (TurnV.enc ⟨T.w, T.b, g⟩), Res.own f 3 1 ((T.seen).flatMap encI)]) := by
 intro w hS0
 have hb := hF.b
 have hr := hF.room
 refine Ret_body _ _ Tryz.func58 rfl rfl rfl (hS0) ?_
 refine G_seq ?_
 refine G_region ?_
 refine GL_step rfl (PS_assign rfl) ?_
 refine GL_nil ?_
 refine GQ_sub (.cons (k := 0) rfl (.nil _)) ?_
 refine GQ_then ?_
 refine G_seq ?_
 refine G_planN (N := 12) [0, 0, 2, 6, 14, 1, 33, 97, 255, 511, 1023, 2047] mix (by kernel_rfl) rfl ?_
 refine Plan_float 0 rfl rfl (by kernel_rfl) (OK_s (EX_s (PS_move rfl))) ?_
 refine Plan_float 1 rfl rfl (by kernel_rfl) (OK_s (EX_s (PS_move rfl))) ?_
 refine Plan_float 2 rfl rfl (by kernel_rfl) (OK_s (EX_s (PS_nilCheck rfl))) ?_
 refine Plan_float 3 rfl rfl (by kernel_rfl) (OK_s (EX_s (PS_fieldAddr fa53_1 rfl))) ?_
 refine Plan_float 4 rfl rfl (by kernel_rfl) (OK_s (EX_s (PS_load rfl tys3 (.head _) TurnV.l1 rfl rfl))) ?_
 refine Plan_float 5 rfl rfl (by kernel_rfl) (OK_s (EX_s (PS_nilCheck rfl))) ?_
 refine Plan_float 6 rfl rfl (by kernel_rfl) (OK_s (EX_s (PS_fieldAddr fa53_0 rfl))) ?_
 refine Plan_float 7 rfl rfl (by kernel_rfl) (OK_s (EX_s (PS_fieldAddr fa34_2 rfl))) ?_
 refine Plan_float 8 rfl rfl (by kernel_rfl) (OK_s (EX_s (PS_indexAddr ia32 rfl rfl (by first | omega | exact hb.1 | exact hb.2 | (dsimp only; omega)) (by first | omega | exact hb.1 | exact hb.2 | (dsimp only; omega))))) ?_
 refine Plan_float 9 rfl rfl (by kernel_rfl) (OK_s (EX_s (PS_fieldAddr fa31_3 rfl))) ?_
 refine Plan_float 10 rfl rfl (by kernel_rfl) (OK_s (EX_s (PS_load rfl tys3 (.head _) (((TurnV.l0.comp Land.l2).comp (Lens.arr (n := 6) Being.fl (by first | omega | exact hb.1 | exact hb.2 | (dsimp only; omega)) (by first | omega | exact hb.1 | exact hb.2 | (dsimp only; omega)))).comp Being.l3) rfl rfl))) ?_
 refine Plan_float 11 rfl rfl (by kernel_rfl) (OK_s (EX_s (PS_assign rfl))) ?_
 refine Plan_end (by kernel_rfl) ?_
 refine GQ_sub (.cons (k := 0) rfl (.cons (k := 3) rfl (.nil _))) ?_
 refine GQ_then ?_
 refine G_seq ?_
 refine G_seq ?_
 refine G_region ?_
 refine GL_step rfl (PS_move rfl) ?_
 refine GL_step rfl (PS_nilCheck rfl) ?_
 refine GL_step rfl (PS_fieldAddr fa53_0 rfl) ?_
 refine GL_step rfl (PS_loadA rfl tya34 (.head _) TurnV.l0 rfl) ?_
 refine GL_step rfl (PS_move rfl) ?_
 refine GL_pure rfl cf44 (.cons rfl (.cons rfl .nil)) (fun w hS => sense_Bright_spec _ _ w) ?_
 refine GL_step rfl (PS_not rfl) ?_
 refine GL_nil ?_
 refine GQ_sub (.cons (k := 0) rfl (.cons (k := 3) rfl (.cons (k := 21) rfl (.nil _)))) ?_
 refine GQ_then ?_
 refine G_cond rfl (fun c1 => ?_) (fun c1 => ?_)
 ·
  have c1p := kz c1
  refine G_seq ?_
  refine G_region ?_
  refine GL_step rfl (PS_assign rfl) ?_
  refine GL_nil ?_
  refine GQ_sub (.cons (k := 2) rfl (.nil _)) ?_
  refine GQ_then ?_
  refine G_ret ?_
  refine GQ_then_ret ?_
  refine GQ_ret rfl (.tmp rfl .nil) ?_
  intro w1 hS
  have hS := hS.own_nil 3 1
  have hS := (hS.perm (Pulls.perm (.cons (.tail .head) (.cons .head .nil)))).headL
  have hq : T.seen = _ := if_t c1
  exact ⟨_, ⟨⟨none, 0, 0⟩, rfl, by rw [hq]; rfl, by rw [hq]; rfl⟩, hS⟩
 have c1p := kz c1
 refine G_skip ?_
 refine GQ_sub (.cons (k := 0) rfl (.cons (k := 3) rfl (.nil _))) ?_
 refine GQ_then ?_
 refine G_seq ?_
 refine G_region ?_
 refine GL_step rfl (PS_move rfl) ?_
 refine GL_step rfl (PS_nilCheck rfl) ?_
 refine GL_step rfl (PS_fieldAddr fa53_0 rfl) ?_
 refine GL_step rfl (PS_loadA rfl tya34 (.head _) TurnV.l0 rfl) ?_
 refine GL_step rfl (PS_move rfl) ?_
 refine GL_callL rfl cf29 (.cons rfl (.cons rfl (.cons rfl .nil))) .nil (land_Has_spec _ _ _) (fun v2 B hv => ?_)
 obtain ⟨y3, rfl, y4, rfl⟩ := hv
 refine GL_step rfl (PS_assign rfl) ?_
 refine GL_nil ?_
 refine GQ_sub (.cons (k := 2) rfl (.nil _)) ?_
 refine GQ_then ?_
 refine G_ret ?_
 refine GQ_ret rfl (.tmp rfl .nil) ?_
 intro w1 hS
 have hS := (hS.perm (Pulls.perm (.cons (.tail .head) (.cons .head .nil)))).headL
 have hq : T.seen = _ := (if_f c1)
 exact ⟨_, ⟨_, rfl, by rw [hq]; first | rfl | assumption, by rw [hq]; rfl⟩, hS⟩
theorem rules_turn_pick_spec (b : Nat) (T : Turn) (g : Hd) (f : Hd) (l : List Int) (z : Int) (u : Str) (a : Bool) (hF : T.Fit) (hf : f.len = l.length) (hl : l.length ≤ 100) (hi : ∀ i ∈ l, 0 ≤ i ∧ i < 9) : Ctr Tryz.prog 60 #[.pointer (some ⟨b, 0, none⟩), f.val, .int .i64 z, vstr u, .bool a] [Res.box b 53 (TurnV.enc ⟨T.w, T.b, g⟩), Res.own f 3 1 (l.flatMap encI)] (fun v B => ∃ h : Hd, v = h.val ∧ h.len = (Turn.pickL T.w l z u a).length ∧ B = [Res.box b 53 (TurnV.enc ⟨T.w, T.b, g⟩), Res.own f 3 1 (l.flatMap encI), Res.own h 3 1 ((Turn.pickL T.w l z u a).flatMap encI)]) := by
 intro w hS0
 have hb := hF.b
 have hr := hF.room
 refine Ret_body _ _ Tryz.func60 rfl rfl rfl (hS0) ?_
 refine G_seq ?_
 refine G_region ?_
 refine GL_step rfl (PS_assign rfl) ?_
 refine GL_nil ?_
 refine GQ_sub (.cons (k := 0) rfl (.cons (k := 1) rfl (.cons (k := 2) rfl (.cons (k := 3) rfl (.cons (k := 4) rfl (.nil _)))))) ?_
 refine GQ_then ?_
 refine G_seq ?_
 refine G_region ?_
 refine GL_step rfl (PS_assign rfl) ?_
 refine GL_nil ?_
 refine GQ_then ?_
 refine G_seq ?_
 refine G_seq ?_
 refine G_region ?_
 refine GL_step rfl (PS_move rfl) ?_
 refine GL_step rfl (PS_len_slice rfl Tryz.underlying66 rfl) ?_
 refine GL_step rfl (PS_move rfl) ?_
 refine GL_nil ?_
 refine GQ_sub (.cons (k := 0) rfl (.cons (k := 2) rfl (.cons (k := 3) rfl (.cons (k := 4) rfl (.cons (k := 11) rfl (.cons (k := 14) rfl (.cons (k := 15) rfl (.cons (k := 16) rfl (.nil _))))))))) ?_
 refine GQ_then ?_
 refine G_block ?_
 refine G_subF (.cons (k := 11) rfl (.cons (k := 16) rfl (.cons (k := 0) rfl (.cons (k := 2) rfl (.cons (k := 3) rfl (.cons (k := 4) rfl (.cons (k := 14) rfl (.cons (k := 15) rfl (.nil _))))))))) ?_
 refine G_nilF encI 3 1 ?_
 refine G_loop3_ (fun (k : Int) (xs : List Int) (h : Hd) => 0 ≤ k ∧ k ≤ (l.length : Int) ∧ xs = Turn.pickA T.w u (l.take k.toNat) ∧ h.len = xs.length ∧ xs.length ≤ k.toNat) (fun (k : Int) (xs : List Int) (h : Hd) => ((l.length : Int) - k).toNat) (fun (k : Int) (xs : List Int) (h : Hd) => [(11, h.val), (16, .int .i64 k)]) (fun (k : Int) (xs : List Int) (h : Hd) => [Res.own h 3 1 (xs.flatMap encI)]) (0) ([]) (_) ?_ rfl rfl (fun k xs h hI1 => ?_)
 · exact ⟨by omega, by omega, rfl, rfl, by simp⟩
 obtain ⟨hI11, hI12, hI13, hI14, hI15⟩ := hI1
 refine G_seq ?_
 refine G_region ?_
 refine GL_step rfl (PS_lss rfl rfl) ?_
 refine GL_nil ?_
 refine GQ_then ?_
 refine G_seq ?_
 refine G_cond rfl (fun c1 => ?_) (fun c1 => ?_)
 ·
  have c1p := kz c1
  have hx := hi _ (Line.getD_memI (xs := l) (i := k.toNat) (by omega))
  refine G_skip ?_
  refine GQ_sub (.cons (k := 0) rfl (.cons (k := 2) rfl (.cons (k := 3) rfl (.cons (k := 4) rfl (.cons (k := 11) rfl (.cons (k := 14) rfl (.cons (k := 15) rfl (.cons (k := 16) rfl (.nil _))))))))) ?_
  refine GQ_then ?_
  refine G_seq ?_
  refine G_block ?_
  refine G_seq ?_
  refine G_region ?_
  refine GL_step rfl (PS_idxS is66 (by decide) (Kn.own (.tail _ (.tail _ (.head _)))) rfl rfl (by omega) (by omega)) ?_
  refine GL_step rfl (PS_ldInt rfl tys3 (Kn.own (.tail _ (.tail _ (.head _)))) (by omega)) ?_
  refine GL_step rfl (PS_assign rfl) ?_
  refine GL_nil ?_
  refine GQ_sub (.cons (k := 0) rfl (.cons (k := 2) rfl (.cons (k := 3) rfl (.cons (k := 4) rfl (.cons (k := 11) rfl (.cons (k := 13) rfl (.cons (k := 14) rfl (.cons (k := 15) rfl (.cons (k := 16) rfl (.nil _)))))))))) ?_
  refine GQ_then ?_
  refine G_seq ?_
  refine G_region ?_
  refine GL_step rfl (PS_move rfl) ?_
  refine GL_step rfl (PS_eql_str rfl rfl) ?_
  refine GL_step rfl (PS_move rfl) ?_
  refine GL_gf (t := 22) rfl rfl rfl (fun q => PS_move rfl) ?_
  refine GL_gf (t := 22) rfl rfl rfl (fun q => PS_move rfl) ?_
  refine GL_gf (t := 22) rfl rfl rfl (fun q => PS_nilCheck (cvE rfl (by rw [q]; rfl))) ?_
  refine GL_gf (t := 22) rfl rfl rfl (fun q => PS_fieldAddr fa53_0 (cvE rfl (by rw [q]; rfl))) ?_
  refine GL_gf (t := 22) rfl rfl rfl (fun q => PS_fieldAddr fa34_1 (cvE rfl (by rw [q]; rfl))) ?_
  refine GL_gf (t := 22) rfl rfl rfl (fun q => by have q1 := q; (try simp at q1); exact PS_indexAddr ia29 (cvE rfl (by rw [q]; rfl)) (cvE rfl (by rw [q]; rfl)) (by first | omega | exact hb.1 | exact hb.2) (by first | omega | exact hb.1 | exact hb.2)) ?_
  refine GL_gf (t := 22) rfl rfl rfl (fun q => PS_fieldAddr fa28_0 (cvE rfl (by rw [q]; rfl))) ?_
  refine GL_gf (t := 22) rfl rfl rfl (fun q => by have q1 := q; (try simp at q1); exact PS_load (cvE rfl (by rw [q]; rfl)) tys9 (.tail _ (.head _)) (((TurnV.l0.comp Land.l1).comp (Lens.arr (n := 9) Thing.fl (by first | omega | exact hb.1 | exact hb.2) (by first | omega | exact hb.1 | exact hb.2))).comp Thing.l0) rfl rfl) ?_
  refine GL_gf (t := 22) rfl rfl rfl (fun q => PS_move rfl) ?_
  refine GL_gf (t := 22) rfl rfl rfl (fun q => PS_eql_str (cvE rfl (by rw [q]; rfl)) (cvE rfl (by rw [q]; rfl))) ?_
  refine GL_step rfl (PS_or rfl rfl (fun h => by rw [h]; rfl)) ?_
  refine GL_nil ?_
  refine GQ_sub (.cons (k := 0) rfl (.cons (k := 2) rfl (.cons (k := 3) rfl (.cons (k := 4) rfl (.cons (k := 11) rfl (.cons (k := 13) rfl (.cons (k := 14) rfl (.cons (k := 15) rfl (.cons (k := 16) rfl (.cons (k := 33) rfl (.nil _))))))))))) ?_
  refine GQ_then ?_
  refine G_cond rfl (fun c2 => ?_) (fun c2 => ?_)
  ·
   have c2p := kz c2
   refine G_region ?_
   refine GL_step rfl (PS_move rfl) ?_
   refine GL_step rfl (PS_move rfl) ?_
   refine GL_bs1F encI flI rfl Tryz.underlying66 sz3 zv3 rfl (by decide) (by decide) rfl rfl (fun b1 => ?_)
   refine GL_appendF flI rfl Tryz.underlying66 sz3 zv3 rfl by3 (by decide) (by decide) rfl rfl (fun w hS => Src.sliceT Tryz.underlying66 ((Kn.own (.head _)) w hS)) (by (try dsimp only); omega) (fun _ => (.tail .head)) (fun h1 h1l h1z => ?_)
   refine GL_step rfl (PS_assign rfl) ?_
   refine GL_nil ?_
   refine GQ_sub (.cons (k := 0) rfl (.cons (k := 2) rfl (.cons (k := 3) rfl (.cons (k := 4) rfl (.cons (k := 11) rfl (.cons (k := 14) rfl (.cons (k := 15) rfl (.cons (k := 16) rfl (.nil _))))))))) ?_
   refine GQ_block ?_
   refine GQ_then ?_
   refine G_region ?_
   refine GL_step rfl (PS_add rfl rfl (IntWalk.i64_in _ (by first | omega | exact hb.1 | exact hb.2))) ?_
   refine GL_step rfl (PS_move rfl) ?_
   refine GL_nil ?_
   refine GQ_sub (.cons (k := 0) rfl (.cons (k := 2) rfl (.cons (k := 3) rfl (.cons (k := 4) rfl (.cons (k := 11) rfl (.cons (k := 14) rfl (.cons (k := 15) rfl (.cons (k := 16) rfl (.nil _))))))))) ?_
   refine GQ_next3_ (k + 1) _ _ ?_ ?_ (.cons (k := 11) rfl (.cons (k := 16) rfl (.cons (k := 0) rfl (.cons (k := 2) rfl (.cons (k := 3) rfl (.cons (k := 4) rfl (.cons (k := 14) rfl (.cons (k := 15) rfl (.nil _))))))))) (.cons _ (.refl _))
   · exact ⟨by omega, by omega, by rw [Turn.pickA_t hI11 (by omega) c2, ← hI13], (by (try dsimp only at *) <;> (try simp only [List.length_append, List.length_cons, List.length_nil]) <;> omega), (by (try simp only [List.length_append, List.length_cons, List.length_nil]); omega)⟩
   · omega
  have c2p := kz c2
  refine G_skip ?_
  refine GQ_sub (.cons (k := 0) rfl (.cons (k := 2) rfl (.cons (k := 3) rfl (.cons (k := 4) rfl (.cons (k := 11) rfl (.cons (k := 14) rfl (.cons (k := 15) rfl (.cons (k := 16) rfl (.nil _))))))))) ?_
  refine GQ_block ?_
  refine GQ_then ?_
  refine G_region ?_
  refine GL_step rfl (PS_add rfl rfl (IntWalk.i64_in _ (by first | omega | exact hb.1 | exact hb.2))) ?_
  refine GL_step rfl (PS_move rfl) ?_
  refine GL_nil ?_
  refine GQ_sub (.cons (k := 0) rfl (.cons (k := 2) rfl (.cons (k := 3) rfl (.cons (k := 4) rfl (.cons (k := 11) rfl (.cons (k := 14) rfl (.cons (k := 15) rfl (.cons (k := 16) rfl (.nil _))))))))) ?_
  refine GQ_next3_ (k + 1) _ _ ?_ ?_ (.cons (k := 11) rfl (.cons (k := 16) rfl (.cons (k := 0) rfl (.cons (k := 2) rfl (.cons (k := 3) rfl (.cons (k := 4) rfl (.cons (k := 14) rfl (.cons (k := 15) rfl (.nil _))))))))) (.refl _)
  · exact ⟨by omega, by omega, by rw [Turn.pickA_f hI11 (by omega) c2, ← hI13], (by (try dsimp only at *) <;> (try simp only [List.length_append, List.length_cons, List.length_nil]) <;> omega), (by (try simp only [List.length_append, List.length_cons, List.length_nil]); omega)⟩
  · omega
 have c1p := kz c1
 obtain rfl : k = (l.length : Int) := by omega
 have hx3 := hI13
 rw [show (l.length : Int).toNat = l.length by omega, List.take_length] at hx3
 have hpa := Turn.pickA_len T.w u l
 rw [← hx3] at hpa
 refine G_exit ?_
 refine GQ_then_exit ?_
 refine GQ_then_exit ?_
 refine GQ_block_exit ?_
 refine GQ_sub (.cons (k := 2) rfl (.cons (k := 4) rfl (.cons (k := 11) rfl (.nil _)))) ?_
 refine GQ_then ?_
 refine G_seq ?_
 refine G_seq ?_
 refine G_region ?_
 refine GL_step rfl (PS_move rfl) ?_
 refine GL_nil ?_
 refine GQ_sub (.cons (k := 2) rfl (.cons (k := 11) rfl (.cons (k := 39) rfl (.nil _)))) ?_
 refine GQ_then ?_
 refine G_cond rfl (fun c3 => ?_) (fun c3 => ?_)
 ·
  have c3p := kz c3
  refine G_seq ?_
  refine G_region ?_
  refine GL_step rfl (PS_move rfl) ?_
  refine GL_step rfl (PS_assign rfl) ?_
  refine GL_nil ?_
  refine GQ_sub (.cons (k := 10) rfl (.nil _)) ?_
  refine GQ_then ?_
  refine G_ret ?_
  refine GQ_then_ret ?_
  refine GQ_ret rfl (.tmp rfl .nil) ?_
  intro w1 hS
  have hS := (hS.perm (Pulls.perm (.cons (.tail .head) (.cons (.tail .head) (.cons .head .nil))))).headL
  have hq : Turn.pickL T.w l z u a = _ := (if_t c3)
  refine ⟨_, ⟨_, rfl, ?hl1, ?hB1⟩, hS⟩
  case hB1 => rw [hq]; (try rw [← hx3]); (try rfl)
  case hl1 => rw [hq]; first | rfl | (rw [← hx3]; first | assumption | (simp only [Hd.cut, List.length_drop, List.length_take]; omega))
 have c3p := kz c3
 refine G_skip ?_
 refine GQ_sub (.cons (k := 2) rfl (.cons (k := 11) rfl (.nil _))) ?_
 refine GQ_then ?_
 refine G_seq ?_
 refine G_seq ?_
 refine G_region ?_
 refine GL_step rfl (PS_move rfl) ?_
 refine GL_step rfl (PS_lss rfl rfl) ?_
 refine GL_step rfl (PS_move rfl) ?_
 refine GL_gf (t := 43) rfl rfl rfl (fun q => PS_move rfl) ?_
 refine GL_gf (t := 43) rfl rfl rfl (fun q => PS_move rfl) ?_
 refine GL_gf (t := 43) rfl rfl rfl (fun q => PS_len_slice rfl Tryz.underlying66 (cvE rfl (by rw [q]; rfl))) ?_
 refine GL_gf (t := 43) rfl rfl rfl (fun q => PS_gtr (cvE rfl (by rw [q]; rfl)) (cvE rfl (by rw [q]; rfl))) ?_
 refine GL_step rfl (PS_or rfl rfl (fun h => by rw [h]; rfl)) ?_
 refine GL_nil ?_
 refine GQ_sub (.cons (k := 2) rfl (.cons (k := 11) rfl (.cons (k := 48) rfl (.nil _)))) ?_
 refine GQ_then ?_
 refine G_cond rfl (fun c4 => ?_) (fun c4 => ?_)
 ·
  have c4p := kz c4
  rw [hI14, hx3] at c4
  refine G_seq ?_
  refine G_region ?_
  refine GL_step rfl (PS_assign rfl) ?_
  refine GL_nil ?_
  refine GQ_sub (.cons (k := 10) rfl (.nil _)) ?_
  refine GQ_then ?_
  refine G_ret ?_
  refine GQ_then_ret ?_
  refine GQ_ret rfl (.tmp rfl .nil) ?_
  intro w1 hS
  have hS := hS.own_nil 3 1
  have hS := (hS.perm (Pulls.perm (.cons (.tail (.tail .head)) (.cons (.tail (.tail .head)) (.cons .head .nil))))).headL
  have hq : Turn.pickL T.w l z u a = _ := ((if_f c3).trans (if_t c4))
  refine ⟨_, ⟨⟨none, 0, 0⟩, rfl, ?hl2, ?hB2⟩, hS⟩
  case hB2 => rw [hq]; (try rw [← hx3]); (try rfl)
  case hl2 => rw [hq]; first | rfl | (rw [← hx3]; first | assumption | (simp only [Hd.cut, List.length_drop, List.length_take]; omega))
 have c4p := kz c4
 have c4q := c4p
 rw [hI14, hx3] at c4
 refine G_skip ?_
 refine GQ_sub (.cons (k := 2) rfl (.cons (k := 11) rfl (.nil _))) ?_
 refine GQ_then ?_
 refine G_seq ?_
 refine G_region ?_
 refine GL_step rfl (PS_move rfl) ?_
 refine GL_step rfl (PS_move rfl) ?_
 refine GL_step rfl (PS_sub rfl rfl (IntWalk.i64_in _ (by first | omega | exact hb.1 | exact hb.2))) ?_
 refine GL_step rfl (PS_move rfl) ?_
 refine GL_cutMidF flI rfl Tryz.underlying66 sz3 rfl rfl rfl (by first | omega | exact hb.1 | exact hb.2) (by first | omega | exact hb.1 | exact hb.2) (by first | omega | exact hb.1 | exact hb.2) (fun _ => .head) ?_
 refine GL_step rfl (PS_assign rfl) ?_
 refine GL_nil ?_
 refine GQ_sub (.cons (k := 10) rfl (.nil _)) ?_
 refine GQ_then ?_
 refine G_ret ?_
 refine GQ_ret rfl (.tmp rfl .nil) ?_
 intro w1 hS
 have hS := (hS.perm (Pulls.perm (.cons (.tail .head) (.cons (.tail .head) (.cons .head .nil))))).headL
 have hq : Turn.pickL T.w l z u a = _ := ((if_f c3).trans (if_f c4))
 refine ⟨_, ⟨_, rfl, ?hl3, ?hB3⟩, hS⟩
 case hB3 => rw [hq]; (try rw [← hx3]); (try rfl)
 case hl3 => rw [hq]; first | rfl | (rw [← hx3]; first | assumption | (simp only [Hd.cut, List.length_drop, List.length_take]; omega))
theorem rules_turn_thing_spec (b : Nat) (T : Turn) (g : Hd) (k i : Int) (hg : g.len = T.out.length) (hb : 0 ≤ T.b ∧ T.b < 6) (hi : 0 ≤ i ∧ i < 9) (hn : T.out.length ≤ 100000) : Ctr Tryz.prog 61 #[.pointer (some ⟨b, 0, none⟩), .int .i64 k, .int .i64 i] [Res.box b 53 (TurnV.enc ⟨T.w, T.b, g⟩), Res.own g 60 16 (T.out.flatMap Ing.Event.enc)] (fun v B => ∃ g' : Hd, v = .tuple #[] ∧ g'.len = (T.thing k i).out.length ∧ B = [Res.box b 53 (TurnV.enc ⟨(T.thing k i).w, (T.thing k i).b, g'⟩), Res.own g' 60 16 ((T.thing k i).out.flatMap Ing.Event.enc)]) := by
 intro w hS0
 refine Ret_body _ _ Tryz.func61 rfl rfl rfl (hS0) ?_
 refine G_region ?_
 refine GL_step rfl (PS_move rfl) ?_
 refine GL_step rfl (PS_move rfl) ?_
 refine GL_step rfl (PS_move rfl) ?_
 refine GL_step rfl (PS_move rfl) ?_
 refine GL_step rfl (PS_nilCheck rfl) ?_
 refine GL_step rfl (PS_fieldAddr fa53_0 rfl) ?_
 refine GL_step rfl (PS_fieldAddr fa34_1 rfl) ?_
 refine GL_step rfl (PS_indexAddr ia29 rfl rfl (by (try dsimp only at *); omega) (by (try dsimp only at *); omega)) ?_
 refine GL_step rfl (PS_fieldAddr fa28_0 rfl) ?_
 refine GL_step rfl (PS_load rfl tys9 (.head _) (((TurnV.l0.comp Land.l1).comp (Lens.arr (n := 9) Thing.fl (by (try dsimp only at *); omega) (by (try dsimp only at *); omega))).comp Thing.l0) rfl rfl) ?_
 refine GL_step rfl (PS_build pl60 zv60 rfl (.cons Ing.Event.l0 rfl rfl rfl (.cons Ing.Event.l3 rfl rfl rfl (.cons Ing.Event.l8 rfl rfl rfl .nil)))) ?_
 refine GL_callL rfl cf23 (.cons rfl (.cons rfl .nil)) (.cons .head (.cons .head .nil)) (rules_turn_happens_spec _ _ _ { Turn.evk k with thing := (T.w.things.at i).name } hg hb (show (-1 : Int) < 6 by decide) hn) (fun v1 B hv => ?_)
 obtain ⟨y2, rfl, y3, rfl⟩ := hv
 refine GL_nil ?_
 refine GQ_end rfl .nil ?_
 intro w1 hS
 have hS := (hS.perm (Pulls.perm (.cons .head (.cons .head .nil)))).headL
 exact ⟨_, ⟨_, rfl, by assumption, rfl⟩, hS⟩
theorem rules_turn_get_spec (b : Nat) (T : Turn) (g : Hd) (o : Order) (hg : g.len = T.out.length) (hF : T.Fit) (hu : o.second.length ≤ 140737488351232) (hn : T.out.length ≤ 90000) (hz : o.second = []) : CtrR Tryz.prog 32 #[.pointer (some ⟨b, 0, none⟩), .agg o.enc.toArray] [Res.box b 53 (TurnV.enc ⟨T.w, T.b, g⟩), Res.own g 60 16 (T.out.flatMap Ing.Event.enc)] (fun w => (GVE 3 w ∧ 3 ∉ feet [Res.box b 53 (TurnV.enc ⟨T.w, T.b, g⟩), Res.own g 60 16 (T.out.flatMap Ing.Event.enc)]) ∧ (GVE 4 w ∧ 4 ∉ feet [Res.box b 53 (TurnV.enc ⟨T.w, T.b, g⟩), Res.own g 60 16 (T.out.flatMap Ing.Event.enc)])) (fun v B => ∃ g' : Hd, v = .tuple #[] ∧ g'.len = (T.get o).out.length ∧ B = [Res.box b 53 (TurnV.enc ⟨(T.get o).w, (T.get o).b, g'⟩), Res.own g' 60 16 ((T.get o).out.flatMap Ing.Event.enc)]) := by
 intro w hS0 hH
 obtain ⟨⟨gl0, gm0⟩, ⟨gl1, gm1⟩⟩ := hH
 have hb := hF.b
 have hr := hF.room
 refine Ret_body _ _ Tryz.func32 rfl rfl rfl (hS0) ?_
 refine G_seq ?_
 refine G_region ?_
 refine GL_box rfl rfl rfl (fun b1 => ?_)
 refine GL_nil ?_
 refine GQ_sub (.cons (k := 0) rfl (.cons (k := 3) rfl (.nil _))) ?_
 refine GQ_then ?_
 refine G_seq ?_
 refine G_region ?_
 refine GL_step rfl (PS_move rfl) ?_
 refine GL_callL rfl cf58 (.cons rfl .nil) (.cons (.tail .head) .nil) (rules_turn_seen_spec _ _ _ (by first | assumption | omega)) (fun v1 B hv => ?_)
 obtain ⟨y2, rfl, y3, rfl⟩ := hv
 refine GL_step rfl (PS_assign rfl) ?_
 refine GL_nil ?_
 refine GQ_sub (.cons (k := 0) rfl (.cons (k := 3) rfl (.cons (k := 4) rfl (.nil _)))) ?_
 refine GQ_then ?_
 refine G_seq ?_
 refine G_seq ?_
 refine G_region ?_
 refine GL_step rfl (PS_fieldAddr fa47_4 rfl) ?_
 refine GL_step rfl (PS_load rfl tys9 (.tail _ (.tail _ (.head _))) Order.l4 rfl rfl) ?_
 refine GL_step rfl (PS_neq_str rfl rfl) ?_
 refine GL_nil ?_
 refine GQ_sub (.cons (k := 0) rfl (.cons (k := 3) rfl (.cons (k := 4) rfl (.cons (k := 14) rfl (.nil _))))) ?_
 refine GQ_then ?_
 refine G_false rfl (by rw [hz]; rfl) ?_
 refine G_skip ?_
 refine GQ_sub (.cons (k := 0) rfl (.cons (k := 3) rfl (.cons (k := 4) rfl (.nil _)))) ?_
 refine GQ_then ?_
 refine G_seq ?_
 refine G_region ?_
 refine GL_step rfl (PS_move rfl) ?_
 refine GL_step rfl (PS_move rfl) ?_
 refine GL_step rfl (PS_fieldAddr fa47_1 rfl) ?_
 refine GL_step rfl (PS_load rfl tys3 (.tail _ (.tail _ (.head _))) Order.l1 rfl rfl) ?_
 refine GL_step rfl (PS_fieldAddr fa47_3 rfl) ?_
 refine GL_step rfl (PS_load rfl tys9 (.tail _ (.tail _ (.head _))) Order.l3 rfl rfl) ?_
 refine GL_step rfl (PS_fieldAddr fa47_2 rfl) ?_
 refine GL_step rfl (PS_load rfl tys4 (.tail _ (.tail _ (.head _))) Order.l2 rfl rfl) ?_
 refine GL_callL rfl cf60 (.cons rfl (.cons rfl (.cons rfl (.cons rfl (.cons rfl .nil))))) (.cons .head (.cons .head .nil)) (rules_turn_pick_spec _ T _ _ T.seen _ _ _ hF (by assumption) (Nat.le_trans T.seen_len (by decide)) (fun i hi => Turn.seen_rng hi)) (fun v5 B hv => ?_)
 obtain ⟨y6, rfl, y7, rfl⟩ := hv
 refine GL_step rfl (PS_assign rfl) ?_
 refine GL_nil ?_
 refine GQ_sub (.cons (k := 0) rfl (.cons (k := 4) rfl (.nil _))) ?_
 refine GQ_then ?_
 refine G_seq ?_
 refine G_seq ?_
 refine G_region ?_
 refine GL_step rfl (PS_move rfl) ?_
 refine GL_step rfl (PS_len_slice rfl Tryz.underlying66 rfl) ?_
 refine GL_step rfl (PS_eql rfl rfl) ?_
 refine GL_nil ?_
 refine GQ_sub (.cons (k := 0) rfl (.cons (k := 4) rfl (.cons (k := 41) rfl (.nil _)))) ?_
 refine GQ_then ?_
 refine G_cond rfl (fun c1 => ?_) (fun c1 => ?_)
 ·
  have c1p := kz c1
  rw [y7] at c1
  refine G_region ?_
  refine GL_step rfl (PS_move rfl) ?_
  refine GL_callL rfl cf45 (.cons rfl (.cons rfl .nil)) (.cons .head (.cons (.tail (.tail (.tail .head))) .nil)) (rules_turn_tell_spec _ T _ _ (by assumption) (by exact hb) (by have := T.box_out o.second; omega)) (fun v9 B hv => ?_)
  obtain ⟨y10, rfl, y11, rfl⟩ := hv
  refine GL_nil ?_
  refine GQ_sub (.cons (k := 0) rfl (.cons (k := 4) rfl (.nil _))) ?_
  refine GQ_then ?_
  refine G_seq ?_
  refine G_region ?_
  refine GL_step rfl (PS_move rfl) ?_
  refine GL_step rfl (PS_len_slice rfl Tryz.underlying66 rfl) ?_
  refine GL_step rfl (PS_move rfl) ?_
  refine GL_nil ?_
  refine GQ_sub (.cons (k := 0) rfl (.cons (k := 44) rfl (.cons (k := 45) rfl (.cons (k := 46) rfl (.nil _))))) ?_
  refine GQ_then ?_
  refine G_block ?_
  refine G_subF (.cons (k := 46) rfl (.cons (k := 0) rfl (.cons (k := 44) rfl (.cons (k := 45) rfl (.nil _))))) ?_
  refine G_pull (.tail .head) ?_
  refine G_pull (.tail .head) ?_
  refine G_loop3_ (fun (k : Int) (X : Turn) (h : Hd) => 0 ≤ k ∧ k ≤ ((Turn.pickL T.w T.seen o.nth o.name o.all_).length : Int) ∧ T.get o = X.takeAll ((Turn.pickL T.w T.seen o.nth o.name o.all_).drop k.toNat) ∧ X.b = T.b ∧ (X.out.length : Int) ≤ T.out.length + 2 + k ∧ h.len = X.out.length ∧ ((Turn.pickL T.w T.seen o.nth o.name o.all_).length : Int) ≤ 9) (fun (k : Int) (X : Turn) (h : Hd) => (((Turn.pickL T.w T.seen o.nth o.name o.all_).length : Int) - k).toNat) (fun (k : Int) (X : Turn) (h : Hd) => [(46, .int .i64 k)]) (fun (k : Int) (X : Turn) (h : Hd) => [Res.box b 53 (TurnV.enc ⟨X.w, X.b, h⟩), Res.own h 60 16 (X.out.flatMap Ing.Event.enc)]) (0) (_) (_) ?_ rfl rfl (fun k X h hI1 => ?_)
  · exact ⟨by omega, by omega, (if_f (show (!decide (o.second = [])) = false by rw [hz]; rfl)).trans (congrArg (fun q => Turn.takeAll q _) (if_t c1)), rfl, by have := T.box_out o.second; (try simp only [Turn.tell_len]); omega, by assumption, by have := (Turn.pickL_sub T.w T.seen o.nth o.name o.all_).length_le; have := T.seen_len; omega⟩
  obtain ⟨hI11, hI12, hI13, hI14, hI15, hI16, hI17⟩ := hI1
  refine G_seq ?_
  refine G_region ?_
  refine GL_step rfl (PS_lss rfl rfl) ?_
  refine GL_nil ?_
  refine GQ_then ?_
  refine G_seq ?_
  refine G_cond rfl (fun c2 => ?_) (fun c2 => ?_)
  ·
   have c2p := kz c2
   have hx : 0 ≤ (Turn.pickL T.w T.seen o.nth o.name o.all_).getD k.toNat 0 ∧ (Turn.pickL T.w T.seen o.nth o.name o.all_).getD k.toNat 0 < 9 := (fun i hi => Turn.seen_rng (Turn.pickL_mem hi)) _ (Line.getD_memI (xs := (Turn.pickL T.w T.seen o.nth o.name o.all_)) (i := k.toNat) (by omega))
   refine G_skip ?_
   refine GQ_sub (.cons (k := 0) rfl (.cons (k := 44) rfl (.cons (k := 45) rfl (.cons (k := 46) rfl (.nil _))))) ?_
   refine GQ_then ?_
   refine G_seq ?_
   refine G_block ?_
   refine G_seq ?_
   refine G_region ?_
   refine GL_step rfl (PS_idxS is66 (by decide) (Kn.own (.tail _ (.tail _ (.tail _ (.head _))))) rfl rfl (by omega) (by omega)) ?_
   refine GL_step rfl (PS_ldInt rfl tys3 (Kn.own (.tail _ (.tail _ (.tail _ (.head _))))) (by omega)) ?_
   refine GL_step rfl (PS_assign rfl) ?_
   refine GL_nil ?_
   refine GQ_sub (.cons (k := 0) rfl (.cons (k := 8) rfl (.cons (k := 44) rfl (.cons (k := 45) rfl (.cons (k := 46) rfl (.nil _)))))) ?_
   refine GQ_then ?_
   refine G_seq ?_
   refine G_region ?_
   refine GL_step rfl (PS_move rfl) ?_
   refine GL_step rfl (PS_move rfl) ?_
   refine GL_step rfl (PS_nilCheck rfl) ?_
   refine GL_step rfl (PS_fieldAddr fa53_0 rfl) ?_
   refine GL_step rfl (PS_fieldAddr fa34_1 rfl) ?_
   refine GL_step rfl (PS_indexAddr ia29 rfl rfl (by first | omega | exact hb.1 | exact hb.2 | (dsimp only; omega)) (by first | omega | exact hb.1 | exact hb.2 | (dsimp only; omega))) ?_
   refine GL_step rfl (PS_assign rfl) ?_
   refine GL_nil ?_
   refine GQ_sub (.cons (k := 0) rfl (.cons (k := 8) rfl (.cons (k := 9) rfl (.cons (k := 44) rfl (.cons (k := 45) rfl (.cons (k := 46) rfl (.nil _))))))) ?_
   refine GQ_then ?_
   refine G_seq ?_
   refine G_region ?_
   refine GL_step rfl (PS_move rfl) ?_
   refine GL_step rfl (PS_move rfl) ?_
   refine GL_step rfl (PS_move rfl) ?_
   refine GL_step rfl (PS_nilCheck rfl) ?_
   refine GL_step rfl (PS_fieldAddr fa53_1 rfl) ?_
   refine GL_step rfl (PS_load rfl tys3 (.head _) TurnV.l1 rfl rfl) ?_
   refine GL_step rfl (PS_nilCheck rfl) ?_
   refine GL_step rfl (PS_fieldAddr fa28_2 rfl) ?_
   refine GL_unit (PU_store (((TurnV.l0.comp Land.l1).comp (Lens.arr (n := 9) Thing.fl (by first | omega | exact hb.1 | exact hb.2 | (dsimp only; omega)) (by first | omega | exact hb.1 | exact hb.2 | (dsimp only; omega)))).comp Thing.l2) rfl rfl rfl sz3 rfl .head) ?_
   refine GL_step rfl (PS_nilCheck rfl) ?_
   refine GL_step rfl (PS_fieldAddr fa28_3 rfl) ?_
   refine GL_unit (PU_store (((TurnV.l0.comp Land.l1).comp (Lens.arr (n := 9) Thing.fl (by first | omega | exact hb.1 | exact hb.2 | (dsimp only; omega)) (by first | omega | exact hb.1 | exact hb.2 | (dsimp only; omega)))).comp Thing.l3) rfl rfl rfl sz3 rfl .head) ?_
   refine GL_nil ?_
   refine GQ_sub (.cons (k := 0) rfl (.cons (k := 8) rfl (.cons (k := 44) rfl (.cons (k := 45) rfl (.cons (k := 46) rfl (.nil _)))))) ?_
   refine GQ_then ?_
   refine G_swap (fun _ => .head) (congrArg (fun q => TurnV.enc ⟨q, _, _⟩) (Turn.place_eq X hx.1 hx.2 1 X.b)) ?_
   refine G_region ?_
   refine GL_step rfl (PS_move rfl) ?_
   refine GL_step rfl (PS_move rfl) ?_
   refine GL_callL rfl cf61 (.cons rfl (.cons rfl (.cons rfl .nil))) (.cons .head (.cons .head .nil)) (rules_turn_thing_spec _ (X.place ((Turn.pickL T.w T.seen o.nth o.name o.all_).getD k.toNat 0) 1 X.b) _ 3 ((Turn.pickL T.w T.seen o.nth o.name o.all_).getD k.toNat 0) (by assumption) (show 0 ≤ X.b ∧ X.b < 6 by rw [hI14]; exact hb) hx (show X.out.length ≤ 100000 by omega)) (fun v12 B hv => ?_)
   obtain ⟨y13, rfl, y14, rfl⟩ := hv
   refine GL_nil ?_
   refine GQ_sub (.cons (k := 0) rfl (.cons (k := 44) rfl (.cons (k := 45) rfl (.cons (k := 46) rfl (.nil _))))) ?_
   refine GQ_block ?_
   refine GQ_then ?_
   refine G_region ?_
   refine GL_step rfl (PS_add rfl rfl (IntWalk.i64_in _ (by first | omega | exact hb.1 | exact hb.2 | (dsimp only; omega)))) ?_
   refine GL_step rfl (PS_move rfl) ?_
   refine GL_nil ?_
   refine GQ_sub (.cons (k := 0) rfl (.cons (k := 44) rfl (.cons (k := 45) rfl (.cons (k := 46) rfl (.nil _))))) ?_
   refine GQ_next3_ (k + 1) _ _ ?_ ?_ (.cons (k := 46) rfl (.cons (k := 0) rfl (.cons (k := 44) rfl (.cons (k := 45) rfl (.nil _))))) (.refl _)
   · exact ⟨by omega, by omega, by rw [hI13, Turn.takeAll_step hI11 (by omega)], hI14, (by rw [Turn.thing_len]; show ((X.out.length + 1 : Nat) : Int) ≤ _; omega), by assumption, hI17⟩
   · omega
  have c2p := kz c2
  obtain rfl : k = ((Turn.pickL T.w T.seen o.nth o.name o.all_).length : Int) := by omega
  rw [Turn.drop_end] at hI13
  refine G_exit ?_
  refine GQ_then_exit ?_
  refine GQ_then_exit ?_
  refine GQ_block_exit ?_
  refine GQ_end rfl .nil ?_
  intro w1 hS
  have hS := (hS.perm (Pulls.perm (.cons .head (.cons .head .nil)))).headL
  refine ⟨_, ⟨?gq1, rfl, ?hl1, ?hB1⟩, hS⟩
  case hB1 => rw [hI13]; rfl
  case hl1 => rw [hI13]; exact hI16
 have c1p := kz c1
 rw [y7] at c1
 refine G_skip ?_
 refine GQ_sub (.cons (k := 0) rfl (.cons (k := 4) rfl (.nil _))) ?_
 refine GQ_then ?_
 refine G_seq ?_
 refine G_region ?_
 refine GL_step rfl (PS_move rfl) ?_
 refine GL_step rfl (PS_len_slice rfl Tryz.underlying66 rfl) ?_
 refine GL_step rfl (PS_move rfl) ?_
 refine GL_nil ?_
 refine GQ_sub (.cons (k := 0) rfl (.cons (k := 44) rfl (.cons (k := 45) rfl (.cons (k := 46) rfl (.nil _))))) ?_
 refine GQ_then ?_
 refine G_block ?_
 refine G_subF (.cons (k := 46) rfl (.cons (k := 0) rfl (.cons (k := 44) rfl (.cons (k := 45) rfl (.nil _))))) ?_
 refine G_pull (.tail (.tail (.tail (.tail .head)))) ?_
 refine G_pull (.tail .head) ?_
 refine G_loop3_ (fun (k : Int) (X : Turn) (h : Hd) => 0 ≤ k ∧ k ≤ ((Turn.pickL T.w T.seen o.nth o.name o.all_).length : Int) ∧ T.get o = X.takeAll ((Turn.pickL T.w T.seen o.nth o.name o.all_).drop k.toNat) ∧ X.b = T.b ∧ (X.out.length : Int) ≤ T.out.length + 2 + k ∧ h.len = X.out.length ∧ ((Turn.pickL T.w T.seen o.nth o.name o.all_).length : Int) ≤ 9) (fun (k : Int) (X : Turn) (h : Hd) => (((Turn.pickL T.w T.seen o.nth o.name o.all_).length : Int) - k).toNat) (fun (k : Int) (X : Turn) (h : Hd) => [(46, .int .i64 k)]) (fun (k : Int) (X : Turn) (h : Hd) => [Res.box b 53 (TurnV.enc ⟨X.w, X.b, h⟩), Res.own h 60 16 (X.out.flatMap Ing.Event.enc)]) (0) (_) (_) ?_ rfl rfl (fun k X h hI1 => ?_)
 · exact ⟨by omega, by omega, (if_f (show (!decide (o.second = [])) = false by rw [hz]; rfl)).trans (congrArg (fun q => Turn.takeAll q _) (if_f c1)), rfl, by have := T.box_out o.second; (try simp only [Turn.tell_len]); omega, by assumption, by have := (Turn.pickL_sub T.w T.seen o.nth o.name o.all_).length_le; have := T.seen_len; omega⟩
 obtain ⟨hI11, hI12, hI13, hI14, hI15, hI16, hI17⟩ := hI1
 refine G_seq ?_
 refine G_region ?_
 refine GL_step rfl (PS_lss rfl rfl) ?_
 refine GL_nil ?_
 refine GQ_then ?_
 refine G_seq ?_
 refine G_cond rfl (fun c3 => ?_) (fun c3 => ?_)
 ·
  have c3p := kz c3
  have hx : 0 ≤ (Turn.pickL T.w T.seen o.nth o.name o.all_).getD k.toNat 0 ∧ (Turn.pickL T.w T.seen o.nth o.name o.all_).getD k.toNat 0 < 9 := (fun i hi => Turn.seen_rng (Turn.pickL_mem hi)) _ (Line.getD_memI (xs := (Turn.pickL T.w T.seen o.nth o.name o.all_)) (i := k.toNat) (by omega))
  refine G_skip ?_
  refine GQ_sub (.cons (k := 0) rfl (.cons (k := 44) rfl (.cons (k := 45) rfl (.cons (k := 46) rfl (.nil _))))) ?_
  refine GQ_then ?_
  refine G_seq ?_
  refine G_block ?_
  refine G_seq ?_
  refine G_region ?_
  refine GL_step rfl (PS_idxS is66 (by decide) (Kn.own (.tail _ (.tail _ (.tail _ (.head _))))) rfl rfl (by omega) (by omega)) ?_
  refine GL_step rfl (PS_ldInt rfl tys3 (Kn.own (.tail _ (.tail _ (.tail _ (.head _))))) (by omega)) ?_
  refine GL_step rfl (PS_assign rfl) ?_
  refine GL_nil ?_
  refine GQ_sub (.cons (k := 0) rfl (.cons (k := 8) rfl (.cons (k := 44) rfl (.cons (k := 45) rfl (.cons (k := 46) rfl (.nil _)))))) ?_
  refine GQ_then ?_
  refine G_seq ?_
  refine G_region ?_
  refine GL_step rfl (PS_move rfl) ?_
  refine GL_step rfl (PS_move rfl) ?_
  refine GL_step rfl (PS_nilCheck rfl) ?_
  refine GL_step rfl (PS_fieldAddr fa53_0 rfl) ?_
  refine GL_step rfl (PS_fieldAddr fa34_1 rfl) ?_
  refine GL_step rfl (PS_indexAddr ia29 rfl rfl (by first | omega | exact hb.1 | exact hb.2 | (dsimp only; omega)) (by first | omega | exact hb.1 | exact hb.2 | (dsimp only; omega))) ?_
  refine GL_step rfl (PS_assign rfl) ?_
  refine GL_nil ?_
  refine GQ_sub (.cons (k := 0) rfl (.cons (k := 8) rfl (.cons (k := 9) rfl (.cons (k := 44) rfl (.cons (k := 45) rfl (.cons (k := 46) rfl (.nil _))))))) ?_
  refine GQ_then ?_
  refine G_seq ?_
  refine G_region ?_
  refine GL_step rfl (PS_move rfl) ?_
  refine GL_step rfl (PS_move rfl) ?_
  refine GL_step rfl (PS_move rfl) ?_
  refine GL_step rfl (PS_nilCheck rfl) ?_
  refine GL_step rfl (PS_fieldAddr fa53_1 rfl) ?_
  refine GL_step rfl (PS_load rfl tys3 (.head _) TurnV.l1 rfl rfl) ?_
  refine GL_step rfl (PS_nilCheck rfl) ?_
  refine GL_step rfl (PS_fieldAddr fa28_2 rfl) ?_
  refine GL_unit (PU_store (((TurnV.l0.comp Land.l1).comp (Lens.arr (n := 9) Thing.fl (by first | omega | exact hb.1 | exact hb.2 | (dsimp only; omega)) (by first | omega | exact hb.1 | exact hb.2 | (dsimp only; omega)))).comp Thing.l2) rfl rfl rfl sz3 rfl .head) ?_
  refine GL_step rfl (PS_nilCheck rfl) ?_
  refine GL_step rfl (PS_fieldAddr fa28_3 rfl) ?_
  refine GL_unit (PU_store (((TurnV.l0.comp Land.l1).comp (Lens.arr (n := 9) Thing.fl (by first | omega | exact hb.1 | exact hb.2 | (dsimp only; omega)) (by first | omega | exact hb.1 | exact hb.2 | (dsimp only; omega)))).comp Thing.l3) rfl rfl rfl sz3 rfl .head) ?_
  refine GL_nil ?_
  refine GQ_sub (.cons (k := 0) rfl (.cons (k := 8) rfl (.cons (k := 44) rfl (.cons (k := 45) rfl (.cons (k := 46) rfl (.nil _)))))) ?_
  refine GQ_then ?_
  refine G_swap (fun _ => .head) (congrArg (fun q => TurnV.enc ⟨q, _, _⟩) (Turn.place_eq X hx.1 hx.2 1 X.b)) ?_
  refine G_region ?_
  refine GL_step rfl (PS_move rfl) ?_
  refine GL_step rfl (PS_move rfl) ?_
  refine GL_callL rfl cf61 (.cons rfl (.cons rfl (.cons rfl .nil))) (.cons .head (.cons .head .nil)) (rules_turn_thing_spec _ (X.place ((Turn.pickL T.w T.seen o.nth o.name o.all_).getD k.toNat 0) 1 X.b) _ 3 ((Turn.pickL T.w T.seen o.nth o.name o.all_).getD k.toNat 0) (by assumption) (show 0 ≤ X.b ∧ X.b < 6 by rw [hI14]; exact hb) hx (show X.out.length ≤ 100000 by omega)) (fun v15 B hv => ?_)
  obtain ⟨y16, rfl, y17, rfl⟩ := hv
  refine GL_nil ?_
  refine GQ_sub (.cons (k := 0) rfl (.cons (k := 44) rfl (.cons (k := 45) rfl (.cons (k := 46) rfl (.nil _))))) ?_
  refine GQ_block ?_
  refine GQ_then ?_
  refine G_region ?_
  refine GL_step rfl (PS_add rfl rfl (IntWalk.i64_in _ (by first | omega | exact hb.1 | exact hb.2 | (dsimp only; omega)))) ?_
  refine GL_step rfl (PS_move rfl) ?_
  refine GL_nil ?_
  refine GQ_sub (.cons (k := 0) rfl (.cons (k := 44) rfl (.cons (k := 45) rfl (.cons (k := 46) rfl (.nil _))))) ?_
  refine GQ_next3_ (k + 1) _ _ ?_ ?_ (.cons (k := 46) rfl (.cons (k := 0) rfl (.cons (k := 44) rfl (.cons (k := 45) rfl (.nil _))))) (.refl _)
  · exact ⟨by omega, by omega, by rw [hI13, Turn.takeAll_step hI11 (by omega)], hI14, (by rw [Turn.thing_len]; show ((X.out.length + 1 : Nat) : Int) ≤ _; omega), by assumption, hI17⟩
  · omega
 have c3p := kz c3
 obtain rfl : k = ((Turn.pickL T.w T.seen o.nth o.name o.all_).length : Int) := by omega
 rw [Turn.drop_end] at hI13
 refine G_exit ?_
 refine GQ_then_exit ?_
 refine GQ_then_exit ?_
 refine GQ_block_exit ?_
 refine GQ_end rfl .nil ?_
 intro w1 hS
 have hS := (hS.perm (Pulls.perm (.cons .head (.cons .head .nil)))).headL
 refine ⟨_, ⟨?gq2, rfl, ?hl2, ?hB2⟩, hS⟩
 case hB2 => rw [hI13]; rfl
 case hl2 => rw [hI13]; exact hI16
theorem rules_Do_spec (X : Land) (b : Int) (o : Order) (hw : X.Brief) (hu : o.second.length ≤ 140737488351232) (hm : o.name.length ≤ 140737488351232) (hv : o.verb = 7) (hz : o.second = []) : CtrR Tryz.prog 14 #[.agg X.enc.toArray, .int .i64 b, .agg o.enc.toArray] [] (fun w => (GV 1 Land.verbsV w ∧ 1 ∉ feet []) ∧ (GVE 3 w ∧ 3 ∉ feet []) ∧ (GVE 4 w ∧ 4 ∉ feet [])) (fun v B => ∃ h : Hd, v = .tuple #[.agg ((Turn.doR X b o).1.enc).toArray, h.val, .int .i64 (Turn.doR X b o).2.2] ∧ h.len = (Turn.doR X b o).2.1.length ∧ B = [Res.own h 60 16 ((Turn.doR X b o).2.1.flatMap Ing.Event.enc)]) := by
 intro w hS0 hH
 obtain ⟨⟨gl0, gm0⟩, ⟨gl1, gm1⟩, ⟨gl2, gm2⟩⟩ := hH
 refine Ret_body _ _ Tryz.func14 rfl rfl rfl (hS0) ?_
 refine G_seq ?_
 refine G_region ?_
 refine GL_box rfl rfl rfl (fun b1 => ?_)
 refine GL_box rfl rfl rfl (fun b2 => ?_)
 refine GL_alloc rfl zv34 rfl (fun b3 => ?_)
 refine GL_step rfl (PS_assign rfl) ?_
 refine GL_step rfl (PS_assign rfl) ?_
 refine GL_nil ?_
 refine GQ_sub (.cons (k := 1) rfl (.cons (k := 3) rfl (.cons (k := 5) rfl (.cons (k := 6) rfl (.nil _))))) ?_
 refine GQ_then ?_
 refine G_seq ?_
 refine G_block ?_
 refine G_seq ?_
 refine G_region ?_
 refine GL_step rfl (PS_loadA rfl tya34 (.tail _ (.tail _ (.head _))) (Lens.id Land.fl.len Land.fl.one) rfl) ?_
 refine GL_pure rfl cf16 (.cons rfl .nil) (fun w hS => land_Good_spec _ w) ?_
 refine GL_step rfl (PS_not rfl) ?_
 refine GL_step rfl (PS_assign rfl) ?_
 refine GL_nil ?_
 refine GQ_sub (.cons (k := 1) rfl (.cons (k := 3) rfl (.cons (k := 5) rfl (.cons (k := 6) rfl (.cons (k := 10) rfl (.nil _)))))) ?_
 refine GQ_then ?_
 refine G_cond rfl (fun c1 => ?_) (fun c1 => ?_)
 ·
  have c1p := kz c1
  refine G_seq ?_
  refine G_region ?_
  refine GL_step rfl (PS_loadA rfl tya34 (.tail _ (.tail _ (.head _))) (Lens.id Land.fl.len Land.fl.one) rfl) ?_
  refine GL_unit (PU_store (Lens.id Land.fl.len Land.fl.one) rfl rfl rfl sz34 rfl .head) ?_
  refine GL_step rfl (PS_assign rfl) ?_
  refine GL_step rfl (PS_assign rfl) ?_
  refine GL_nil ?_
  refine GQ_sub (.cons (k := 6) rfl (.cons (k := 7) rfl (.cons (k := 8) rfl (.nil _)))) ?_
  refine GQ_then ?_
  refine G_ret ?_
  refine GQ_block_ret ?_
  refine GQ_then_ret ?_
  refine GQ_ret rfl (.cell rfl (.head _) (.inl ⟨(by rw [Land.fl.len]; exact tya34), rfl⟩) (.tmp rfl (.tmp rfl .nil))) ?_
  intro w1 hS
  have hS := hS.own_nil 60 16
  have hS := (hS.perm (Pulls.perm (.cons .head .nil))).headL
  have hq : Turn.doR X b o = _ := (if_t c1)
  refine ⟨_, ⟨⟨none, 0, 0⟩, ?hv1, ?hl1, ?hB1⟩, hS⟩
  case hv1 => rw [hq]; rfl
  case hl1 => rw [hq]; rfl
  case hB1 => rw [hq]; rfl
 have c1p := kz c1
 refine G_seq ?_
 refine G_region ?_
 refine GL_step rfl (PS_move rfl) ?_
 refine GL_step rfl (PS_lss rfl rfl) ?_
 refine GL_step rfl (PS_move rfl) ?_
 refine GL_gf (t := 18) rfl rfl rfl (fun q => PS_move rfl) ?_
 refine GL_gf (t := 18) rfl rfl rfl (fun q => PS_geq (cvE rfl (by rw [q]; rfl)) rfl) ?_
 refine GL_step rfl (PS_or rfl rfl (fun h => by rw [h]; rfl)) ?_
 refine GL_step rfl (PS_move rfl) ?_
 refine GL_gf (t := 22) rfl rfl rfl (fun q => PS_move rfl) ?_
 refine GL_gf (t := 22) rfl rfl rfl (fun q => PS_fieldAddr fa34_2 rfl) ?_
 refine GL_gf (t := 22) rfl rfl rfl (fun q => by have q1 := q; (try simp at q1); exact PS_indexAddr ia32 (cvE rfl (by rw [q]; rfl)) (cvE rfl (by rw [q]; rfl)) (by first | omega | exact hb.1 | exact hb.2 | (dsimp only; omega)) (by first | omega | exact hb.1 | exact hb.2 | (dsimp only; omega))) ?_
 refine GL_gf (t := 22) rfl rfl rfl (fun q => PS_fieldAddr fa31_1 (cvE rfl (by rw [q]; rfl))) ?_
 refine GL_gf (t := 22) rfl rfl rfl (fun q => by have q1 := q; (try simp at q1); exact PS_load (cvE rfl (by rw [q]; rfl)) tys4 (.tail _ (.tail _ (.head _))) ((Land.l2.comp (Lens.arr (n := 6) Being.fl (by first | omega | exact hb.1 | exact hb.2 | (dsimp only; omega)) (by first | omega | exact hb.1 | exact hb.2 | (dsimp only; omega)))).comp Being.l1) rfl rfl) ?_
 refine GL_gf (t := 22) rfl rfl rfl (fun q => PS_not (cvE rfl (by rw [q]; rfl))) ?_
 refine GL_step rfl (PS_or rfl rfl (fun h => by rw [h]; rfl)) ?_
 refine GL_step rfl (PS_assign rfl) ?_
 refine GL_nil ?_
 refine GQ_sub (.cons (k := 1) rfl (.cons (k := 3) rfl (.cons (k := 5) rfl (.cons (k := 6) rfl (.cons (k := 15) rfl (.nil _)))))) ?_
 refine GQ_then ?_
 refine G_cond rfl (fun c2 => ?_) (fun c2 => ?_)
 ·
  have c2p := kz c2
  refine G_seq ?_
  refine G_region ?_
  refine GL_step rfl (PS_loadA rfl tya34 (.tail _ (.tail _ (.head _))) (Lens.id Land.fl.len Land.fl.one) rfl) ?_
  refine GL_unit (PU_store (Lens.id Land.fl.len Land.fl.one) rfl rfl rfl sz34 rfl .head) ?_
  refine GL_step rfl (PS_assign rfl) ?_
  refine GL_step rfl (PS_assign rfl) ?_
  refine GL_nil ?_
  refine GQ_sub (.cons (k := 6) rfl (.cons (k := 7) rfl (.cons (k := 8) rfl (.nil _)))) ?_
  refine GQ_then ?_
  refine G_ret ?_
  refine GQ_block_ret ?_
  refine GQ_then_ret ?_
  refine GQ_ret rfl (.cell rfl (.head _) (.inl ⟨(by rw [Land.fl.len]; exact tya34), rfl⟩) (.tmp rfl (.tmp rfl .nil))) ?_
  intro w1 hS
  have hS := hS.own_nil 60 16
  have hS := (hS.perm (Pulls.perm (.cons .head .nil))).headL
  have hq : Turn.doR X b o = _ := ((if_f c1).trans (if_t c2))
  refine ⟨_, ⟨⟨none, 0, 0⟩, ?hv2, ?hl2, ?hB2⟩, hS⟩
  case hv2 => rw [hq]; rfl
  case hl2 => rw [hq]; rfl
  case hB2 => rw [hq]; rfl
 have c2p := kz c2
 refine G_seq ?_
 refine G_region ?_
 refine GL_step rfl (PS_fieldAddr fa47_0 rfl) ?_
 refine GL_step rfl (PS_load rfl tys3 (.tail _ (.head _)) Order.l0 rfl rfl) ?_
 refine GL_step rfl (PS_lss rfl rfl) ?_
 refine GL_step rfl (PS_move rfl) ?_
 refine GL_gf (t := 35) rfl rfl rfl (fun q => PS_fieldAddr fa47_0 rfl) ?_
 refine GL_gf (t := 35) rfl rfl rfl (fun q => PS_load (cvE rfl (by rw [q]; rfl)) tys3 (.tail _ (.head _)) Order.l0 rfl rfl) ?_
 refine GL_gf (t := 35) rfl rfl rfl (fun q => PS_gtr (cvE rfl (by rw [q]; rfl)) rfl) ?_
 refine GL_step rfl (PS_or rfl rfl (fun h => by rw [h]; rfl)) ?_
 refine GL_step rfl (PS_assign rfl) ?_
 refine GL_nil ?_
 refine GQ_sub (.cons (k := 1) rfl (.cons (k := 3) rfl (.cons (k := 5) rfl (.cons (k := 6) rfl (.cons (k := 31) rfl (.nil _)))))) ?_
 refine GQ_then ?_
 refine G_cond rfl (fun c3 => ?_) (fun c3 => ?_)
 ·
  have c3p := kz c3
  refine G_seq ?_
  refine G_region ?_
  refine GL_step rfl (PS_loadA rfl tya34 (.tail _ (.tail _ (.head _))) (Lens.id Land.fl.len Land.fl.one) rfl) ?_
  refine GL_unit (PU_store (Lens.id Land.fl.len Land.fl.one) rfl rfl rfl sz34 rfl .head) ?_
  refine GL_step rfl (PS_assign rfl) ?_
  refine GL_step rfl (PS_assign rfl) ?_
  refine GL_nil ?_
  refine GQ_sub (.cons (k := 6) rfl (.cons (k := 7) rfl (.cons (k := 8) rfl (.nil _)))) ?_
  refine GQ_then ?_
  refine G_ret ?_
  refine GQ_block_ret ?_
  refine GQ_then_ret ?_
  refine GQ_ret rfl (.cell rfl (.head _) (.inl ⟨(by rw [Land.fl.len]; exact tya34), rfl⟩) (.tmp rfl (.tmp rfl .nil))) ?_
  intro w1 hS
  have hS := hS.own_nil 60 16
  have hS := (hS.perm (Pulls.perm (.cons .head .nil))).headL
  have hq : Turn.doR X b o = _ := ((if_f c1).trans ((if_f c2).trans (if_t c3)))
  refine ⟨_, ⟨⟨none, 0, 0⟩, ?hv3, ?hl3, ?hB3⟩, hS⟩
  case hv3 => rw [hq]; rfl
  case hl3 => rw [hq]; rfl
  case hB3 => rw [hq]; rfl
 have c3p := kz c3
 have hF := Turn.start_fit hw c1 c2
 have hb := hF.b
 refine G_skip ?_
 refine GQ_sub (.cons (k := 1) rfl (.cons (k := 3) rfl (.cons (k := 5) rfl (.cons (k := 6) rfl (.nil _))))) ?_
 refine GQ_block ?_
 refine GQ_then ?_
 refine G_seq ?_
 refine G_region ?_
 refine GL_step rfl (PS_loadA rfl tya34 (.tail _ (.tail _ (.head _))) (Lens.id Land.fl.len Land.fl.one) rfl) ?_
 refine GL_step rfl (PS_move rfl) ?_
 refine GL_step rfl (PS_build pl53 zv53 rfl (.cons TurnV.l0 rfl rfl rfl (.cons TurnV.l1 rfl rfl rfl .nil))) ?_
 refine GL_box rfl rfl rfl (fun b4 => ?_)
 refine GL_step rfl (PS_assign rfl) ?_
 refine GL_nil ?_
 refine GQ_sub (.cons (k := 1) rfl (.cons (k := 5) rfl (.cons (k := 6) rfl (.cons (k := 9) rfl (.nil _))))) ?_
 refine GQ_then ?_
 refine G_seq ?_
 refine G_block ?_
 refine G_seq ?_
 refine G_region ?_
 refine GL_step rfl (PS_fieldAddr fa47_0 rfl) ?_
 refine GL_step rfl (PS_load rfl tys3 (.tail _ (.tail _ (.head _))) Order.l0 rfl rfl) ?_
 refine GL_step rfl (PS_lss rfl rfl) ?_
 refine GL_step rfl (PS_assign rfl) ?_
 refine GL_nil ?_
 refine GQ_sub (.cons (k := 1) rfl (.cons (k := 5) rfl (.cons (k := 6) rfl (.cons (k := 9) rfl (.cons (k := 48) rfl (.nil _)))))) ?_
 refine GQ_then ?_
 refine G_false rfl (by rw [hv]; rfl) ?_
 refine G_seq ?_
 refine G_region ?_
 refine GL_step rfl (PS_fieldAddr fa47_0 rfl) ?_
 refine GL_step rfl (PS_load rfl tys3 (.tail _ (.tail _ (.head _))) Order.l0 rfl rfl) ?_
 refine GL_step rfl (PS_eql rfl rfl) ?_
 refine GL_step rfl (PS_assign rfl) ?_
 refine GL_nil ?_
 refine GQ_sub (.cons (k := 1) rfl (.cons (k := 5) rfl (.cons (k := 6) rfl (.cons (k := 9) rfl (.cons (k := 56) rfl (.nil _)))))) ?_
 refine GQ_then ?_
 refine G_false rfl (by rw [hv]; rfl) ?_
 refine G_seq ?_
 refine G_region ?_
 refine GL_step rfl (PS_fieldAddr fa47_0 rfl) ?_
 refine GL_step rfl (PS_load rfl tys3 (.tail _ (.tail _ (.head _))) Order.l0 rfl rfl) ?_
 refine GL_step rfl (PS_eql rfl rfl) ?_
 refine GL_step rfl (PS_assign rfl) ?_
 refine GL_nil ?_
 refine GQ_sub (.cons (k := 1) rfl (.cons (k := 5) rfl (.cons (k := 6) rfl (.cons (k := 9) rfl (.cons (k := 62) rfl (.nil _)))))) ?_
 refine GQ_then ?_
 refine G_false rfl (by rw [hv]; rfl) ?_
 refine G_seq ?_
 refine G_region ?_
 refine GL_step rfl (PS_fieldAddr fa47_0 rfl) ?_
 refine GL_step rfl (PS_load rfl tys3 (.tail _ (.tail _ (.head _))) Order.l0 rfl rfl) ?_
 refine GL_step rfl (PS_eql rfl rfl) ?_
 refine GL_step rfl (PS_assign rfl) ?_
 refine GL_nil ?_
 refine GQ_sub (.cons (k := 5) rfl (.cons (k := 6) rfl (.cons (k := 9) rfl (.cons (k := 74) rfl (.nil _))))) ?_
 refine GQ_then ?_
 refine G_false rfl (by rw [hv]; rfl) ?_
 refine G_seq ?_
 refine G_region ?_
 refine GL_step rfl (PS_fieldAddr fa47_0 rfl) ?_
 refine GL_step rfl (PS_load rfl tys3 (.tail _ (.tail _ (.head _))) Order.l0 rfl rfl) ?_
 refine GL_step rfl (PS_eql rfl rfl) ?_
 refine GL_step rfl (PS_assign rfl) ?_
 refine GL_nil ?_
 refine GQ_sub (.cons (k := 5) rfl (.cons (k := 6) rfl (.cons (k := 9) rfl (.cons (k := 83) rfl (.nil _))))) ?_
 refine GQ_then ?_
 refine G_false rfl (by rw [hv]; rfl) ?_
 refine G_seq ?_
 refine G_region ?_
 refine GL_step rfl (PS_fieldAddr fa47_0 rfl) ?_
 refine GL_step rfl (PS_load rfl tys3 (.tail _ (.tail _ (.head _))) Order.l0 rfl rfl) ?_
 refine GL_step rfl (PS_eql rfl rfl) ?_
 refine GL_step rfl (PS_assign rfl) ?_
 refine GL_nil ?_
 refine GQ_sub (.cons (k := 5) rfl (.cons (k := 6) rfl (.cons (k := 9) rfl (.cons (k := 89) rfl (.nil _))))) ?_
 refine GQ_then ?_
 refine G_false rfl (by rw [hv]; rfl) ?_
 refine G_seq ?_
 refine G_region ?_
 refine GL_step rfl (PS_fieldAddr fa47_0 rfl) ?_
 refine GL_step rfl (PS_load rfl tys3 (.tail _ (.tail _ (.head _))) Order.l0 rfl rfl) ?_
 refine GL_step rfl (PS_eql rfl rfl) ?_
 refine GL_step rfl (PS_assign rfl) ?_
 refine GL_nil ?_
 refine GQ_sub (.cons (k := 5) rfl (.cons (k := 6) rfl (.cons (k := 9) rfl (.cons (k := 96) rfl (.nil _))))) ?_
 refine GQ_then ?_
 refine G_true rfl (by rw [hv]; rfl) ?_
 refine G_region ?_
 refine GL_step rfl (PS_move rfl) ?_
 refine GL_step rfl (PS_loadA rfl tya47 (.tail _ (.tail _ (.head _))) (Lens.id Order.fl.len Order.fl.one) rfl) ?_
 refine GL_nilF Ing.Event.enc 60 16 ?_
 refine GL_callR rfl cf32 (.cons rfl (.cons rfl .nil)) (.cons (.tail .head) (.cons .head .nil)) (rules_turn_get_spec _ (⟨X, b, []⟩ : Turn) _ o rfl hF hu (Nat.zero_le _) hz) (fun w hS => ⟨gl1.pull gm1 hS (.cons (.tail .head) (.cons .head .nil)), gl2.pull gm2 hS (.cons (.tail .head) (.cons .head .nil))⟩) (fun v5 B hv => ?_)
 obtain ⟨y6, rfl, y7, rfl⟩ := hv
 refine GL_nil ?_
 refine GQ_sub (.cons (k := 6) rfl (.cons (k := 9) rfl (.nil _))) ?_
 refine GQ_block ?_
 refine GQ_then ?_
 refine G_seq ?_
 refine G_planN (N := 11) [0, 1, 3, 7, 0, 16, 48, 112, 15, 511, 1023] mix (by kernel_rfl) rfl ?_
 refine Plan_float 0 rfl rfl (by kernel_rfl) (OK_s (EX_s (PS_move rfl))) ?_
 refine Plan_float 1 rfl rfl (by kernel_rfl) (OK_s (EX_s (PS_nilCheck rfl))) ?_
 refine Plan_float 2 rfl rfl (by kernel_rfl) (OK_s (EX_s (PS_fieldAddr fa53_0 rfl))) ?_
 refine Plan_float 3 rfl rfl (by kernel_rfl) (OK_s (EX_s (PS_loadA rfl tya34 (.head _) TurnV.l0 rfl))) ?_
 refine Plan_float 4 rfl rfl (by kernel_rfl) (OK_s (EX_s (PS_move rfl))) ?_
 refine Plan_float 5 rfl rfl (by kernel_rfl) (OK_s (EX_s (PS_nilCheck rfl))) ?_
 refine Plan_float 6 rfl rfl (by kernel_rfl) (OK_s (EX_s (PS_fieldAddr fa53_2 rfl))) ?_
 refine Plan_float 7 rfl rfl (by kernel_rfl) (OK_s (EX_s (PS_load rfl tys35 (.head _) TurnV.l2 rfl rfl))) ?_
 refine Plan_chain 8 rfl (by kernel_rfl) ?_
 refine GL_unit (PU_store (Lens.id Land.fl.len Land.fl.one) rfl rfl rfl sz34 rfl (.tail (.tail .head))) ?_
 refine GL_hand0 rfl ⟨?_, ?_⟩
 · exact (Pend_okv rfl (OK_s (EX_s (PS_load rfl tys35 (.head _) TurnV.l2 rfl rfl))) rfl rfl (Pend_okv rfl (OK_s (EX_s (PS_fieldAddr fa53_2 rfl))) rfl rfl (Pend_okv rfl (OK_s (EX_s (PS_nilCheck rfl))) rfl rfl (Pend_okv rfl (OK_s (EX_s (PS_move rfl))) rfl rfl (Pend_skip (by kernel_rfl) (Pend_skip (by kernel_rfl) (Pend_skip (by kernel_rfl) (Pend_skip (by kernel_rfl) Pend_nil))))))))
 refine Plan_float 9 rfl rfl (by kernel_rfl) (OK_s (EX_s (PS_assign rfl))) ?_
 refine Plan_float 10 rfl rfl (by kernel_rfl) (OK_s (EX_s (PS_assign rfl))) ?_
 refine Plan_end (by kernel_rfl) ?_
 refine GQ_sub (.cons (k := 6) rfl (.cons (k := 7) rfl (.cons (k := 8) rfl (.nil _)))) ?_
 refine GQ_then ?_
 refine G_ret ?_
 refine GQ_ret rfl (.cell rfl (.tail _ (.tail _ (.head _))) (.inl ⟨(by rw [Land.fl.len]; exact tya34), rfl⟩) (.tmp rfl (.tmp rfl .nil))) ?_
 intro w1 hS
 have hS := (hS.perm (Pulls.perm (.cons (.tail .head) .nil))).headL
 have ha : Turn.act (⟨X, b, []⟩ : Turn) o = Turn.get (⟨X, b, []⟩ : Turn) o := Turn.act_7 hv
 have hq : Turn.doR X b o = ((Turn.act (⟨X, b, []⟩ : Turn) o).w, (Turn.act (⟨X, b, []⟩ : Turn) o).out, 0) := ((if_f c1).trans ((if_f c2).trans (if_f c3)))
 rw [ha] at hq
 refine ⟨_, ⟨?gq4, ?hv4, ?hl4, ?hB4⟩, hS⟩
 case hB4 => rw [hq]; (try rfl)
 case hv4 => rw [hq]; (try rfl)
 case hl4 => rw [hq]; (try dsimp only); exact y7
theorem law_acts_spec  (w : World) (gl0 : GV 1 Land.verbsV w) (gl1 : GVE 3 w) (gl2 : GVE 4 w) : Ret Tryz.prog 11 #[] w fun v w' => v = .bool true ∧ Keep w w' := by
 refine Ret_body [] [] Tryz.func11 rfl rfl rfl (St.start w []) ?_
 refine G_seq ?_
 refine G_region ?_
 refine GL_step rfl (PS_assign rfl) ?_
 refine GL_nil ?_
 refine GQ_sub (.nil _) ?_
 refine GQ_then ?_
 refine G_seq ?_
 refine G_region ?_
 refine GL_pure rfl cf22 .nil (fun w hS => land_New_spec w) ?_
 refine GL_step rfl (PS_build pl47 zv47 rfl (.cons Order.l0 rfl rfl rfl (.cons Order.l1 rfl rfl rfl (.cons Order.l3 rfl rfl rfl .nil)))) ?_
 refine GL_callR rfl cf14 (.cons rfl (.cons rfl (.cons rfl .nil))) .nil (rules_Do_spec Land.new 0 Turn.mugO Land.new_brief (by decide) (by decide) rfl rfl) (fun w hS => ⟨gl0.pull (by simp) hS .nil, gl1.pull (by simp) hS .nil, gl2.pull (by simp) hS .nil⟩) (fun v1 B hv => ?_)
 obtain ⟨y2, rfl, y3, rfl⟩ := hv
 refine GL_step rfl (PS_move rfl) ?_
 refine GL_step rfl (PS_extract rfl rfl) ?_
 refine GL_step rfl (PS_extract rfl rfl) ?_
 refine GL_step rfl (PS_extract rfl rfl) ?_
 refine GL_alloc rfl zv34 rfl (fun b1 => ?_)
 refine GL_unit (PU_store (Lens.id Land.fl.len Land.fl.one) rfl rfl rfl sz34 rfl .head) ?_
 refine GL_step rfl (PS_assign rfl) ?_
 refine GL_step rfl (PS_assign rfl) ?_
 refine GL_nil ?_
 refine GQ_sub (.cons (k := 1) rfl (.cons (k := 2) rfl (.cons (k := 3) rfl (.nil _)))) ?_
 refine GQ_then ?_
 refine G_seq ?_
 refine G_region ?_
 refine GL_step rfl (PS_move rfl) ?_
 refine GL_step rfl (PS_eql rfl rfl) ?_
 refine GL_step rfl (PS_move rfl) ?_
 refine GL_gt (t := 13) rfl rfl rfl (fun q => PS_move rfl) ?_
 refine GL_gt (t := 13) rfl rfl rfl (fun q => PS_len_slice rfl Tryz.underlying35 (cvE rfl q)) ?_
 refine GL_gt (t := 13) rfl rfl rfl (fun q => PS_eql (cvE rfl q) rfl) ?_
 refine GL_step rfl (PS_and rfl rfl (fun h => h)) ?_
 refine GL_step rfl (PS_move rfl) ?_
 refine GL_gt (t := 18) rfl rfl rfl (fun q => PS_move rfl) ?_
 refine GL_gt (t := 18) rfl rfl rfl (fun q => by have q1 := q; (try simp at q1); exact PS_idxS is35 (by decide) (Kn.own (.tail _ (.head _))) (cvE rfl q) rfl (by omega) (by omega)) ?_
 refine GL_gt (t := 18) rfl rfl rfl (fun q => PS_fldS fa60_0 (cvE rfl q)) ?_
 refine GL_gt (t := 18) rfl rfl rfl (fun q => by have q1 := q; (try simp at q1); exact PS_ldF (cvE rfl q) tys3 Ing.Event.fl Ing.Event.l0 (Kn.own (.tail _ (.head _))) (by omega) rfl) ?_
 refine GL_gt (t := 18) rfl rfl rfl (fun q => PS_eql (cvE rfl q) rfl) ?_
 refine GL_step rfl (PS_and rfl rfl (fun h => h)) ?_
 refine GL_step rfl (PS_move rfl) ?_
 refine GL_gt (t := 25) rfl rfl rfl (fun q => PS_fieldAddr fa34_1 rfl) ?_
 refine GL_gt (t := 25) rfl rfl rfl (fun q => PS_indexAddr ia29 (cvE rfl q) rfl (by decide) (by decide)) ?_
 refine GL_gt (t := 25) rfl rfl rfl (fun q => PS_fieldAddr fa28_2 (cvE rfl q)) ?_
 refine GL_gt (t := 25) rfl rfl rfl (fun q => PS_load (cvE rfl q) tys3 (.head _) ((Land.l1.comp (Lens.arr (n := 9) Thing.fl (by decide) (by decide))).comp Thing.l2) rfl rfl) ?_
 refine GL_gt (t := 25) rfl rfl rfl (fun q => PS_eql (cvE rfl q) rfl) ?_
 refine GL_step rfl (PS_and rfl rfl (fun h => h)) ?_
 refine GL_step rfl (PS_assign rfl) ?_
 refine GL_nil ?_
 refine GQ_sub (.cons (k := 0) rfl (.nil _)) ?_
 refine GQ_then ?_
 refine G_ret ?_
 refine GQ_ret rfl (.tmp rfl .nil) ?_
 intro w1 hS; refine ⟨?_, hS.toKeep⟩; exact congrArg Value.bool (by rw [y3, Turn.mug_0, Turn.mug_1, show (Turn.doR Land.new 0 Turn.mugO).2.1.getD (Int.toNat 0) default = (Turn.doR Land.new 0 Turn.mugO).2.1.getD 0 default from rfl, Turn.mug_2, Turn.mug_3]; rfl)
end Go.Proofs.YthaobbemigbcgaaGreatDoor
