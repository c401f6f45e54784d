/- For every input (there is none) the law Names returns true. No condition. -/
import Derived.Test.YtnpbkbianmogoaaRows
import Derived.Test.YtnpbkbianmogoaaEng
set_option maxRecDepth 100000
namespace Go.Proofs.Ytnpbkbianmogoaa
open Go Go.Ing Go.RowKit Go.ChangeShapes Go.WideShapes Go.ChangeAt
theorem own : ownKnob Try.prog.godebug = none := by kernel_rfl
theorem laidOut : laidOutB Try.prog = true := by kernel_rfl

theorem law_Names_spec (w : World) : Ret Try.prog 3 #[] w fun v w' => v = .bool true ∧ Keep w w' := by
  refine Ret_body [] [] Try.func3 rfl rfl rfl (St.start w []) ?_
  refine G_seq ?_
  refine G_region ?_
  refine GL_step rfl (PS_assign rfl) ?_
  refine GL_nil ?_
  refine GQ_sub (.nil _) ?_
  refine GQ_then ?_
  refine G_seq ?_
  refine G_region ?_
  refine GL_step rfl (PS_assign rfl) ?_
  refine GL_nil ?_
  refine GQ_then ?_
  refine G_seq ?_
  refine G_region ?_
  refine GL_step rfl (PS_assign rfl) ?_
  refine GL_nil ?_
  refine GQ_then ?_
  refine G_seq ?_
  refine G_region ?_
  refine GL_step rfl (PS_assign rfl) ?_
  refine GL_nil ?_
  refine GQ_then ?_
  refine G_seq ?_
  refine G_region ?_
  refine GL_step rfl (PS_assign rfl) ?_
  refine GL_nil ?_
  refine GQ_then ?_
  refine G_seq ?_
  refine G_region ?_
  refine GL_step rfl (PS_assign rfl) ?_
  refine GL_nil ?_
  refine GQ_then ?_
  refine G_seq ?_
  refine G_region ?_
  refine GL_step rfl (PS_assign rfl) ?_
  refine GL_nil ?_
  refine GQ_then ?_
  refine G_seq ?_
  refine G_region ?_
  refine GL_step rfl (PS_assign rfl) ?_
  refine GL_nil ?_
  refine GQ_then ?_
  refine G_seq ?_
  refine G_region ?_
  refine GL_step rfl (PS_move rfl) ?_
  refine GL_step rfl (PS_move rfl) ?_
  refine GL_guard (t := 9) rfl rfl rfl (PS_move rfl) ?_
  refine GL_step rfl (PS_pick_true rfl rfl) ?_
  refine GL_step rfl (PS_move rfl) ?_
  refine GL_guard (t := 12) rfl rfl rfl (PS_move rfl) ?_
  refine GL_step rfl (PS_pick_true rfl rfl) ?_
  refine GL_step rfl (PS_move rfl) ?_
  refine GL_guard (t := 15) rfl rfl rfl (PS_move rfl) ?_
  refine GL_step rfl (PS_pick_true rfl rfl) ?_
  refine GL_step rfl (PS_move rfl) ?_
  refine GL_guard (t := 18) rfl rfl rfl (PS_move rfl) ?_
  refine GL_step rfl (PS_pick_true rfl rfl) ?_
  refine GL_step rfl (PS_move rfl) ?_
  refine GL_guard (t := 21) rfl rfl rfl (PS_move rfl) ?_
  refine GL_step rfl (PS_pick_true rfl rfl) ?_
  refine GL_step rfl (PS_move rfl) ?_
  refine GL_guard (t := 24) rfl rfl rfl (PS_move rfl) ?_
  refine GL_step rfl (PS_pick_true rfl rfl) ?_
  refine GL_step rfl (PS_assign rfl) ?_
  refine GL_nil ?_
  refine GQ_sub (.cons (k := 0) rfl (.nil _)) ?_
  refine GQ_then ?_
  refine G_ret ?_
  refine GQ_ret rfl (.tmp rfl .nil) ?_
  intro w1 hS; exact ⟨rfl, hS.toKeep⟩
set_option maxRecDepth 100000 in
theorem names_lifted (os : Os) (started : os.Started) (H : Type) (enc : TypeId × Value → H) :
    ReturnsInHanded {} Try.checked os 3 .any (Rows.namesSpec.pre6 enc Try.prog Try.f3 Rows.namesRow.domain false) (Rows.namesSpec.post enc Try.prog Try.f3 false true false false) := by
  refine returnsInHanded_of_change (C := Try.checked) own started (by kernel_rfl) Try.func3
    (ChangeSpec.witness6 (enc := enc) (C := Try.checked) false ⟨#[], #[], []⟩ 8 (by kernel_rfl) (by kernel_rfl) (by kernel_rfl) (by kernel_rfl)) ?_
  intro W base args ds gs before hval hW _ _
  refine law_post (B := 4) laidOut (by kernel_rfl) Try.underlying4 (by kernel_rfl) rfl (fun ds h => by rw [Try.params3] at h; match ds, h with | [], _ => rfl) hW ?_
  obtain ⟨p, q, hA, hV, _, _, _⟩ := hW
  rw [Try.params3] at hA
  obtain ⟨rfl, rfl, rfl⟩ := trodAll_none hA
  exact law_Names_spec W
theorem names_holds : Rows.NamesSaid :=
  OpenClaim.holds_of_wide 3 Try.f3 rfl rfl rfl rfl rfl rfl rfl ⟨rfl, rfl, rfl, rfl, rfl⟩ rfl rfl rfl rfl rfl (by kernel_rfl) Try.func3 (by kernel_rfl)
    (of_decide_eq_true (by kernel_rfl)) (by unfold Func.isWrapper; first | (rw [if_pos (by decide +kernel)]; kernel_rfl) | (rw [if_neg (by decide +kernel)]; exact ⟨rfl, rfl⟩))
    (fun os started H enc _ => names_lifted os started H enc)
end Go.Proofs.Ytnpbkbianmogoaa
