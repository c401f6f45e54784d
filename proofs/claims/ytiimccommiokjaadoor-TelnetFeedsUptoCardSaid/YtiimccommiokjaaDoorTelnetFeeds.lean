/- For every input the law TelnetFeeds returns true. No condition. -/
import Derived.Test.YtiimccommiokjaaDoorCards
import Derived.Test.YtiimccommiokjaaDoorTie
import Derived.Deep.DeepHandedRow
import Derived.Test.YtiimccommiokjaaDoorRows
import Derived.Test.YtiimccommiokjaaDoorTelnetFeedsWalks
import Derived.Test.YtiimccommiokjaaDoorEc2
import Derived.Test.YtiimccommiokjaaDoorTelnetFeedsPlain
set_option linter.unusedSimpArgs false
set_option linter.unusedVariables false
set_option maxRecDepth 100000
namespace Go.Proofs.YtiimccommiokjaaDoor
open Go Go.Ing Go.RowKit Go.ChangeShapes Go.WideShapes Go.ChangeAt
theorem own : ownKnob Tryd.prog.godebug = none := by kernel_rfl
theorem laidOut : laidOutB Tryd.prog = true := by kernel_rfl
theorem dc3 {H : Type} {enc : TypeId × Value → H} {w : World} : Dc H enc Tryd.prog w (encI) wfI 3 := Dc_int Tryd.underlying3
theorem dc9 {H : Type} {enc : TypeId × Value → H} {w : World} : Dc H enc Tryd.prog w (encS) wfS 9 := Dc_string Tryd.underlying9
theorem dc39 {H : Type} {enc : TypeId × Value → H} {w : World} : Dc H enc Tryd.prog w (encA (n := 3) encI) (wfA wfI) 39 := Dc_arr (sz := 1) Tryd.underlying39 (by kernel_rfl) (by kernel_rfl) dc3
theorem dc41 {H : Type} {enc : TypeId × Value → H} {w : World} : Dc H enc Tryd.prog w (Telnet.enc) Telnet.wf 41 := Telnet.dc Tryd.underlying41 (by kernel_rfl) rfl (by kernel_rfl) dc3 rfl (by kernel_rfl) dc3 rfl (by kernel_rfl) dc9 rfl (by kernel_rfl) dc39 rfl (by kernel_rfl) dc39 rfl (by kernel_rfl) dc3
theorem ref_FeedBytes_spec (X : Telnet) (u : Str) (hu : u.length ≤ 35184372088000) (w : World) : Ret Tryd.prog 24 #[.agg X.enc.toArray, vstr u] w fun v w' => v = .tuple #[.agg (X.Feed u).1.enc.toArray, vstr (X.Feed u).2.1, vstr (X.Feed u).2.2.1, .int .i64 (X.Feed u).2.2.2] ∧ Keep w w' := by
  refine Ret_body [] [] Tryd.func24 rfl rfl rfl (St.start w []) ?_
  refine G_seq ?_
  refine G_region ?_
  refine GL_box rfl rfl rfl (fun b1 => ?_)
  refine GL_alloc rfl zv41 rfl (fun b2 => ?_)
  refine GL_step rfl (PS_assign rfl) ?_
  refine GL_step rfl (PS_assign rfl) ?_
  refine GL_step rfl (PS_assign rfl) ?_
  refine GL_nil ?_
  refine GQ_sub (.cons (k := 1) rfl (.cons (k := 2) rfl (.cons (k := 4) rfl (.nil _)))) ?_
  refine GQ_then ?_
  refine G_seq ?_
  refine G_seq ?_
  refine G_region ?_
  refine GL_step rfl (PS_loadA rfl tya41 (.tail _ (.head _)) (Lens.id Telnet.fl.len Telnet.fl.one) rfl) ?_
  refine GL_pure rfl cf26 (.cons rfl .nil) (fun w hS => ref_GoodTelnet_spec _ w) ?_
  refine GL_step rfl (PS_not rfl) ?_
  refine GL_nil ?_
  refine GQ_sub (.cons (k := 1) rfl (.cons (k := 2) rfl (.cons (k := 4) rfl (.cons (k := 16) rfl (.nil _))))) ?_
  refine GQ_then ?_
  refine G_cond rfl (fun c1 => ?_) (fun c1 => ?_)
  · skip
    have c1p := c1
    try simp only [decide_eq_true_eq, decide_eq_false_iff_not, Bool.not_eq_true', Bool.not_eq_false', Bool.or_eq_true, Bool.and_eq_true, Bool.or_eq_false_iff, Bool.and_eq_false_iff, Int.not_lt, Int.not_le] at c1p
    refine G_seq ?_
    refine G_region ?_
    refine GL_step rfl (PS_loadA rfl tya41 (.tail _ (.head _)) (Lens.id Telnet.fl.len Telnet.fl.one) rfl) ?_
    refine GL_unit (PU_store (Lens.id Telnet.fl.len Telnet.fl.one) rfl rfl rfl sz41 rfl .head) ?_
    refine GL_step rfl (PS_assign rfl) ?_
    refine GL_step rfl (PS_assign rfl) ?_
    refine GL_step rfl (PS_assign rfl) ?_
    refine GL_nil ?_
    refine GQ_sub (.cons (k := 4) rfl (.cons (k := 5) rfl (.cons (k := 6) rfl (.cons (k := 7) rfl (.nil _))))) ?_
    refine GQ_then ?_
    refine G_ret ?_
    refine GQ_then_ret ?_
    refine GQ_ret rfl (.cell rfl (.head _) (.inl ⟨(by rw [Telnet.fl.len]; exact tya41), rfl⟩) (.tmp rfl (.tmp rfl (.tmp rfl .nil)))) ?_
    intro w1 hS; refine ⟨?_, hS.toKeep⟩; rw [show X.Feed u = _ from if_t (by rw [← Telnet.refGood_eq]; exact c1)]; rfl
  · skip
    have c1p := c1
    try simp only [decide_eq_true_eq, decide_eq_false_iff_not, Bool.not_eq_true', Bool.not_eq_false', Bool.or_eq_true, Bool.and_eq_true, Bool.or_eq_false_iff, Bool.and_eq_false_iff, Int.not_lt, Int.not_le] at c1p
    have hg : X.good = true := by rw [← Telnet.refGood_eq]; simpa using c1
    refine G_skip ?_
    refine GQ_sub (.cons (k := 1) rfl (.cons (k := 2) rfl (.cons (k := 4) rfl (.nil _)))) ?_
    refine GQ_then ?_
    refine G_seq ?_
    refine G_region ?_
    refine GL_step rfl (PS_assign rfl) ?_
    refine GL_step rfl (PS_assign rfl) ?_
    refine GL_nil ?_
    refine GQ_then ?_
    refine G_seq ?_
    refine G_seq ?_
    refine G_region ?_
    refine GL_step rfl (PS_assign rfl) ?_
    refine GL_nil ?_
    refine GQ_then ?_
    refine G_block ?_
    refine G_subF (.cons (k := 8) rfl (.cons (k := 9) rfl (.cons (k := 10) rfl (.cons (k := 1) rfl (.cons (k := 2) rfl (.cons (k := 4) rfl (.nil _))))))) ?_
    refine G_nilF encY 5 1 ?_
    refine G_nilF encY 5 1 ?_
    refine G_pull (.tail (.tail (.tail .head))) ?_
    refine G_pull (.tail (.tail .head)) ?_
    refine G_pull (.tail (.tail .head)) ?_
    refine G_loop6_ (fun (k : Int) (t : Telnet) (x : Str) (y : Str) (h : Hd) (g : Hd) => Telnet.FeedI X u k t x y ∧ Telnet.AtOk t ∧ h.len = x.length ∧ g.len = y.length) (fun (k : Int) (t : Telnet) (x : Str) (y : Str) (h : Hd) (g : Hd) => ((u.length : Int) - k).toNat) (fun (k : Int) (t : Telnet) (x : Str) (y : Str) (h : Hd) (g : Hd) => [(8, h.val), (9, g.val), (10, .int .i64 k)]) (fun (k : Int) (t : Telnet) (x : Str) (y : Str) (h : Hd) (g : Hd) => [Res.own g 5 1 (y.flatMap encY), Res.own h 5 1 (x.flatMap encY), Res.box b1 41 (Telnet.enc t)]) (0) (X) ([]) ([]) (_) (_) ?_ rfl rfl (fun k t x y h g hI1 => ?_)
    · exact ⟨Telnet.FeedI.start (Telnet.good_sub hg), Telnet.good_at hg, rfl, rfl⟩
    obtain ⟨hI11, hat, hlx, hly⟩ := hI1; have hk0 := hI11.k0; have hk1 := hI11.k1; have hsub := hI11.sub; have hxl := hI11.xl; have hyl := hI11.yl; have hc8 := (u.getD k.toNat 0).toNat_lt; have ha0 := hat.a0; have ha1 := hat.a1
    refine G_seq ?_
    refine G_seq ?_
    refine G_region ?_
    refine GL_step rfl (PS_move rfl) ?_
    refine GL_step rfl (PS_move rfl) ?_
    refine GL_step rfl (PS_len_str rfl Tryd.underlying9 rfl) ?_
    refine GL_step rfl (PS_lss rfl rfl) ?_
    refine GL_nil ?_
    refine GQ_sub (.cons (k := 1) rfl (.cons (k := 2) rfl (.cons (k := 4) rfl (.cons (k := 8) rfl (.cons (k := 9) rfl (.cons (k := 10) rfl (.cons (k := 21) rfl (.nil _)))))))) ?_
    refine GQ_then ?_
    refine G_cond rfl (fun c2 => ?_) (fun c2 => ?_)
    · skip
      have c2p := c2
      try simp only [decide_eq_true_eq, decide_eq_false_iff_not, Bool.not_eq_true', Bool.not_eq_false', Bool.or_eq_true, Bool.and_eq_true, Bool.or_eq_false_iff, Bool.and_eq_false_iff, Int.not_lt, Int.not_le] at c2p
      refine G_skip ?_
      refine GQ_sub (.cons (k := 1) rfl (.cons (k := 2) rfl (.cons (k := 4) rfl (.cons (k := 8) rfl (.cons (k := 9) rfl (.cons (k := 10) rfl (.nil _))))))) ?_
      refine GQ_then ?_
      refine G_seq ?_
      refine G_block ?_
      refine G_seq ?_
      refine G_region ?_
      refine GL_step rfl (PS_move rfl) ?_
      refine GL_step rfl (PS_move rfl) ?_
      refine GL_step rfl (PS_index_str Tryd.underlying9 rfl rfl (by first | omega | (have b3 := (t.sub.getD (Int.toNat 3) 0).toNat_lt; have b4 := (t.sub.getD (Int.toNat 4) 0).toNat_lt; omega)) (by first | omega | (have b3 := (t.sub.getD (Int.toNat 3) 0).toNat_lt; have b4 := (t.sub.getD (Int.toNat 4) 0).toNat_lt; omega))) ?_
      refine GL_step rfl (PS_u8i Tryd.underlying3 Tryd.underlying5 rfl) ?_
      refine GL_alloc rfl zv3 rfl (fun b3 => ?_)
      refine GL_unit (PU_store1 rfl rfl rfl rfl sz3 .head) ?_
      refine GL_nil ?_
      refine GQ_sub (.cons (k := 1) rfl (.cons (k := 2) rfl (.cons (k := 4) rfl (.cons (k := 8) rfl (.cons (k := 9) rfl (.cons (k := 10) rfl (.cons (k := 11) rfl (.nil _)))))))) ?_
      refine GQ_then ?_
      refine G_seq ?_
      refine G_region ?_
      refine GL_step rfl (PS_makeFunc (.cons rfl (.cons rfl .nil))) ?_
      refine GL_step rfl (PS_assign rfl) ?_
      refine GL_nil ?_
      refine GQ_sub (.cons (k := 1) rfl (.cons (k := 2) rfl (.cons (k := 4) rfl (.cons (k := 8) rfl (.cons (k := 9) rfl (.cons (k := 10) rfl (.cons (k := 11) rfl (.cons (k := 12) rfl (.nil _))))))))) ?_
      refine GQ_then ?_
      refine G_seq ?_
      refine G_region ?_
      refine GL_step rfl (PS_fieldAddr fa41_0 rfl) ?_
      refine GL_step rfl (PS_load rfl tys3 (.tail _ (.tail _ (.tail _ (.head _)))) Telnet.l0 rfl rfl) ?_
      refine GL_step rfl (PS_mul rfl rfl (IntWalk.i64_in _ (by first | omega | (have b3 := (t.sub.getD (Int.toNat 3) 0).toNat_lt; have b4 := (t.sub.getD (Int.toNat 4) 0).toNat_lt; omega)))) ?_
      refine GL_step rfl (PS_load1 rfl tys3 (.head _)) ?_
      refine GL_step rfl (PS_min2 rfl rfl) ?_
      refine GL_step rfl (PS_add rfl rfl (IntWalk.i64_in _ (by first | omega | (have b3 := (t.sub.getD (Int.toNat 3) 0).toNat_lt; have b4 := (t.sub.getD (Int.toNat 4) 0).toNat_lt; omega)))) ?_
      refine GL_nil ?_
      refine GQ_sub (.cons (k := 1) rfl (.cons (k := 2) rfl (.cons (k := 4) rfl (.cons (k := 8) rfl (.cons (k := 9) rfl (.cons (k := 10) rfl (.cons (k := 11) rfl (.cons (k := 12) rfl (.cons (k := 34) rfl (.nil _)))))))))) ?_
      refine GQ_then ?_
      refine G_block ?_
      refine G_seq ?_
      refine G_region ?_
      refine GL_step rfl (PS_eql rfl rfl) ?_
      refine GL_step rfl (PS_assign rfl) ?_
      refine GL_nil ?_
      refine GQ_sub (.cons (k := 1) rfl (.cons (k := 2) rfl (.cons (k := 4) rfl (.cons (k := 8) rfl (.cons (k := 9) rfl (.cons (k := 10) rfl (.cons (k := 11) rfl (.cons (k := 12) rfl (.cons (k := 34) rfl (.cons (k := 103) rfl (.nil _))))))))))) ?_
      refine GQ_then ?_
      refine G_cond rfl (fun c3 => ?_) (fun c3 => ?_)
      · skip
        have c3p := c3
        try simp only [decide_eq_true_eq, decide_eq_false_iff_not, Bool.not_eq_true', Bool.not_eq_false', Bool.or_eq_true, Bool.and_eq_true, Bool.or_eq_false_iff, Bool.and_eq_false_iff, Int.not_lt, Int.not_le] at c3p
        refine G_region ?_
        refine GL_step rfl (PS_fieldAddr fa41_0 rfl) ?_
        refine GL_unit (PU_store Telnet.l0 rfl rfl rfl sz3 rfl (.tail (.tail (.tail .head)))) ?_
        refine GL_nil ?_
        refine GQ_sub (.cons (k := 1) rfl (.cons (k := 2) rfl (.cons (k := 4) rfl (.cons (k := 8) rfl (.cons (k := 9) rfl (.cons (k := 10) rfl (.nil _))))))) ?_
        refine GQ_block ?_
        refine GQ_block ?_
        refine GQ_then ?_
        refine G_region ?_
        refine GL_step rfl (PS_move rfl) ?_
        refine GL_step rfl (PS_add rfl rfl (IntWalk.i64_in _ (by first | omega | (have b3 := (t.sub.getD (Int.toNat 3) 0).toNat_lt; have b4 := (t.sub.getD (Int.toNat 4) 0).toNat_lt; omega)))) ?_
        refine GL_step rfl (PS_assign rfl) ?_
        refine GL_nil ?_
        refine GQ_sub (.cons (k := 1) rfl (.cons (k := 2) rfl (.cons (k := 4) rfl (.cons (k := 8) rfl (.cons (k := 9) rfl (.cons (k := 10) rfl (.nil _))))))) ?_
        refine GQ_next6_ (k + 1) _ _ _ _ _ ?_ ?_ (.cons (k := 8) rfl (.cons (k := 9) rfl (.cons (k := 10) rfl (.cons (k := 1) rfl (.cons (k := 2) rfl (.cons (k := 4) rfl (.nil _))))))) (.cons _ (.refl _))
        · have e : t.stepR (u.getD k.toNat 0) = _ := (if_t c3)
          exact hI11.nextI hat (by omega) (by rw [e] <;> rfl) (by rw [e] <;> simp) (by rw [e] <;> simp) (by (try dsimp only at *) <;> (try simp only [List.length_append, List.length_cons, List.length_nil]) <;> omega) (by (try dsimp only at *) <;> (try simp only [List.length_append, List.length_cons, List.length_nil]) <;> omega)
        · omega
      · skip
        have c3p := c3
        try simp only [decide_eq_true_eq, decide_eq_false_iff_not, Bool.not_eq_true', Bool.not_eq_false', Bool.or_eq_true, Bool.and_eq_true, Bool.or_eq_false_iff, Bool.and_eq_false_iff, Int.not_lt, Int.not_le] at c3p
        refine G_seq ?_
        refine G_region ?_
        refine GL_step rfl (PS_eql rfl rfl) ?_
        refine GL_step rfl (PS_assign rfl) ?_
        refine GL_nil ?_
        refine GQ_sub (.cons (k := 1) rfl (.cons (k := 2) rfl (.cons (k := 4) rfl (.cons (k := 8) rfl (.cons (k := 9) rfl (.cons (k := 10) rfl (.cons (k := 11) rfl (.cons (k := 12) rfl (.cons (k := 34) rfl (.cons (k := 106) rfl (.nil _))))))))))) ?_
        refine GQ_then ?_
        refine G_cond rfl (fun c4 => ?_) (fun c4 => ?_)
        · skip
          have c4p := c4
          try simp only [decide_eq_true_eq, decide_eq_false_iff_not, Bool.not_eq_true', Bool.not_eq_false', Bool.or_eq_true, Bool.and_eq_true, Bool.or_eq_false_iff, Bool.and_eq_false_iff, Int.not_lt, Int.not_le] at c4p
          refine G_seq ?_
          refine G_region ?_
          refine GL_step rfl (PS_move rfl) ?_
          refine GL_bs1F encY (a := 255) flY rfl Tryd.underlying50 sz5 zv5 rfl (by decide) (by decide) rfl rfl (fun b4 => ?_)
          refine GL_appendF flY rfl Tryd.underlying50 sz5 zv5 rfl by5 (by decide) (by decide) rfl rfl (fun w hS => Src.sliceT Tryd.underlying50 ((Kn.own (.head _)) w hS)) (by have hal := Telnet.asked_len t t.verb ((u.getD k.toNat 0).toNat : Int); (try dsimp only at *); omega) (fun _ => (.tail (.tail (.tail .head)))) (fun h1 h1l h1z => ?_)
          refine GL_step rfl (PS_assign rfl) ?_
          refine GL_nil ?_
          refine GQ_sub (.cons (k := 1) rfl (.cons (k := 2) rfl (.cons (k := 4) rfl (.cons (k := 8) rfl (.cons (k := 9) rfl (.cons (k := 10) rfl (.nil _))))))) ?_
          refine GQ_then ?_
          refine G_region ?_
          refine GL_step rfl (PS_fieldAddr fa41_0 rfl) ?_
          refine GL_unit (PU_store Telnet.l0 rfl rfl rfl sz3 rfl (.tail (.tail (.tail (.tail .head))))) ?_
          refine GL_nil ?_
          refine GQ_sub (.cons (k := 1) rfl (.cons (k := 2) rfl (.cons (k := 4) rfl (.cons (k := 8) rfl (.cons (k := 9) rfl (.cons (k := 10) rfl (.nil _))))))) ?_
          refine GQ_block ?_
          refine GQ_block ?_
          refine GQ_then ?_
          refine G_region ?_
          refine GL_step rfl (PS_move rfl) ?_
          refine GL_step rfl (PS_add rfl rfl (IntWalk.i64_in _ (by first | omega | (have b3 := (t.sub.getD (Int.toNat 3) 0).toNat_lt; have b4 := (t.sub.getD (Int.toNat 4) 0).toNat_lt; omega)))) ?_
          refine GL_step rfl (PS_assign rfl) ?_
          refine GL_nil ?_
          refine GQ_sub (.cons (k := 1) rfl (.cons (k := 2) rfl (.cons (k := 4) rfl (.cons (k := 8) rfl (.cons (k := 9) rfl (.cons (k := 10) rfl (.nil _))))))) ?_
          refine GQ_next6_ (k + 1) _ _ _ _ _ ?_ ?_ (.cons (k := 8) rfl (.cons (k := 9) rfl (.cons (k := 10) rfl (.cons (k := 1) rfl (.cons (k := 2) rfl (.cons (k := 4) rfl (.nil _))))))) (.cons _ (.cons _ (.refl _)))
          · have e : t.stepR (u.getD k.toNat 0) = _ := ((if_f c3).trans (if_t c4))
            exact hI11.nextI hat (by omega) (by rw [e] <;> rfl) (by rw [e] <;> simp) (by rw [e] <;> simp) (by (try dsimp only at *) <;> (try simp only [List.length_append, List.length_cons, List.length_nil]) <;> omega) (by (try dsimp only at *) <;> (try simp only [List.length_append, List.length_cons, List.length_nil]) <;> omega)
          · omega
        · skip
          have c4p := c4
          try simp only [decide_eq_true_eq, decide_eq_false_iff_not, Bool.not_eq_true', Bool.not_eq_false', Bool.or_eq_true, Bool.and_eq_true, Bool.or_eq_false_iff, Bool.and_eq_false_iff, Int.not_lt, Int.not_le] at c4p
          refine G_seq ?_
          refine G_region ?_
          refine GL_step rfl (PS_eql rfl rfl) ?_
          refine GL_step rfl (PS_assign rfl) ?_
          refine GL_nil ?_
          refine GQ_sub (.cons (k := 1) rfl (.cons (k := 2) rfl (.cons (k := 4) rfl (.cons (k := 8) rfl (.cons (k := 9) rfl (.cons (k := 10) rfl (.cons (k := 11) rfl (.cons (k := 12) rfl (.cons (k := 34) rfl (.cons (k := 112) rfl (.nil _))))))))))) ?_
          refine GQ_then ?_
          refine G_cond rfl (fun c5 => ?_) (fun c5 => ?_)
          · skip
            have c5p := c5
            try simp only [decide_eq_true_eq, decide_eq_false_iff_not, Bool.not_eq_true', Bool.not_eq_false', Bool.or_eq_true, Bool.and_eq_true, Bool.or_eq_false_iff, Bool.and_eq_false_iff, Int.not_lt, Int.not_le] at c5p
            refine G_region ?_
            refine GL_step rfl (PS_fieldAddr fa41_0 rfl) ?_
            refine GL_unit (PU_store Telnet.l0 rfl rfl rfl sz3 rfl (.tail (.tail (.tail .head)))) ?_
            refine GL_nil ?_
            refine GQ_sub (.cons (k := 1) rfl (.cons (k := 2) rfl (.cons (k := 4) rfl (.cons (k := 8) rfl (.cons (k := 9) rfl (.cons (k := 10) rfl (.nil _))))))) ?_
            refine GQ_block ?_
            refine GQ_block ?_
            refine GQ_then ?_
            refine G_region ?_
            refine GL_step rfl (PS_move rfl) ?_
            refine GL_step rfl (PS_add rfl rfl (IntWalk.i64_in _ (by first | omega | (have b3 := (t.sub.getD (Int.toNat 3) 0).toNat_lt; have b4 := (t.sub.getD (Int.toNat 4) 0).toNat_lt; omega)))) ?_
            refine GL_step rfl (PS_assign rfl) ?_
            refine GL_nil ?_
            refine GQ_sub (.cons (k := 1) rfl (.cons (k := 2) rfl (.cons (k := 4) rfl (.cons (k := 8) rfl (.cons (k := 9) rfl (.cons (k := 10) rfl (.nil _))))))) ?_
            refine GQ_next6_ (k + 1) _ _ _ _ _ ?_ ?_ (.cons (k := 8) rfl (.cons (k := 9) rfl (.cons (k := 10) rfl (.cons (k := 1) rfl (.cons (k := 2) rfl (.cons (k := 4) rfl (.nil _))))))) (.cons _ (.refl _))
            · have e : t.stepR (u.getD k.toNat 0) = _ := ((if_f c3).trans ((if_f c4).trans (if_t c5)))
              exact hI11.nextI hat (by omega) (by rw [e] <;> rfl) (by rw [e] <;> simp) (by rw [e] <;> simp) (by (try dsimp only at *) <;> (try simp only [List.length_append, List.length_cons, List.length_nil]) <;> omega) (by (try dsimp only at *) <;> (try simp only [List.length_append, List.length_cons, List.length_nil]) <;> omega)
            · omega
          · skip
            have c5p := c5
            try simp only [decide_eq_true_eq, decide_eq_false_iff_not, Bool.not_eq_true', Bool.not_eq_false', Bool.or_eq_true, Bool.and_eq_true, Bool.or_eq_false_iff, Bool.and_eq_false_iff, Int.not_lt, Int.not_le] at c5p
            refine G_seq ?_
            refine G_seq ?_
            refine G_region ?_
            refine GL_step rfl (PS_eql rfl rfl) ?_
            refine GL_step rfl (PS_assign rfl) ?_
            refine GL_nil ?_
            refine GQ_sub (.cons (k := 1) rfl (.cons (k := 2) rfl (.cons (k := 4) rfl (.cons (k := 8) rfl (.cons (k := 9) rfl (.cons (k := 10) rfl (.cons (k := 11) rfl (.cons (k := 12) rfl (.cons (k := 34) rfl (.cons (k := 115) rfl (.nil _))))))))))) ?_
            refine GQ_then ?_
            refine G_cond rfl (fun c6 => ?_) (fun c6 => ?_)
            · skip
              have c6p := c6
              try simp only [decide_eq_true_eq, decide_eq_false_iff_not, Bool.not_eq_true', Bool.not_eq_false', Bool.or_eq_true, Bool.and_eq_true, Bool.or_eq_false_iff, Bool.and_eq_false_iff, Int.not_lt, Int.not_le] at c6p
              refine G_skip ?_
              refine GQ_then ?_
              refine G_true rfl c6 ?_
              refine G_planN (N := 5) [0, 0, 2, 7, 15] mix (by kernel_rfl) rfl ?_
              refine Plan_float 0 rfl rfl (by kernel_rfl) (OK_s (EX_s (PS_load1 rfl tys3 (.head _)))) ?_
              refine Plan_float 1 rfl rfl (by kernel_rfl) (OK_s (EX_s (PS_fieldAddr fa41_0 rfl))) ?_
              refine Plan_chain 2 rfl (by kernel_rfl) ?_
              refine GL_unit (PU_store Telnet.l0 rfl rfl rfl sz3 rfl (.tail (.tail (.tail .head)))) ?_
              refine GL_hand0 rfl ⟨?_, ?_⟩
              · exact (Pend_skip (by kernel_rfl) (Pend_okv rfl (OK_s (EX_s (PS_load1 rfl tys3 (.head _)))) rfl rfl Pend_nil))
              refine Plan_float 3 rfl rfl (by kernel_rfl) (OK_s (EX_s (PS_fieldAddr fa41_1 rfl))) ?_
              refine Plan_chain 4 rfl (by kernel_rfl) ?_
              refine GL_unit (PU_store Telnet.l1 rfl rfl rfl sz3 rfl (.tail (.tail (.tail .head)))) ?_
              refine GL_hand0 rfl ⟨?_, ?_⟩
              · exact (Pend_skip (by kernel_rfl) (Pend_skip (by kernel_rfl) (Pend_skip (by kernel_rfl) Pend_nil)))
              refine Plan_end (by kernel_rfl) ?_
              refine GQ_sub (.cons (k := 1) rfl (.cons (k := 2) rfl (.cons (k := 4) rfl (.cons (k := 8) rfl (.cons (k := 9) rfl (.cons (k := 10) rfl (.nil _))))))) ?_
              refine GQ_block ?_
              refine GQ_block ?_
              refine GQ_then ?_
              refine G_region ?_
              refine GL_step rfl (PS_move rfl) ?_
              refine GL_step rfl (PS_add rfl rfl (IntWalk.i64_in _ (by first | omega | (have b3 := (t.sub.getD (Int.toNat 3) 0).toNat_lt; have b4 := (t.sub.getD (Int.toNat 4) 0).toNat_lt; omega)))) ?_
              refine GL_step rfl (PS_assign rfl) ?_
              refine GL_nil ?_
              refine GQ_sub (.cons (k := 1) rfl (.cons (k := 2) rfl (.cons (k := 4) rfl (.cons (k := 8) rfl (.cons (k := 9) rfl (.cons (k := 10) rfl (.nil _))))))) ?_
              refine GQ_next6_ (k + 1) _ _ _ _ _ ?_ ?_ (.cons (k := 8) rfl (.cons (k := 9) rfl (.cons (k := 10) rfl (.cons (k := 1) rfl (.cons (k := 2) rfl (.cons (k := 4) rfl (.nil _))))))) (.cons _ (.refl _))
              · have e : t.stepR (u.getD k.toNat 0) = _ := ((if_f c3).trans ((if_f c4).trans ((if_f c5).trans (if_t c6))))
                exact hI11.nextI hat (by omega) (by rw [e] <;> rfl) (by rw [e] <;> simp) (by rw [e] <;> simp) (by (try dsimp only at *) <;> (try simp only [List.length_append, List.length_cons, List.length_nil]) <;> omega) (by (try dsimp only at *) <;> (try simp only [List.length_append, List.length_cons, List.length_nil]) <;> omega)
              · omega
            · skip
              have c6p := c6
              try simp only [decide_eq_true_eq, decide_eq_false_iff_not, Bool.not_eq_true', Bool.not_eq_false', Bool.or_eq_true, Bool.and_eq_true, Bool.or_eq_false_iff, Bool.and_eq_false_iff, Int.not_lt, Int.not_le] at c6p
              refine G_seq ?_
              refine G_region ?_
              refine GL_step rfl (PS_eql rfl rfl) ?_
              refine GL_step rfl (PS_assign rfl) ?_
              refine GL_nil ?_
              refine GQ_sub (.cons (k := 1) rfl (.cons (k := 2) rfl (.cons (k := 4) rfl (.cons (k := 8) rfl (.cons (k := 9) rfl (.cons (k := 10) rfl (.cons (k := 11) rfl (.cons (k := 12) rfl (.cons (k := 34) rfl (.cons (k := 115) rfl (.nil _))))))))))) ?_
              refine GQ_then ?_
              refine G_cond rfl (fun c7 => ?_) (fun c7 => ?_)
              · skip
                have c7p := c7
                try simp only [decide_eq_true_eq, decide_eq_false_iff_not, Bool.not_eq_true', Bool.not_eq_false', Bool.or_eq_true, Bool.and_eq_true, Bool.or_eq_false_iff, Bool.and_eq_false_iff, Int.not_lt, Int.not_le] at c7p
                refine G_skip ?_
                refine GQ_then ?_
                refine G_true rfl c7 ?_
                refine G_planN (N := 5) [0, 0, 2, 7, 15] mix (by kernel_rfl) rfl ?_
                refine Plan_float 0 rfl rfl (by kernel_rfl) (OK_s (EX_s (PS_load1 rfl tys3 (.head _)))) ?_
                refine Plan_float 1 rfl rfl (by kernel_rfl) (OK_s (EX_s (PS_fieldAddr fa41_0 rfl))) ?_
                refine Plan_chain 2 rfl (by kernel_rfl) ?_
                refine GL_unit (PU_store Telnet.l0 rfl rfl rfl sz3 rfl (.tail (.tail (.tail .head)))) ?_
                refine GL_hand0 rfl ⟨?_, ?_⟩
                · exact (Pend_skip (by kernel_rfl) (Pend_okv rfl (OK_s (EX_s (PS_load1 rfl tys3 (.head _)))) rfl rfl Pend_nil))
                refine Plan_float 3 rfl rfl (by kernel_rfl) (OK_s (EX_s (PS_fieldAddr fa41_1 rfl))) ?_
                refine Plan_chain 4 rfl (by kernel_rfl) ?_
                refine GL_unit (PU_store Telnet.l1 rfl rfl rfl sz3 rfl (.tail (.tail (.tail .head)))) ?_
                refine GL_hand0 rfl ⟨?_, ?_⟩
                · exact (Pend_skip (by kernel_rfl) (Pend_skip (by kernel_rfl) (Pend_skip (by kernel_rfl) Pend_nil)))
                refine Plan_end (by kernel_rfl) ?_
                refine GQ_sub (.cons (k := 1) rfl (.cons (k := 2) rfl (.cons (k := 4) rfl (.cons (k := 8) rfl (.cons (k := 9) rfl (.cons (k := 10) rfl (.nil _))))))) ?_
                refine GQ_block ?_
                refine GQ_block ?_
                refine GQ_then ?_
                refine G_region ?_
                refine GL_step rfl (PS_move rfl) ?_
                refine GL_step rfl (PS_add rfl rfl (IntWalk.i64_in _ (by first | omega | (have b3 := (t.sub.getD (Int.toNat 3) 0).toNat_lt; have b4 := (t.sub.getD (Int.toNat 4) 0).toNat_lt; omega)))) ?_
                refine GL_step rfl (PS_assign rfl) ?_
                refine GL_nil ?_
                refine GQ_sub (.cons (k := 1) rfl (.cons (k := 2) rfl (.cons (k := 4) rfl (.cons (k := 8) rfl (.cons (k := 9) rfl (.cons (k := 10) rfl (.nil _))))))) ?_
                refine GQ_next6_ (k + 1) _ _ _ _ _ ?_ ?_ (.cons (k := 8) rfl (.cons (k := 9) rfl (.cons (k := 10) rfl (.cons (k := 1) rfl (.cons (k := 2) rfl (.cons (k := 4) rfl (.nil _))))))) (.cons _ (.refl _))
                · have e : t.stepR (u.getD k.toNat 0) = _ := ((if_f c3).trans ((if_f c4).trans ((if_f c5).trans ((if_f c6).trans (if_t c7)))))
                  exact hI11.nextI hat (by omega) (by rw [e] <;> rfl) (by rw [e] <;> simp) (by rw [e] <;> simp) (by (try dsimp only at *) <;> (try simp only [List.length_append, List.length_cons, List.length_nil]) <;> omega) (by (try dsimp only at *) <;> (try simp only [List.length_append, List.length_cons, List.length_nil]) <;> omega)
                · omega
              · skip
                have c7p := c7
                try simp only [decide_eq_true_eq, decide_eq_false_iff_not, Bool.not_eq_true', Bool.not_eq_false', Bool.or_eq_true, Bool.and_eq_true, Bool.or_eq_false_iff, Bool.and_eq_false_iff, Int.not_lt, Int.not_le] at c7p
                refine G_seq ?_
                refine G_region ?_
                refine GL_step rfl (PS_eql rfl rfl) ?_
                refine GL_step rfl (PS_assign rfl) ?_
                refine GL_nil ?_
                refine GQ_sub (.cons (k := 1) rfl (.cons (k := 2) rfl (.cons (k := 4) rfl (.cons (k := 8) rfl (.cons (k := 9) rfl (.cons (k := 10) rfl (.cons (k := 11) rfl (.cons (k := 12) rfl (.cons (k := 34) rfl (.cons (k := 115) rfl (.nil _))))))))))) ?_
                refine GQ_then ?_
                refine G_cond rfl (fun c8 => ?_) (fun c8 => ?_)
                · skip
                  have c8p := c8
                  try simp only [decide_eq_true_eq, decide_eq_false_iff_not, Bool.not_eq_true', Bool.not_eq_false', Bool.or_eq_true, Bool.and_eq_true, Bool.or_eq_false_iff, Bool.and_eq_false_iff, Int.not_lt, Int.not_le] at c8p
                  refine G_skip ?_
                  refine GQ_then ?_
                  refine G_true rfl c8 ?_
                  refine G_planN (N := 5) [0, 0, 2, 7, 15] mix (by kernel_rfl) rfl ?_
                  refine Plan_float 0 rfl rfl (by kernel_rfl) (OK_s (EX_s (PS_load1 rfl tys3 (.head _)))) ?_
                  refine Plan_float 1 rfl rfl (by kernel_rfl) (OK_s (EX_s (PS_fieldAddr fa41_0 rfl))) ?_
                  refine Plan_chain 2 rfl (by kernel_rfl) ?_
                  refine GL_unit (PU_store Telnet.l0 rfl rfl rfl sz3 rfl (.tail (.tail (.tail .head)))) ?_
                  refine GL_hand0 rfl ⟨?_, ?_⟩
                  · exact (Pend_skip (by kernel_rfl) (Pend_okv rfl (OK_s (EX_s (PS_load1 rfl tys3 (.head _)))) rfl rfl Pend_nil))
                  refine Plan_float 3 rfl rfl (by kernel_rfl) (OK_s (EX_s (PS_fieldAddr fa41_1 rfl))) ?_
                  refine Plan_chain 4 rfl (by kernel_rfl) ?_
                  refine GL_unit (PU_store Telnet.l1 rfl rfl rfl sz3 rfl (.tail (.tail (.tail .head)))) ?_
                  refine GL_hand0 rfl ⟨?_, ?_⟩
                  · exact (Pend_skip (by kernel_rfl) (Pend_skip (by kernel_rfl) (Pend_skip (by kernel_rfl) Pend_nil)))
                  refine Plan_end (by kernel_rfl) ?_
                  refine GQ_sub (.cons (k := 1) rfl (.cons (k := 2) rfl (.cons (k := 4) rfl (.cons (k := 8) rfl (.cons (k := 9) rfl (.cons (k := 10) rfl (.nil _))))))) ?_
                  refine GQ_block ?_
                  refine GQ_block ?_
                  refine GQ_then ?_
                  refine G_region ?_
                  refine GL_step rfl (PS_move rfl) ?_
                  refine GL_step rfl (PS_add rfl rfl (IntWalk.i64_in _ (by first | omega | (have b3 := (t.sub.getD (Int.toNat 3) 0).toNat_lt; have b4 := (t.sub.getD (Int.toNat 4) 0).toNat_lt; omega)))) ?_
                  refine GL_step rfl (PS_assign rfl) ?_
                  refine GL_nil ?_
                  refine GQ_sub (.cons (k := 1) rfl (.cons (k := 2) rfl (.cons (k := 4) rfl (.cons (k := 8) rfl (.cons (k := 9) rfl (.cons (k := 10) rfl (.nil _))))))) ?_
                  refine GQ_next6_ (k + 1) _ _ _ _ _ ?_ ?_ (.cons (k := 8) rfl (.cons (k := 9) rfl (.cons (k := 10) rfl (.cons (k := 1) rfl (.cons (k := 2) rfl (.cons (k := 4) rfl (.nil _))))))) (.cons _ (.refl _))
                  · have e : t.stepR (u.getD k.toNat 0) = _ := ((if_f c3).trans ((if_f c4).trans ((if_f c5).trans ((if_f c6).trans ((if_f c7).trans (if_t c8))))))
                    exact hI11.nextI hat (by omega) (by rw [e] <;> rfl) (by rw [e] <;> simp) (by rw [e] <;> simp) (by (try dsimp only at *) <;> (try simp only [List.length_append, List.length_cons, List.length_nil]) <;> omega) (by (try dsimp only at *) <;> (try simp only [List.length_append, List.length_cons, List.length_nil]) <;> omega)
                  · omega
                · skip
                  have c8p := c8
                  try simp only [decide_eq_true_eq, decide_eq_false_iff_not, Bool.not_eq_true', Bool.not_eq_false', Bool.or_eq_true, Bool.and_eq_true, Bool.or_eq_false_iff, Bool.and_eq_false_iff, Int.not_lt, Int.not_le] at c8p
                  refine G_region ?_
                  refine GL_step rfl (PS_eql rfl rfl) ?_
                  refine GL_step rfl (PS_assign rfl) ?_
                  refine GL_nil ?_
                  refine GQ_sub (.cons (k := 1) rfl (.cons (k := 2) rfl (.cons (k := 4) rfl (.cons (k := 8) rfl (.cons (k := 9) rfl (.cons (k := 10) rfl (.cons (k := 11) rfl (.cons (k := 12) rfl (.cons (k := 34) rfl (.cons (k := 115) rfl (.nil _))))))))))) ?_
                  refine GQ_then ?_
                  refine G_cond rfl (fun c9 => ?_) (fun c9 => ?_)
                  · skip
                    have c9p := c9
                    try simp only [decide_eq_true_eq, decide_eq_false_iff_not, Bool.not_eq_true', Bool.not_eq_false', Bool.or_eq_true, Bool.and_eq_true, Bool.or_eq_false_iff, Bool.and_eq_false_iff, Int.not_lt, Int.not_le] at c9p
                    refine G_planN (N := 5) [0, 0, 2, 7, 15] mix (by kernel_rfl) rfl ?_
                    refine Plan_float 0 rfl rfl (by kernel_rfl) (OK_s (EX_s (PS_load1 rfl tys3 (.head _)))) ?_
                    refine Plan_float 1 rfl rfl (by kernel_rfl) (OK_s (EX_s (PS_fieldAddr fa41_0 rfl))) ?_
                    refine Plan_chain 2 rfl (by kernel_rfl) ?_
                    refine GL_unit (PU_store Telnet.l0 rfl rfl rfl sz3 rfl (.tail (.tail (.tail .head)))) ?_
                    refine GL_hand0 rfl ⟨?_, ?_⟩
                    · exact (Pend_skip (by kernel_rfl) (Pend_okv rfl (OK_s (EX_s (PS_load1 rfl tys3 (.head _)))) rfl rfl Pend_nil))
                    refine Plan_float 3 rfl rfl (by kernel_rfl) (OK_s (EX_s (PS_fieldAddr fa41_1 rfl))) ?_
                    refine Plan_chain 4 rfl (by kernel_rfl) ?_
                    refine GL_unit (PU_store Telnet.l1 rfl rfl rfl sz3 rfl (.tail (.tail (.tail .head)))) ?_
                    refine GL_hand0 rfl ⟨?_, ?_⟩
                    · exact (Pend_skip (by kernel_rfl) (Pend_skip (by kernel_rfl) (Pend_skip (by kernel_rfl) Pend_nil)))
                    refine Plan_end (by kernel_rfl) ?_
                    refine GQ_sub (.cons (k := 1) rfl (.cons (k := 2) rfl (.cons (k := 4) rfl (.cons (k := 8) rfl (.cons (k := 9) rfl (.cons (k := 10) rfl (.nil _))))))) ?_
                    refine GQ_block ?_
                    refine GQ_block ?_
                    refine GQ_then ?_
                    refine G_region ?_
                    refine GL_step rfl (PS_move rfl) ?_
                    refine GL_step rfl (PS_add rfl rfl (IntWalk.i64_in _ (by first | omega | (have b3 := (t.sub.getD (Int.toNat 3) 0).toNat_lt; have b4 := (t.sub.getD (Int.toNat 4) 0).toNat_lt; omega)))) ?_
                    refine GL_step rfl (PS_assign rfl) ?_
                    refine GL_nil ?_
                    refine GQ_sub (.cons (k := 1) rfl (.cons (k := 2) rfl (.cons (k := 4) rfl (.cons (k := 8) rfl (.cons (k := 9) rfl (.cons (k := 10) rfl (.nil _))))))) ?_
                    refine GQ_next6_ (k + 1) _ _ _ _ _ ?_ ?_ (.cons (k := 8) rfl (.cons (k := 9) rfl (.cons (k := 10) rfl (.cons (k := 1) rfl (.cons (k := 2) rfl (.cons (k := 4) rfl (.nil _))))))) (.cons _ (.refl _))
                    · have e : t.stepR (u.getD k.toNat 0) = _ := ((if_f c3).trans ((if_f c4).trans ((if_f c5).trans ((if_f c6).trans ((if_f c7).trans ((if_f c8).trans (if_t c9)))))))
                      exact hI11.nextI hat (by omega) (by rw [e] <;> rfl) (by rw [e] <;> simp) (by rw [e] <;> simp) (by (try dsimp only at *) <;> (try simp only [List.length_append, List.length_cons, List.length_nil]) <;> omega) (by (try dsimp only at *) <;> (try simp only [List.length_append, List.length_cons, List.length_nil]) <;> omega)
                    · omega
                  · skip
                    have c9p := c9
                    try simp only [decide_eq_true_eq, decide_eq_false_iff_not, Bool.not_eq_true', Bool.not_eq_false', Bool.or_eq_true, Bool.and_eq_true, Bool.or_eq_false_iff, Bool.and_eq_false_iff, Int.not_lt, Int.not_le] at c9p
                    refine G_seq ?_
                    refine G_region ?_
                    refine GL_step rfl (PS_eql rfl rfl) ?_
                    refine GL_step rfl (PS_assign rfl) ?_
                    refine GL_nil ?_
                    refine GQ_sub (.cons (k := 1) rfl (.cons (k := 2) rfl (.cons (k := 4) rfl (.cons (k := 8) rfl (.cons (k := 9) rfl (.cons (k := 10) rfl (.cons (k := 11) rfl (.cons (k := 12) rfl (.cons (k := 34) rfl (.cons (k := 123) rfl (.nil _))))))))))) ?_
                    refine GQ_then ?_
                    refine G_cond rfl (fun c10 => ?_) (fun c10 => ?_)
                    · skip
                      have c10p := c10
                      try simp only [decide_eq_true_eq, decide_eq_false_iff_not, Bool.not_eq_true', Bool.not_eq_false', Bool.or_eq_true, Bool.and_eq_true, Bool.or_eq_false_iff, Bool.and_eq_false_iff, Int.not_lt, Int.not_le] at c10p
                      refine G_region ?_
                      refine GL_step rfl (PS_fieldAddr fa41_0 rfl) ?_
                      refine GL_unit (PU_store Telnet.l0 rfl rfl rfl sz3 rfl (.tail (.tail (.tail .head)))) ?_
                      refine GL_nil ?_
                      refine GQ_sub (.cons (k := 1) rfl (.cons (k := 2) rfl (.cons (k := 4) rfl (.cons (k := 8) rfl (.cons (k := 9) rfl (.cons (k := 10) rfl (.nil _))))))) ?_
                      refine GQ_block ?_
                      refine GQ_block ?_
                      refine GQ_then ?_
                      refine G_region ?_
                      refine GL_step rfl (PS_move rfl) ?_
                      refine GL_step rfl (PS_add rfl rfl (IntWalk.i64_in _ (by first | omega | (have b3 := (t.sub.getD (Int.toNat 3) 0).toNat_lt; have b4 := (t.sub.getD (Int.toNat 4) 0).toNat_lt; omega)))) ?_
                      refine GL_step rfl (PS_assign rfl) ?_
                      refine GL_nil ?_
                      refine GQ_sub (.cons (k := 1) rfl (.cons (k := 2) rfl (.cons (k := 4) rfl (.cons (k := 8) rfl (.cons (k := 9) rfl (.cons (k := 10) rfl (.nil _))))))) ?_
                      refine GQ_next6_ (k + 1) _ _ _ _ _ ?_ ?_ (.cons (k := 8) rfl (.cons (k := 9) rfl (.cons (k := 10) rfl (.cons (k := 1) rfl (.cons (k := 2) rfl (.cons (k := 4) rfl (.nil _))))))) (.cons _ (.refl _))
                      · have e : t.stepR (u.getD k.toNat 0) = _ := ((if_f c3).trans ((if_f c4).trans ((if_f c5).trans ((if_f c6).trans ((if_f c7).trans ((if_f c8).trans ((if_f c9).trans (if_t c10))))))))
                        exact hI11.nextI hat (by omega) (by rw [e] <;> rfl) (by rw [e] <;> simp) (by rw [e] <;> simp) (by (try dsimp only at *) <;> (try simp only [List.length_append, List.length_cons, List.length_nil]) <;> omega) (by (try dsimp only at *) <;> (try simp only [List.length_append, List.length_cons, List.length_nil]) <;> omega)
                      · omega
                    · skip
                      have c10p := c10
                      try simp only [decide_eq_true_eq, decide_eq_false_iff_not, Bool.not_eq_true', Bool.not_eq_false', Bool.or_eq_true, Bool.and_eq_true, Bool.or_eq_false_iff, Bool.and_eq_false_iff, Int.not_lt, Int.not_le] at c10p
                      refine G_seq ?_
                      refine G_region ?_
                      refine GL_step rfl (PS_eql rfl rfl) ?_
                      refine GL_step rfl (PS_assign rfl) ?_
                      refine GL_nil ?_
                      refine GQ_sub (.cons (k := 1) rfl (.cons (k := 2) rfl (.cons (k := 4) rfl (.cons (k := 8) rfl (.cons (k := 9) rfl (.cons (k := 10) rfl (.cons (k := 11) rfl (.cons (k := 12) rfl (.cons (k := 126) rfl (.nil _)))))))))) ?_
                      refine GQ_then ?_
                      refine G_cond rfl (fun c11 => ?_) (fun c11 => ?_)
                      · skip
                        have c11p := c11
                        try simp only [decide_eq_true_eq, decide_eq_false_iff_not, Bool.not_eq_true', Bool.not_eq_false', Bool.or_eq_true, Bool.and_eq_true, Bool.or_eq_false_iff, Bool.and_eq_false_iff, Int.not_lt, Int.not_le] at c11p
                        refine G_seq ?_
                        refine G_region ?_
                        refine GL_step rfl (PS_move rfl) ?_
                        refine GL_callLV rfl cf39 rfl .nil (.cons (.tail (.tail (.tail .head))) (.cons .head .nil)) (ref_FeedBytes_1_spec _ _ _ _ (by first | assumption | omega)) (fun v2 B hv => ?_)
                        obtain ⟨rfl, rfl⟩ := hv
                        refine GL_nil ?_
                        refine GQ_sub (.cons (k := 1) rfl (.cons (k := 2) rfl (.cons (k := 4) rfl (.cons (k := 8) rfl (.cons (k := 9) rfl (.cons (k := 10) rfl (.nil _))))))) ?_
                        refine GQ_then ?_
                        refine G_region ?_
                        refine GL_step rfl (PS_fieldAddr fa41_0 rfl) ?_
                        refine GL_unit (PU_store Telnet.l0 rfl rfl rfl sz3 rfl .head) ?_
                        refine GL_nil ?_
                        refine GQ_sub (.cons (k := 1) rfl (.cons (k := 2) rfl (.cons (k := 4) rfl (.cons (k := 8) rfl (.cons (k := 9) rfl (.cons (k := 10) rfl (.nil _))))))) ?_
                        refine GQ_block ?_
                        refine GQ_block ?_
                        refine GQ_then ?_
                        refine G_region ?_
                        refine GL_step rfl (PS_move rfl) ?_
                        refine GL_step rfl (PS_add rfl rfl (IntWalk.i64_in _ (by first | omega | (have b3 := (t.sub.getD (Int.toNat 3) 0).toNat_lt; have b4 := (t.sub.getD (Int.toNat 4) 0).toNat_lt; omega)))) ?_
                        refine GL_step rfl (PS_assign rfl) ?_
                        refine GL_nil ?_
                        refine GQ_sub (.cons (k := 1) rfl (.cons (k := 2) rfl (.cons (k := 4) rfl (.cons (k := 8) rfl (.cons (k := 9) rfl (.cons (k := 10) rfl (.nil _))))))) ?_
                        refine GQ_pulls (.cons (.tail (.tail .head)) (.cons (.tail (.tail .head)) (.cons .head (.cons (.tail .head) .nil)))) ?_
                        refine GQ_dropr ?_
                        refine GQ_next6_ (k + 1) _ _ _ _ _ ?_ ?_ (.cons (k := 8) rfl (.cons (k := 9) rfl (.cons (k := 10) rfl (.cons (k := 1) rfl (.cons (k := 2) rfl (.cons (k := 4) rfl (.nil _))))))) (.refl _)
                        · have e : t.stepR (u.getD k.toNat 0) = _ := ((if_f c3).trans ((if_f c4).trans ((if_f c5).trans ((if_f c6).trans ((if_f c7).trans ((if_f c8).trans ((if_f c9).trans ((if_f c10).trans (if_t c11)))))))))
                          exact hI11.nextI hat (by omega) (by rw [e] <;> rfl) (by rw [e] <;> simp) (by rw [e] <;> simp) (by (try dsimp only at *) <;> (try simp only [List.length_append, List.length_cons, List.length_nil]) <;> omega) (by (try dsimp only at *) <;> (try simp only [List.length_append, List.length_cons, List.length_nil]) <;> omega)
                        · omega
                      · skip
                        have c11p := c11
                        try simp only [decide_eq_true_eq, decide_eq_false_iff_not, Bool.not_eq_true', Bool.not_eq_false', Bool.or_eq_true, Bool.and_eq_true, Bool.or_eq_false_iff, Bool.and_eq_false_iff, Int.not_lt, Int.not_le] at c11p
                        refine G_seq ?_
                        refine G_region ?_
                        refine GL_step rfl (PS_fieldAddr fa41_0 rfl) ?_
                        refine GL_step rfl (PS_load rfl tys3 (.tail _ (.tail _ (.tail _ (.head _)))) Telnet.l0 rfl rfl) ?_
                        refine GL_nil ?_
                        refine GQ_sub (.cons (k := 1) rfl (.cons (k := 2) rfl (.cons (k := 4) rfl (.cons (k := 8) rfl (.cons (k := 9) rfl (.cons (k := 10) rfl (.cons (k := 11) rfl (.cons (k := 12) rfl (.cons (k := 36) rfl (.nil _)))))))))) ?_
                        refine GQ_then ?_
                        refine G_block ?_
                        refine G_seq ?_
                        refine G_region ?_
                        refine GL_step rfl (PS_eql rfl rfl) ?_
                        refine GL_step rfl (PS_assign rfl) ?_
                        refine GL_nil ?_
                        refine GQ_sub (.cons (k := 1) rfl (.cons (k := 2) rfl (.cons (k := 4) rfl (.cons (k := 8) rfl (.cons (k := 9) rfl (.cons (k := 10) rfl (.cons (k := 11) rfl (.cons (k := 12) rfl (.cons (k := 36) rfl (.cons (k := 37) rfl (.nil _))))))))))) ?_
                        refine GQ_then ?_
                        refine G_cond rfl (fun c12 => ?_) (fun c12 => ?_)
                        · skip
                          have c12p := c12
                          try simp only [decide_eq_true_eq, decide_eq_false_iff_not, Bool.not_eq_true', Bool.not_eq_false', Bool.or_eq_true, Bool.and_eq_true, Bool.or_eq_false_iff, Bool.and_eq_false_iff, Int.not_lt, Int.not_le] at c12p
                          refine G_region ?_
                          refine GL_step rfl (PS_move rfl) ?_
                          refine GL_step rfl (PS_move rfl) ?_
                          refine GL_step rfl (PS_move rfl) ?_
                          refine GL_step rfl (PS_index_str Tryd.underlying9 rfl rfl (by first | omega | (have b3 := (t.sub.getD (Int.toNat 3) 0).toNat_lt; have b4 := (t.sub.getD (Int.toNat 4) 0).toNat_lt; omega)) (by first | omega | (have b3 := (t.sub.getD (Int.toNat 3) 0).toNat_lt; have b4 := (t.sub.getD (Int.toNat 4) 0).toNat_lt; omega))) ?_
                          refine GL_bs1F encY flY rfl Tryd.underlying50 sz5 zv5 rfl (by decide) (by decide) rfl rfl (fun b5 => ?_)
                          refine GL_appendF flY rfl Tryd.underlying50 sz5 zv5 rfl by5 (by decide) (by decide) rfl rfl (fun w hS => Src.sliceT Tryd.underlying50 ((Kn.own (.head _)) w hS)) (by have hal := Telnet.asked_len t t.verb ((u.getD k.toNat 0).toNat : Int); (try dsimp only at *); omega) (fun _ => (.tail (.tail (.tail .head)))) (fun h3 h3l h3z => ?_)
                          refine GL_step rfl (PS_assign rfl) ?_
                          refine GL_nil ?_
                          refine GQ_sub (.cons (k := 1) rfl (.cons (k := 2) rfl (.cons (k := 4) rfl (.cons (k := 8) rfl (.cons (k := 9) rfl (.cons (k := 10) rfl (.nil _))))))) ?_
                          refine GQ_block ?_
                          refine GQ_block ?_
                          refine GQ_block ?_
                          refine GQ_then ?_
                          refine G_region ?_
                          refine GL_step rfl (PS_move rfl) ?_
                          refine GL_step rfl (PS_add rfl rfl (IntWalk.i64_in _ (by first | omega | (have b3 := (t.sub.getD (Int.toNat 3) 0).toNat_lt; have b4 := (t.sub.getD (Int.toNat 4) 0).toNat_lt; omega)))) ?_
                          refine GL_step rfl (PS_assign rfl) ?_
                          refine GL_nil ?_
                          refine GQ_sub (.cons (k := 1) rfl (.cons (k := 2) rfl (.cons (k := 4) rfl (.cons (k := 8) rfl (.cons (k := 9) rfl (.cons (k := 10) rfl (.nil _))))))) ?_
                          refine GQ_next6_ (k + 1) _ _ _ _ _ ?_ ?_ (.cons (k := 8) rfl (.cons (k := 9) rfl (.cons (k := 10) rfl (.cons (k := 1) rfl (.cons (k := 2) rfl (.cons (k := 4) rfl (.nil _))))))) (.cons _ (.cons _ (.refl _)))
                          · have e : t.stepR (u.getD k.toNat 0) = _ := ((if_f c3).trans ((if_f c4).trans ((if_f c5).trans ((if_f c6).trans ((if_f c7).trans ((if_f c8).trans ((if_f c9).trans ((if_f c10).trans ((if_f c11).trans (if_t c12))))))))))
                            exact hI11.nextI hat (by omega) (by rw [e] <;> rfl) (by rw [e] <;> simp) (by rw [e] <;> simp) (by (try dsimp only at *) <;> (try simp only [List.length_append, List.length_cons, List.length_nil]) <;> omega) (by (try dsimp only at *) <;> (try simp only [List.length_append, List.length_cons, List.length_nil]) <;> omega)
                          · omega
                        · skip
                          have c12p := c12
                          try simp only [decide_eq_true_eq, decide_eq_false_iff_not, Bool.not_eq_true', Bool.not_eq_false', Bool.or_eq_true, Bool.and_eq_true, Bool.or_eq_false_iff, Bool.and_eq_false_iff, Int.not_lt, Int.not_le] at c12p
                          refine G_seq ?_
                          refine G_region ?_
                          refine GL_step rfl (PS_eql rfl rfl) ?_
                          refine GL_step rfl (PS_assign rfl) ?_
                          refine GL_nil ?_
                          refine GQ_sub (.cons (k := 1) rfl (.cons (k := 2) rfl (.cons (k := 4) rfl (.cons (k := 8) rfl (.cons (k := 9) rfl (.cons (k := 10) rfl (.cons (k := 11) rfl (.cons (k := 12) rfl (.cons (k := 36) rfl (.cons (k := 45) rfl (.nil _))))))))))) ?_
                          refine GQ_then ?_
                          refine G_cond rfl (fun c13 => ?_) (fun c13 => ?_)
                          · skip
                            have c13p := c13
                            try simp only [decide_eq_true_eq, decide_eq_false_iff_not, Bool.not_eq_true', Bool.not_eq_false', Bool.or_eq_true, Bool.and_eq_true, Bool.or_eq_false_iff, Bool.and_eq_false_iff, Int.not_lt, Int.not_le] at c13p
                            refine G_region ?_
                            refine GL_step rfl (PS_fieldAddr fa41_0 rfl) ?_
                            refine GL_unit (PU_store Telnet.l0 rfl rfl rfl sz3 rfl (.tail (.tail (.tail .head)))) ?_
                            refine GL_nil ?_
                            refine GQ_sub (.cons (k := 1) rfl (.cons (k := 2) rfl (.cons (k := 4) rfl (.cons (k := 8) rfl (.cons (k := 9) rfl (.cons (k := 10) rfl (.nil _))))))) ?_
                            refine GQ_block ?_
                            refine GQ_block ?_
                            refine GQ_block ?_
                            refine GQ_then ?_
                            refine G_region ?_
                            refine GL_step rfl (PS_move rfl) ?_
                            refine GL_step rfl (PS_add rfl rfl (IntWalk.i64_in _ (by first | omega | (have b3 := (t.sub.getD (Int.toNat 3) 0).toNat_lt; have b4 := (t.sub.getD (Int.toNat 4) 0).toNat_lt; omega)))) ?_
                            refine GL_step rfl (PS_assign rfl) ?_
                            refine GL_nil ?_
                            refine GQ_sub (.cons (k := 1) rfl (.cons (k := 2) rfl (.cons (k := 4) rfl (.cons (k := 8) rfl (.cons (k := 9) rfl (.cons (k := 10) rfl (.nil _))))))) ?_
                            refine GQ_next6_ (k + 1) _ _ _ _ _ ?_ ?_ (.cons (k := 8) rfl (.cons (k := 9) rfl (.cons (k := 10) rfl (.cons (k := 1) rfl (.cons (k := 2) rfl (.cons (k := 4) rfl (.nil _))))))) (.cons _ (.refl _))
                            · have e : t.stepR (u.getD k.toNat 0) = _ := ((if_f c3).trans ((if_f c4).trans ((if_f c5).trans ((if_f c6).trans ((if_f c7).trans ((if_f c8).trans ((if_f c9).trans ((if_f c10).trans ((if_f c11).trans ((if_f c12).trans (if_t c13)))))))))))
                              exact hI11.nextI hat (by omega) (by rw [e] <;> rfl) (by rw [e] <;> simp) (by rw [e] <;> simp) (by (try dsimp only at *) <;> (try simp only [List.length_append, List.length_cons, List.length_nil]) <;> omega) (by (try dsimp only at *) <;> (try simp only [List.length_append, List.length_cons, List.length_nil]) <;> omega)
                            · omega
                          · skip
                            have c13p := c13
                            try simp only [decide_eq_true_eq, decide_eq_false_iff_not, Bool.not_eq_true', Bool.not_eq_false', Bool.or_eq_true, Bool.and_eq_true, Bool.or_eq_false_iff, Bool.and_eq_false_iff, Int.not_lt, Int.not_le] at c13p
                            refine G_seq ?_
                            refine G_region ?_
                            refine GL_step rfl (PS_eql rfl rfl) ?_
                            refine GL_step rfl (PS_assign rfl) ?_
                            refine GL_nil ?_
                            refine GQ_sub (.cons (k := 1) rfl (.cons (k := 2) rfl (.cons (k := 4) rfl (.cons (k := 8) rfl (.cons (k := 9) rfl (.cons (k := 10) rfl (.cons (k := 11) rfl (.cons (k := 12) rfl (.cons (k := 36) rfl (.cons (k := 48) rfl (.nil _))))))))))) ?_
                            refine GQ_then ?_
                            refine G_cond rfl (fun c14 => ?_) (fun c14 => ?_)
                            · skip
                              have c14p := c14
                              try simp only [decide_eq_true_eq, decide_eq_false_iff_not, Bool.not_eq_true', Bool.not_eq_false', Bool.or_eq_true, Bool.and_eq_true, Bool.or_eq_false_iff, Bool.and_eq_false_iff, Int.not_lt, Int.not_le] at c14p
                              refine G_seq ?_
                              refine G_region ?_
                              refine GL_step rfl (PS_assign rfl) ?_
                              refine GL_nil ?_
                              refine GQ_sub (.cons (k := 1) rfl (.cons (k := 2) rfl (.cons (k := 4) rfl (.cons (k := 8) rfl (.cons (k := 9) rfl (.cons (k := 10) rfl (.cons (k := 11) rfl (.nil _)))))))) ?_
                              refine GQ_then ?_
                              refine G_seq ?_
                              refine G_region ?_
                              refine GL_step rfl (PS_loadA rfl tya41 (.tail _ (.tail _ (.tail _ (.head _)))) (Lens.id Telnet.fl.len Telnet.fl.one) rfl) ?_
                              refine GL_step rfl (PS_fieldAddr fa41_1 rfl) ?_
                              refine GL_step rfl (PS_load rfl tys3 (.tail _ (.tail _ (.tail _ (.head _)))) Telnet.l1 rfl rfl) ?_
                              refine GL_step rfl (PS_load1 rfl tys3 (.head _)) ?_
                              refine GL_pure rfl cf41 (.cons rfl (.cons rfl (.cons rfl .nil))) (fun w hS => ref_asked_spec _ _ _ (by omega) w) ?_
                              refine GL_step rfl (PS_move rfl) ?_
                              refine GL_step rfl (PS_extract rfl rfl) ?_
                              refine GL_step rfl (PS_extract rfl rfl) ?_
                              refine GL_unit (PU_store (Lens.id Telnet.fl.len Telnet.fl.one) rfl rfl rfl sz41 rfl (.tail (.tail (.tail .head)))) ?_
                              refine GL_step rfl (PS_assign rfl) ?_
                              refine GL_nil ?_
                              refine GQ_sub (.cons (k := 1) rfl (.cons (k := 2) rfl (.cons (k := 4) rfl (.cons (k := 8) rfl (.cons (k := 9) rfl (.cons (k := 10) rfl (.cons (k := 13) rfl (.nil _)))))))) ?_
                              refine GQ_then ?_
                              refine G_seq ?_
                              refine G_region ?_
                              refine GL_step rfl (PS_move rfl) ?_
                              refine GL_step rfl (PS_move rfl) ?_
                              refine GL_appendF flY rfl Tryd.underlying50 sz5 zv5 rfl by5 (by decide) (by decide) rfl rfl (fun _ _ => Src.str Tryd.underlying9) (by have hal := Telnet.asked_len t t.verb ((u.getD k.toNat 0).toNat : Int); (try dsimp only at *); omega) (fun _ => (.tail .head)) (fun h4 h4l h4z => ?_)
                              refine GL_step rfl (PS_assign rfl) ?_
                              refine GL_nil ?_
                              refine GQ_sub (.cons (k := 1) rfl (.cons (k := 2) rfl (.cons (k := 4) rfl (.cons (k := 8) rfl (.cons (k := 9) rfl (.cons (k := 10) rfl (.nil _))))))) ?_
                              refine GQ_then ?_
                              refine G_region ?_
                              refine GL_step rfl (PS_fieldAddr fa41_0 rfl) ?_
                              refine GL_unit (PU_store Telnet.l0 rfl rfl rfl sz3 rfl (.tail (.tail (.tail .head)))) ?_
                              refine GL_step rfl (PS_fieldAddr fa41_1 rfl) ?_
                              refine GL_unit (PU_store Telnet.l1 rfl rfl rfl sz3 rfl (.tail (.tail (.tail .head)))) ?_
                              refine GL_nil ?_
                              refine GQ_sub (.cons (k := 1) rfl (.cons (k := 2) rfl (.cons (k := 4) rfl (.cons (k := 8) rfl (.cons (k := 9) rfl (.cons (k := 10) rfl (.nil _))))))) ?_
                              refine GQ_block ?_
                              refine GQ_block ?_
                              refine GQ_block ?_
                              refine GQ_then ?_
                              refine G_region ?_
                              refine GL_step rfl (PS_move rfl) ?_
                              refine GL_step rfl (PS_add rfl rfl (IntWalk.i64_in _ (by first | omega | (have b3 := (t.sub.getD (Int.toNat 3) 0).toNat_lt; have b4 := (t.sub.getD (Int.toNat 4) 0).toNat_lt; omega)))) ?_
                              refine GL_step rfl (PS_assign rfl) ?_
                              refine GL_nil ?_
                              refine GQ_sub (.cons (k := 1) rfl (.cons (k := 2) rfl (.cons (k := 4) rfl (.cons (k := 8) rfl (.cons (k := 9) rfl (.cons (k := 10) rfl (.nil _))))))) ?_
                              refine GQ_next6_ (k + 1) _ _ _ _ _ ?_ ?_ (.cons (k := 8) rfl (.cons (k := 9) rfl (.cons (k := 10) rfl (.cons (k := 1) rfl (.cons (k := 2) rfl (.cons (k := 4) rfl (.nil _))))))) (.cons _ (.refl _))
                              · have e : t.stepR (u.getD k.toNat 0) = _ := ((if_f c3).trans ((if_f c4).trans ((if_f c5).trans ((if_f c6).trans ((if_f c7).trans ((if_f c8).trans ((if_f c9).trans ((if_f c10).trans ((if_f c11).trans ((if_f c12).trans ((if_f c13).trans (if_t c14))))))))))))
                                exact hI11.nextI hat (by omega) (by rw [e] <;> rfl) (by rw [e] <;> simp) (by rw [e] <;> simp) (by (try dsimp only at *) <;> (try simp only [List.length_append, List.length_cons, List.length_nil]) <;> omega) (by (try dsimp only at *) <;> (try simp only [List.length_append, List.length_cons, List.length_nil]) <;> omega)
                              · omega
                            · skip
                              have c14p := c14
                              try simp only [decide_eq_true_eq, decide_eq_false_iff_not, Bool.not_eq_true', Bool.not_eq_false', Bool.or_eq_true, Bool.and_eq_true, Bool.or_eq_false_iff, Bool.and_eq_false_iff, Int.not_lt, Int.not_le] at c14p
                              refine G_seq ?_
                              refine G_region ?_
                              refine GL_step rfl (PS_eql rfl rfl) ?_
                              refine GL_step rfl (PS_assign rfl) ?_
                              refine GL_nil ?_
                              refine GQ_sub (.cons (k := 1) rfl (.cons (k := 2) rfl (.cons (k := 4) rfl (.cons (k := 8) rfl (.cons (k := 9) rfl (.cons (k := 10) rfl (.cons (k := 11) rfl (.cons (k := 12) rfl (.cons (k := 36) rfl (.cons (k := 63) rfl (.nil _))))))))))) ?_
                              refine GQ_then ?_
                              refine G_cond rfl (fun c15 => ?_) (fun c15 => ?_)
                              · skip
                                have c15p := c15
                                try simp only [decide_eq_true_eq, decide_eq_false_iff_not, Bool.not_eq_true', Bool.not_eq_false', Bool.or_eq_true, Bool.and_eq_true, Bool.or_eq_false_iff, Bool.and_eq_false_iff, Int.not_lt, Int.not_le] at c15p
                                refine G_region ?_
                                refine GL_step rfl (PS_move rfl) ?_
                                refine GL_callLV rfl cf39 rfl .nil (.cons (.tail (.tail (.tail .head))) (.cons .head .nil)) (ref_FeedBytes_1_spec _ _ _ _ (by first | assumption | omega)) (fun v5 B hv => ?_)
                                obtain ⟨rfl, rfl⟩ := hv
                                refine GL_nil ?_
                                refine GQ_sub (.cons (k := 1) rfl (.cons (k := 2) rfl (.cons (k := 4) rfl (.cons (k := 8) rfl (.cons (k := 9) rfl (.cons (k := 10) rfl (.nil _))))))) ?_
                                refine GQ_block ?_
                                refine GQ_block ?_
                                refine GQ_block ?_
                                refine GQ_then ?_
                                refine G_region ?_
                                refine GL_step rfl (PS_move rfl) ?_
                                refine GL_step rfl (PS_add rfl rfl (IntWalk.i64_in _ (by first | omega | (have b3 := (t.sub.getD (Int.toNat 3) 0).toNat_lt; have b4 := (t.sub.getD (Int.toNat 4) 0).toNat_lt; omega)))) ?_
                                refine GL_step rfl (PS_assign rfl) ?_
                                refine GL_nil ?_
                                refine GQ_sub (.cons (k := 1) rfl (.cons (k := 2) rfl (.cons (k := 4) rfl (.cons (k := 8) rfl (.cons (k := 9) rfl (.cons (k := 10) rfl (.nil _))))))) ?_
                                refine GQ_pulls (.cons (.tail (.tail .head)) (.cons (.tail (.tail .head)) (.cons .head (.cons (.tail .head) .nil)))) ?_
                                refine GQ_dropr ?_
                                refine GQ_next6_ (k + 1) _ _ _ _ _ ?_ ?_ (.cons (k := 8) rfl (.cons (k := 9) rfl (.cons (k := 10) rfl (.cons (k := 1) rfl (.cons (k := 2) rfl (.cons (k := 4) rfl (.nil _))))))) (.refl _)
                                · have e : t.stepR (u.getD k.toNat 0) = _ := ((if_f c3).trans ((if_f c4).trans ((if_f c5).trans ((if_f c6).trans ((if_f c7).trans ((if_f c8).trans ((if_f c9).trans ((if_f c10).trans ((if_f c11).trans ((if_f c12).trans ((if_f c13).trans ((if_f c14).trans (if_t c15)))))))))))))
                                  exact hI11.nextI hat (by omega) (by rw [e] <;> rfl) (by rw [e] <;> simp) (by rw [e] <;> simp) (by (try dsimp only at *) <;> (try simp only [List.length_append, List.length_cons, List.length_nil]) <;> omega) (by (try dsimp only at *) <;> (try simp only [List.length_append, List.length_cons, List.length_nil]) <;> omega)
                                · omega
                              · skip
                                have c15p := c15
                                try simp only [decide_eq_true_eq, decide_eq_false_iff_not, Bool.not_eq_true', Bool.not_eq_false', Bool.or_eq_true, Bool.and_eq_true, Bool.or_eq_false_iff, Bool.and_eq_false_iff, Int.not_lt, Int.not_le] at c15p
                                refine G_seq ?_
                                refine G_region ?_
                                refine GL_step rfl (PS_eql rfl rfl) ?_
                                refine GL_step rfl (PS_assign rfl) ?_
                                refine GL_nil ?_
                                refine GQ_sub (.cons (k := 1) rfl (.cons (k := 2) rfl (.cons (k := 4) rfl (.cons (k := 8) rfl (.cons (k := 9) rfl (.cons (k := 10) rfl (.cons (k := 11) rfl (.cons (k := 67) rfl (.nil _))))))))) ?_
                                refine GQ_then ?_
                                refine G_cond rfl (fun c16 => ?_) (fun c16 => ?_)
                                · skip
                                  have c16p := c16
                                  try simp only [decide_eq_true_eq, decide_eq_false_iff_not, Bool.not_eq_true', Bool.not_eq_false', Bool.or_eq_true, Bool.and_eq_true, Bool.or_eq_false_iff, Bool.and_eq_false_iff, Int.not_lt, Int.not_le] at c16p
                                  refine G_seq ?_
                                  refine G_seq ?_
                                  refine G_region ?_
                                  refine GL_step rfl (PS_load1 rfl tys3 (.head _)) ?_
                                  refine GL_step rfl (PS_eql rfl rfl) ?_
                                  refine GL_step rfl (PS_move rfl) ?_
                                  refine GL_gt (t := 71) rfl rfl rfl (fun q => PS_fieldAddr fa41_2 rfl) ?_
                                  refine GL_gt (t := 71) rfl rfl rfl (fun q => PS_load (cvE rfl q) tys9 (.tail _ (.tail _ (.tail _ (.head _)))) Telnet.l2 rfl rfl) ?_
                                  refine GL_gt (t := 71) rfl rfl rfl (fun q => PS_len_str rfl Tryd.underlying9 (cvE rfl q)) ?_
                                  refine GL_gt (t := 71) rfl rfl rfl (fun q => PS_eql (cvE rfl q) rfl) ?_
                                  refine GL_step rfl (PS_and rfl rfl (fun h => h)) ?_
                                  refine GL_step rfl (PS_move rfl) ?_
                                  refine GL_gt (t := 77) rfl rfl rfl (fun q => PS_fieldAddr fa41_2 rfl) ?_
                                  refine GL_gt (t := 77) rfl rfl rfl (fun q => PS_load (cvE rfl q) tys9 (.tail _ (.tail _ (.tail _ (.head _)))) Telnet.l2 rfl rfl) ?_
                                  refine GL_gt (t := 77) rfl rfl rfl (fun q => by have q1 := q; (try simp at q1); exact PS_index_str Tryd.underlying9 (cvE rfl q) rfl (by decide) (by first | omega | (have b3 := (t.sub.getD (Int.toNat 3) 0).toNat_lt; have b4 := (t.sub.getD (Int.toNat 4) 0).toNat_lt; omega))) ?_
                                  refine GL_gt (t := 77) rfl rfl rfl (fun q => PS_eql (cvE rfl q) rfl) ?_
                                  refine GL_step rfl (PS_and rfl rfl (fun h => h)) ?_
                                  refine GL_step rfl (PS_move rfl) ?_
                                  refine GL_gt (t := 83) rfl rfl rfl (fun q => PS_fieldAddr fa41_4 rfl) ?_
                                  refine GL_gt (t := 83) rfl rfl rfl (fun q => PS_indexAddr ia39 (cvE rfl q) rfl (by decide) (by decide)) ?_
                                  refine GL_gt (t := 83) rfl rfl rfl (fun q => PS_load (cvE rfl q) tys3 (.tail _ (.tail _ (.tail _ (.head _)))) (Telnet.l4.comp (Lens.arr (n := 3) flI (by decide) (by decide))) rfl rfl) ?_
                                  refine GL_gt (t := 83) rfl rfl rfl (fun q => PS_eql (cvE rfl q) rfl) ?_
                                  refine GL_step rfl (PS_and rfl rfl (fun h => h)) ?_
                                  refine GL_nil ?_
                                  refine GQ_sub (.cons (k := 1) rfl (.cons (k := 2) rfl (.cons (k := 4) rfl (.cons (k := 8) rfl (.cons (k := 9) rfl (.cons (k := 10) rfl (.cons (k := 88) rfl (.nil _)))))))) ?_
                                  refine GQ_then ?_
                                  refine G_cond rfl (fun c17 => ?_) (fun c17 => ?_)
                                  · skip
                                    have c17p := c17
                                    try simp only [decide_eq_true_eq, decide_eq_false_iff_not, Bool.not_eq_true', Bool.not_eq_false', Bool.or_eq_true, Bool.and_eq_true, Bool.or_eq_false_iff, Bool.and_eq_false_iff, Int.not_lt, Int.not_le] at c17p
                                    refine G_planN (N := 13) [0, 1, 3, 7, 15, 0, 32, 96, 224, 511, 1023, 2047, 4095] mix (by kernel_rfl) rfl ?_
                                    refine Plan_float 0 rfl rfl (by kernel_rfl) (OK_s (EX_s (PS_fieldAddr fa41_2 rfl))) ?_
                                    refine Plan_float 1 rfl rfl (by kernel_rfl) (OK_s (EX_s (PS_load rfl tys9 (.tail _ (.tail _ (.tail _ (.head _)))) Telnet.l2 rfl rfl))) ?_
                                    refine Plan_float 2 rfl rfl (by kernel_rfl) (OK_s (EX_s (PS_index_str Tryd.underlying9 rfl rfl (by decide) (by first | omega | (have b3 := (t.sub.getD (Int.toNat 3) 0).toNat_lt; have b4 := (t.sub.getD (Int.toNat 4) 0).toNat_lt; omega))))) ?_
                                    refine Plan_float 3 rfl rfl (by kernel_rfl) (OK_s (EX_s (PS_u8i Tryd.underlying3 Tryd.underlying5 rfl))) ?_
                                    refine Plan_float 4 rfl rfl (by kernel_rfl) (OK_s (EX_s (PS_mul rfl rfl (IntWalk.i64_in _ (by first | omega | (have b3 := (t.sub.getD (Int.toNat 3) 0).toNat_lt; have b4 := (t.sub.getD (Int.toNat 4) 0).toNat_lt; omega)))))) ?_
                                    refine Plan_float 5 rfl rfl (by kernel_rfl) (OK_s (EX_s (PS_fieldAddr fa41_2 rfl))) ?_
                                    refine Plan_float 6 rfl rfl (by kernel_rfl) (OK_s (EX_s (PS_load rfl tys9 (.tail _ (.tail _ (.tail _ (.head _)))) Telnet.l2 rfl rfl))) ?_
                                    refine Plan_float 7 rfl rfl (by kernel_rfl) (OK_s (EX_s (PS_index_str Tryd.underlying9 rfl rfl (by decide) (by first | omega | (have b3 := (t.sub.getD (Int.toNat 3) 0).toNat_lt; have b4 := (t.sub.getD (Int.toNat 4) 0).toNat_lt; omega))))) ?_
                                    refine Plan_float 8 rfl rfl (by kernel_rfl) (OK_s (EX_s (PS_u8i Tryd.underlying3 Tryd.underlying5 rfl))) ?_
                                    refine Plan_float 9 rfl rfl (by kernel_rfl) (OK_s (EX_s (PS_add rfl rfl (IntWalk.i64_in _ (by first | omega | (have b3 := (t.sub.getD (Int.toNat 3) 0).toNat_lt; have b4 := (t.sub.getD (Int.toNat 4) 0).toNat_lt; omega)))))) ?_
                                    refine Plan_float 10 rfl rfl (by kernel_rfl) (OK_s (EX_s (PS_min2 rfl rfl))) ?_
                                    refine Plan_float 11 rfl rfl (by kernel_rfl) (OK_s (EX_s (PS_fieldAddr fa41_5 rfl))) ?_
                                    refine Plan_chain 12 rfl (by kernel_rfl) ?_
                                    refine GL_unit (PU_store Telnet.l5 rfl rfl rfl sz3 rfl (.tail (.tail (.tail .head)))) ?_
                                    refine GL_hand0 rfl ⟨?_, ?_⟩
                                    · exact (Pend_skip (by kernel_rfl) (Pend_skip (by kernel_rfl) (Pend_skip (by kernel_rfl) (Pend_skip (by kernel_rfl) (Pend_skip (by kernel_rfl) (Pend_skip (by kernel_rfl) (Pend_skip (by kernel_rfl) (Pend_skip (by kernel_rfl) (Pend_skip (by kernel_rfl) (Pend_skip (by kernel_rfl) (Pend_skip (by kernel_rfl) (Pend_skip (by kernel_rfl) Pend_nil))))))))))))
                                    refine Plan_end (by kernel_rfl) ?_
                                    refine GQ_sub (.cons (k := 1) rfl (.cons (k := 2) rfl (.cons (k := 4) rfl (.cons (k := 8) rfl (.cons (k := 9) rfl (.cons (k := 10) rfl (.nil _))))))) ?_
                                    refine GQ_then ?_
                                    refine G_region ?_
                                    refine GL_step rfl (PS_fieldAddr fa41_0 rfl) ?_
                                    refine GL_unit (PU_store Telnet.l0 rfl rfl rfl sz3 rfl (.tail (.tail (.tail .head)))) ?_
                                    refine GL_step rfl (PS_fieldAddr fa41_2 rfl) ?_
                                    refine GL_unit (PU_store Telnet.l2 rfl rfl rfl sz9 rfl (.tail (.tail (.tail .head)))) ?_
                                    refine GL_nil ?_
                                    refine GQ_sub (.cons (k := 1) rfl (.cons (k := 2) rfl (.cons (k := 4) rfl (.cons (k := 8) rfl (.cons (k := 9) rfl (.cons (k := 10) rfl (.nil _))))))) ?_
                                    refine GQ_block ?_
                                    refine GQ_block ?_
                                    refine GQ_block ?_
                                    refine GQ_then ?_
                                    refine G_region ?_
                                    refine GL_step rfl (PS_move rfl) ?_
                                    refine GL_step rfl (PS_add rfl rfl (IntWalk.i64_in _ (by first | omega | (have b3 := (t.sub.getD (Int.toNat 3) 0).toNat_lt; have b4 := (t.sub.getD (Int.toNat 4) 0).toNat_lt; omega)))) ?_
                                    refine GL_step rfl (PS_assign rfl) ?_
                                    refine GL_nil ?_
                                    refine GQ_sub (.cons (k := 1) rfl (.cons (k := 2) rfl (.cons (k := 4) rfl (.cons (k := 8) rfl (.cons (k := 9) rfl (.cons (k := 10) rfl (.nil _))))))) ?_
                                    refine GQ_next6_ (k + 1) _ _ _ _ _ ?_ ?_ (.cons (k := 8) rfl (.cons (k := 9) rfl (.cons (k := 10) rfl (.cons (k := 1) rfl (.cons (k := 2) rfl (.cons (k := 4) rfl (.nil _))))))) (.cons _ (.refl _))
                                    · have e : t.stepR (u.getD k.toNat 0) = _ := ((if_f c3).trans ((if_f c4).trans ((if_f c5).trans ((if_f c6).trans ((if_f c7).trans ((if_f c8).trans ((if_f c9).trans ((if_f c10).trans ((if_f c11).trans ((if_f c12).trans ((if_f c13).trans ((if_f c14).trans ((if_f c15).trans ((if_t c16).trans (if_t c17)))))))))))))))
                                      exact hI11.nextI hat (by omega) (by rw [e] <;> rfl) (by rw [e] <;> simp) (by rw [e] <;> simp) (by (try dsimp only at *) <;> (try simp only [List.length_append, List.length_cons, List.length_nil]) <;> omega) (by (try dsimp only at *) <;> (try simp only [List.length_append, List.length_cons, List.length_nil]) <;> omega)
                                    · omega
                                  · skip
                                    have c17p := c17
                                    try simp only [decide_eq_true_eq, decide_eq_false_iff_not, Bool.not_eq_true', Bool.not_eq_false', Bool.or_eq_true, Bool.and_eq_true, Bool.or_eq_false_iff, Bool.and_eq_false_iff, Int.not_lt, Int.not_le] at c17p
                                    refine G_skip ?_
                                    refine GQ_sub (.cons (k := 1) rfl (.cons (k := 2) rfl (.cons (k := 4) rfl (.cons (k := 8) rfl (.cons (k := 9) rfl (.cons (k := 10) rfl (.nil _))))))) ?_
                                    refine GQ_then ?_
                                    refine G_region ?_
                                    refine GL_step rfl (PS_fieldAddr fa41_0 rfl) ?_
                                    refine GL_unit (PU_store Telnet.l0 rfl rfl rfl sz3 rfl (.tail (.tail (.tail .head)))) ?_
                                    refine GL_step rfl (PS_fieldAddr fa41_2 rfl) ?_
                                    refine GL_unit (PU_store Telnet.l2 rfl rfl rfl sz9 rfl (.tail (.tail (.tail .head)))) ?_
                                    refine GL_nil ?_
                                    refine GQ_sub (.cons (k := 1) rfl (.cons (k := 2) rfl (.cons (k := 4) rfl (.cons (k := 8) rfl (.cons (k := 9) rfl (.cons (k := 10) rfl (.nil _))))))) ?_
                                    refine GQ_block ?_
                                    refine GQ_block ?_
                                    refine GQ_block ?_
                                    refine GQ_then ?_
                                    refine G_region ?_
                                    refine GL_step rfl (PS_move rfl) ?_
                                    refine GL_step rfl (PS_add rfl rfl (IntWalk.i64_in _ (by first | omega | (have b3 := (t.sub.getD (Int.toNat 3) 0).toNat_lt; have b4 := (t.sub.getD (Int.toNat 4) 0).toNat_lt; omega)))) ?_
                                    refine GL_step rfl (PS_assign rfl) ?_
                                    refine GL_nil ?_
                                    refine GQ_sub (.cons (k := 1) rfl (.cons (k := 2) rfl (.cons (k := 4) rfl (.cons (k := 8) rfl (.cons (k := 9) rfl (.cons (k := 10) rfl (.nil _))))))) ?_
                                    refine GQ_next6_ (k + 1) _ _ _ _ _ ?_ ?_ (.cons (k := 8) rfl (.cons (k := 9) rfl (.cons (k := 10) rfl (.cons (k := 1) rfl (.cons (k := 2) rfl (.cons (k := 4) rfl (.nil _))))))) (.cons _ (.refl _))
                                    · have e : t.stepR (u.getD k.toNat 0) = _ := ((if_f c3).trans ((if_f c4).trans ((if_f c5).trans ((if_f c6).trans ((if_f c7).trans ((if_f c8).trans ((if_f c9).trans ((if_f c10).trans ((if_f c11).trans ((if_f c12).trans ((if_f c13).trans ((if_f c14).trans ((if_f c15).trans ((if_t c16).trans (if_f c17)))))))))))))))
                                      exact hI11.nextI hat (by omega) (by rw [e] <;> rfl) (by rw [e] <;> simp) (by rw [e] <;> simp) (by (try dsimp only at *) <;> (try simp only [List.length_append, List.length_cons, List.length_nil]) <;> omega) (by (try dsimp only at *) <;> (try simp only [List.length_append, List.length_cons, List.length_nil]) <;> omega)
                                    · omega
                                · skip
                                  have c16p := c16
                                  try simp only [decide_eq_true_eq, decide_eq_false_iff_not, Bool.not_eq_true', Bool.not_eq_false', Bool.or_eq_true, Bool.and_eq_true, Bool.or_eq_false_iff, Bool.and_eq_false_iff, Int.not_lt, Int.not_le] at c16p
                                  refine G_skip ?_
                                  refine GQ_sub (.cons (k := 1) rfl (.cons (k := 2) rfl (.cons (k := 4) rfl (.cons (k := 8) rfl (.cons (k := 9) rfl (.cons (k := 10) rfl (.nil _))))))) ?_
                                  refine GQ_block ?_
                                  refine GQ_block ?_
                                  refine GQ_block ?_
                                  refine GQ_then ?_
                                  refine G_region ?_
                                  refine GL_step rfl (PS_move rfl) ?_
                                  refine GL_step rfl (PS_add rfl rfl (IntWalk.i64_in _ (by first | omega | (have b3 := (t.sub.getD (Int.toNat 3) 0).toNat_lt; have b4 := (t.sub.getD (Int.toNat 4) 0).toNat_lt; omega)))) ?_
                                  refine GL_step rfl (PS_assign rfl) ?_
                                  refine GL_nil ?_
                                  refine GQ_sub (.cons (k := 1) rfl (.cons (k := 2) rfl (.cons (k := 4) rfl (.cons (k := 8) rfl (.cons (k := 9) rfl (.cons (k := 10) rfl (.nil _))))))) ?_
                                  refine GQ_next6_ (k + 1) _ _ _ _ _ ?_ ?_ (.cons (k := 8) rfl (.cons (k := 9) rfl (.cons (k := 10) rfl (.cons (k := 1) rfl (.cons (k := 2) rfl (.cons (k := 4) rfl (.nil _))))))) (.cons _ (.refl _))
                                  · have e : t.stepR (u.getD k.toNat 0) = _ := ((if_f c3).trans ((if_f c4).trans ((if_f c5).trans ((if_f c6).trans ((if_f c7).trans ((if_f c8).trans ((if_f c9).trans ((if_f c10).trans ((if_f c11).trans ((if_f c12).trans ((if_f c13).trans ((if_f c14).trans ((if_f c15).trans (if_f c16))))))))))))))
                                    exact hI11.nextI hat (by omega) (by rw [e] <;> rfl) (by rw [e] <;> simp) (by rw [e] <;> simp) (by (try dsimp only at *) <;> (try simp only [List.length_append, List.length_cons, List.length_nil]) <;> omega) (by (try dsimp only at *) <;> (try simp only [List.length_append, List.length_cons, List.length_nil]) <;> omega)
                                  · omega
    · skip
      have c2p := c2
      try simp only [decide_eq_true_eq, decide_eq_false_iff_not, Bool.not_eq_true', Bool.not_eq_false', Bool.or_eq_true, Bool.and_eq_true, Bool.or_eq_false_iff, Bool.and_eq_false_iff, Int.not_lt, Int.not_le] at c2p
      refine G_exit ?_
      refine GQ_then_exit ?_
      refine GQ_then_exit ?_
      refine GQ_block_exit ?_
      refine GQ_sub (.cons (k := 2) rfl (.cons (k := 4) rfl (.cons (k := 8) rfl (.cons (k := 9) rfl (.nil _))))) ?_
      refine GQ_then ?_
      refine G_seq ?_
      refine G_planN (N := 9) [0, 0, 2, 0, 8, 1, 39, 127, 255] mix (by kernel_rfl) rfl ?_
      refine Plan_float 0 rfl rfl (by kernel_rfl) (OK_s (EX_s (PS_loadA rfl tya41 (.tail _ (.tail _ (.head _))) (Lens.id Telnet.fl.len Telnet.fl.one) rfl))) ?_
      refine Plan_float 1 rfl rfl (by kernel_rfl) (OK_s (EX_s (PS_move rfl))) ?_
      refine Plan_float 2 rfl rfl (by kernel_rfl) (OK_s (EX_s (PS_string Tryd.underlying50 Tryd.underlying9 Tryd.underlying5 rfl (Kn.own (.tail _ (.head _)))))) ?_
      refine Plan_float 3 rfl rfl (by kernel_rfl) (OK_s (EX_s (PS_move rfl))) ?_
      refine Plan_float 4 rfl rfl (by kernel_rfl) (OK_s (EX_s (PS_string Tryd.underlying50 Tryd.underlying9 Tryd.underlying5 rfl (Kn.own (.head _))))) ?_
      refine Plan_chain 5 rfl (by kernel_rfl) ?_
      refine GL_unit (PU_store (Lens.id Telnet.fl.len Telnet.fl.one) rfl rfl rfl sz41 rfl (.tail (.tail (.tail .head)))) ?_
      refine GL_hand0 rfl ⟨?_, ?_⟩
      · exact (Pend_okv rfl (OK_s (EX_s (PS_string Tryd.underlying50 Tryd.underlying9 Tryd.underlying5 rfl (Kn.own (.head _))))) rfl rfl (Pend_okv rfl (OK_s (EX_s (PS_move rfl))) rfl rfl (Pend_okv rfl (OK_s (EX_s (PS_string Tryd.underlying50 Tryd.underlying9 Tryd.underlying5 rfl (Kn.own (.tail _ (.head _)))))) rfl rfl (Pend_okv rfl (OK_s (EX_s (PS_move rfl))) rfl rfl (Pend_skip (by kernel_rfl) Pend_nil)))))
      refine Plan_float 6 rfl rfl (by kernel_rfl) (OK_s (EX_s (PS_assign rfl))) ?_
      refine Plan_float 7 rfl rfl (by kernel_rfl) (OK_s (EX_s (PS_assign rfl))) ?_
      refine Plan_float 8 rfl rfl (by kernel_rfl) (OK_s (EX_s (PS_assign rfl))) ?_
      refine Plan_end (by kernel_rfl) ?_
      refine GQ_sub (.cons (k := 4) rfl (.cons (k := 5) rfl (.cons (k := 6) rfl (.cons (k := 7) rfl (.nil _))))) ?_
      refine GQ_then ?_
      refine G_ret ?_
      refine GQ_ret rfl (.cell rfl (.tail _ (.tail _ (.tail _ (.head _)))) (.inl ⟨(by rw [Telnet.fl.len]; exact tya41), rfl⟩) (.tmp rfl (.tmp rfl (.tmp rfl .nil)))) ?_
      intro w1 hS; refine ⟨?_, hS.toKeep⟩; rw [show X.Feed u = _ from if_f (by rw [← Telnet.refGood_eq]; exact c1), hI11.done (by omega)]; rfl
theorem internal_stringslite_IndexByte_spec (s : Str) (c : UInt8) (w : World) : Ret Tryd.prog 58 #[vstr s, .int .u8 (c.toNat : Int)] w fun v w' => v = .int .i64 (Lib.indexByte s c) ∧ Keep w w' := by
  refine Ret_body [] [] Tryd.func58 rfl rfl rfl (St.start w []) ?_
  refine G_seq ?_
  refine G_region ?_
  refine GL_step rfl (PS_assign rfl) ?_
  refine GL_nil ?_
  refine GQ_sub (.cons (k := 0) rfl (.cons (k := 1) rfl (.nil _))) ?_
  refine GQ_then ?_
  refine G_seq ?_
  refine G_region ?_
  refine GL_step rfl (PS_move rfl) ?_
  refine GL_step rfl (PS_move rfl) ?_
  refine GL_step rfl (PS_indexByteString Tryd.func62 (by kernel_rfl) (by kernel_rfl) (by kernel_rfl) (by kernel_rfl) rfl rfl) ?_
  refine GL_step rfl (PS_assign rfl) ?_
  refine GL_nil ?_
  refine GQ_sub (.cons (k := 4) rfl (.nil _)) ?_
  refine GQ_then ?_
  refine G_ret ?_
  refine GQ_ret rfl (.tmp rfl .nil) ?_
  intro w1 hS; refine ⟨?_, hS.toKeep⟩; rfl
theorem internal_stringslite_Index_spec (s : Str) (c : UInt8) (w : World) : Ret Tryd.prog 55 #[vstr s, vstr [c]] w fun v w' => v = .int .i64 (Lib.indexByte s c) ∧ Keep w w' := by
  refine Ret_body [] [] Tryd.func55 rfl rfl rfl (St.start w []) ?_
  refine G_seq ?_
  refine G_region ?_
  refine GL_step rfl (PS_assign rfl) ?_
  refine GL_nil ?_
  refine GQ_sub (.cons (k := 0) rfl (.cons (k := 1) rfl (.nil _))) ?_
  refine GQ_then ?_
  refine G_seq ?_
  refine G_region ?_
  refine GL_step rfl (PS_move rfl) ?_
  refine GL_step rfl (PS_len_str rfl Tryd.underlying9 rfl) ?_
  refine GL_step rfl (PS_assign rfl) ?_
  refine GL_nil ?_
  refine GQ_sub (.cons (k := 0) rfl (.cons (k := 1) rfl (.cons (k := 5) rfl (.nil _)))) ?_
  refine GQ_then ?_
  refine G_seq ?_
  refine G_block ?_
  refine G_seq ?_
  refine G_region ?_
  refine GL_step rfl (PS_move rfl) ?_
  refine GL_step rfl (PS_eql rfl rfl) ?_
  refine GL_step rfl (PS_move rfl) ?_
  refine GL_gf (t := 19) rfl rfl rfl (fun q => PS_move rfl) ?_
  refine GL_gf (t := 19) rfl rfl rfl (fun q => PS_move rfl) ?_
  refine GL_gf (t := 19) rfl rfl rfl (fun q => PS_eql_str (cvE rfl (by rw [q]; rfl)) (cvE rfl (by rw [q]; rfl))) ?_
  refine GL_step rfl (PS_or rfl rfl (fun h => by rw [h]; rfl)) ?_
  refine GL_step rfl (PS_assign rfl) ?_
  refine GL_nil ?_
  refine GQ_sub (.cons (k := 0) rfl (.cons (k := 1) rfl (.cons (k := 5) rfl (.cons (k := 16) rfl (.nil _))))) ?_
  refine GQ_then ?_
  refine G_cond rfl (fun c1 => ?_) (fun c1 => ?_)
  · skip
    have c1p := c1
    try simp only [decide_eq_true_eq, decide_eq_false_iff_not, Bool.not_eq_true', Bool.not_eq_false', Bool.or_eq_true, Bool.and_eq_true, Bool.or_eq_false_iff, Bool.and_eq_false_iff, Int.not_lt, Int.not_le] at c1p
    refine G_seq ?_
    refine G_region ?_
    refine GL_step rfl (PS_assign rfl) ?_
    refine GL_nil ?_
    refine GQ_sub (.cons (k := 4) rfl (.nil _)) ?_
    refine GQ_then ?_
    refine G_ret ?_
    refine GQ_block_ret ?_
    refine GQ_then_ret ?_
    refine GQ_ret rfl (.tmp rfl .nil) ?_
    intro w1 hS; refine ⟨?_, hS.toKeep⟩; have e : [c] = s := by simpa using c1
    rw [← e, Page.index_one]; rfl
  · skip
    have c1p := c1
    try simp only [decide_eq_true_eq, decide_eq_false_iff_not, Bool.not_eq_true', Bool.not_eq_false', Bool.or_eq_true, Bool.and_eq_true, Bool.or_eq_false_iff, Bool.and_eq_false_iff, Int.not_lt, Int.not_le] at c1p
    refine G_seq ?_
    refine G_region ?_
    refine GL_step rfl (PS_move rfl) ?_
    refine GL_step rfl (PS_eql rfl rfl) ?_
    refine GL_step rfl (PS_assign rfl) ?_
    refine GL_nil ?_
    refine GQ_sub (.cons (k := 0) rfl (.cons (k := 1) rfl (.cons (k := 5) rfl (.cons (k := 24) rfl (.nil _))))) ?_
    refine GQ_then ?_
    refine G_true rfl (by simp) ?_
    refine G_seq ?_
    refine G_region ?_
    refine GL_step rfl (PS_move rfl) ?_
    refine GL_step rfl (PS_move rfl) ?_
    refine GL_step rfl (PS_index_str Tryd.underlying9 rfl rfl (by decide) (by first | omega | simp)) ?_
    refine GL_pure rfl cf58 (.cons rfl (.cons rfl .nil)) (fun w hS => internal_stringslite_IndexByte_spec _ _ w) ?_
    refine GL_step rfl (PS_assign rfl) ?_
    refine GL_nil ?_
    refine GQ_sub (.cons (k := 4) rfl (.nil _)) ?_
    refine GQ_then ?_
    refine G_ret ?_
    refine GQ_block_ret ?_
    refine GQ_then_ret ?_
    refine GQ_ret rfl (.tmp rfl .nil) ?_
    intro w1 hS; refine ⟨?_, hS.toKeep⟩; rfl
theorem strings_Index_spec (s : Str) (c : UInt8) (w : World) : Ret Tryd.prog 49 #[vstr s, vstr [c]] w fun v w' => v = .int .i64 (Lib.indexByte s c) ∧ Keep w w' := by
  refine Ret_body [] [] Tryd.func49 rfl rfl rfl (St.start w []) ?_
  refine G_seq ?_
  refine G_region ?_
  refine GL_step rfl (PS_assign rfl) ?_
  refine GL_nil ?_
  refine GQ_sub (.cons (k := 0) rfl (.cons (k := 1) rfl (.nil _))) ?_
  refine GQ_then ?_
  refine G_seq ?_
  refine G_region ?_
  refine GL_step rfl (PS_move rfl) ?_
  refine GL_step rfl (PS_move rfl) ?_
  refine GL_pure rfl cf55 (.cons rfl (.cons rfl .nil)) (fun w hS => internal_stringslite_Index_spec _ _ w) ?_
  refine GL_step rfl (PS_assign rfl) ?_
  refine GL_nil ?_
  refine GQ_sub (.cons (k := 4) rfl (.nil _)) ?_
  refine GQ_then ?_
  refine G_ret ?_
  refine GQ_ret rfl (.tmp rfl .nil) ?_
  intro w1 hS; refine ⟨?_, hS.toKeep⟩; rfl
theorem strings_Count_spec (s : Str) (c : UInt8) (w : World) : Ret Tryd.prog 47 #[vstr s, vstr [c]] w fun v w' => v = .int .i64 ((s.count c : Nat) : Int) ∧ Keep w w' := by
  refine Ret_body [] [] Tryd.func47 rfl rfl rfl (St.start w []) ?_
  refine G_seq ?_
  refine G_region ?_
  refine GL_step rfl (PS_assign rfl) ?_
  refine GL_nil ?_
  refine GQ_sub (.cons (k := 0) rfl (.cons (k := 1) rfl (.nil _))) ?_
  refine GQ_then ?_
  refine G_seq ?_
  refine G_seq ?_
  refine G_region ?_
  refine GL_step rfl (PS_move rfl) ?_
  refine GL_step rfl (PS_len_str rfl Tryd.underlying9 rfl) ?_
  refine GL_step rfl (PS_eql rfl rfl) ?_
  refine GL_nil ?_
  refine GQ_sub (.cons (k := 0) rfl (.cons (k := 1) rfl (.cons (k := 9) rfl (.nil _)))) ?_
  refine GQ_then ?_
  refine G_false rfl (by simp) ?_
  refine G_skip ?_
  refine GQ_sub (.cons (k := 0) rfl (.cons (k := 1) rfl (.nil _))) ?_
  refine GQ_then ?_
  refine G_seq ?_
  refine G_seq ?_
  refine G_region ?_
  refine GL_step rfl (PS_move rfl) ?_
  refine GL_step rfl (PS_len_str rfl Tryd.underlying9 rfl) ?_
  refine GL_step rfl (PS_eql rfl rfl) ?_
  refine GL_nil ?_
  refine GQ_sub (.cons (k := 0) rfl (.cons (k := 1) rfl (.cons (k := 15) rfl (.nil _)))) ?_
  refine GQ_then ?_
  refine G_true rfl (by simp) ?_
  refine G_seq ?_
  refine G_region ?_
  refine GL_step rfl (PS_move rfl) ?_
  refine GL_step rfl (PS_move rfl) ?_
  refine GL_step rfl (PS_index_str Tryd.underlying9 rfl rfl (by decide) (by first | omega | simp)) ?_
  refine GL_step rfl (PS_countString Tryd.func53 (by kernel_rfl) (by kernel_rfl) (by kernel_rfl) (by kernel_rfl) rfl rfl) ?_
  refine GL_step rfl (PS_assign rfl) ?_
  refine GL_nil ?_
  refine GQ_sub (.cons (k := 4) rfl (.nil _)) ?_
  refine GQ_then ?_
  refine G_ret ?_
  refine GQ_then_ret ?_
  refine GQ_ret rfl (.tmp rfl .nil) ?_
  intro w1 hS; refine ⟨?_, hS.toKeep⟩; rfl
theorem strings_Builder_grow_spec (b : Nat) (m : Int) (h0 : 0 < m) (h1 : m ≤ 281474976710656) : Ctr Tryd.prog 54 #[.pointer (some ⟨b, 0, none⟩), .int .i64 m] [Res.box b 52 (BldV.enc ⟨some ⟨b, 0, none⟩, ⟨none, 0, 0⟩⟩)] (fun v B => ∃ h', v = .tuple #[] ∧ h'.Z ∧ h'.len = 0 ∧ B = [Res.box b 52 (BldV.enc ⟨some ⟨b, 0, none⟩, h'⟩), Res.own h' 5 1 (([] : Str).flatMap encY)]) := by
  intro w hS0
  refine Ret_body _ _ Tryd.func54 rfl rfl rfl (hS0) ?_
  refine G_seq ?_
  refine G_planN (N := 16) [0, 1, 3, 7, 15, 31, 0, 127, 255, 0, 512, 1536, 3584, 7680, 16383, 32767] mix (by kernel_rfl) rfl ?_
  refine Plan_float 0 rfl rfl (by kernel_rfl) (OK_s (EX_s (PS_move rfl))) ?_
  refine Plan_float 1 rfl rfl (by kernel_rfl) (OK_s (EX_s (PS_nilCheck rfl))) ?_
  refine Plan_float 2 rfl rfl (by kernel_rfl) (OK_s (EX_s (PS_fieldAddr fa52_1 rfl))) ?_
  refine Plan_float 3 rfl rfl (by kernel_rfl) (OK_s (EX_s (PS_load rfl tys50 (.head _) BldV.l1 rfl rfl))) ?_
  refine Plan_float 4 rfl rfl (by kernel_rfl) (OK_s (EX_s (PS_cap_slice rfl Tryd.underlying50 rfl))) ?_
  refine Plan_float 5 rfl rfl (by kernel_rfl) (OK_s (EX_s (PS_mul rfl rfl (IntWalk.i64_in _ (by first | omega | (dsimp only; omega)))))) ?_
  refine Plan_float 6 rfl rfl (by kernel_rfl) (OK_s (EX_s (PS_move rfl))) ?_
  refine Plan_float 7 rfl rfl (by kernel_rfl) (OK_s (EX_s (PS_add rfl rfl (IntWalk.i64_in _ (by first | omega | (dsimp only; omega)))))) ?_
  refine Plan_float 9 rfl rfl (by kernel_rfl) (OK_s (EX_s (PS_move rfl))) ?_
  refine Plan_float 10 rfl rfl (by kernel_rfl) (OK_s (EX_s (PS_nilCheck rfl))) ?_
  refine Plan_float 11 rfl rfl (by kernel_rfl) (OK_s (EX_s (PS_fieldAddr fa52_1 rfl))) ?_
  refine Plan_float 12 rfl rfl (by kernel_rfl) (OK_s (EX_s (PS_load rfl tys50 (.head _) BldV.l1 rfl rfl))) ?_
  refine Plan_float 13 rfl rfl (by kernel_rfl) (OK_s (EX_s (PS_len_slice rfl Tryd.underlying50 rfl))) ?_
  refine Plan_chain 8 rfl (by kernel_rfl) ?_
  refine GL_mkNoZero (ps := #[3]) rfl Tryd.func57 (by kernel_rfl) (by kernel_rfl) (by kernel_rfl) (by kernel_rfl) Tryd.underlying50 sz5 rfl (by first | omega | (dsimp only; omega)) (by first | omega | (dsimp only; omega)) (fun b1 b1c b1x b1l b1k => ?_)
  refine GL_hand rfl ⟨?_, ?_⟩
  · exact (Pend_okv rfl (OK_s (EX_s (PS_len_slice rfl Tryd.underlying50 rfl))) rfl rfl (Pend_okv rfl (OK_s (EX_s (PS_load rfl tys50 (.tail _ (.head _)) BldV.l1 rfl rfl))) rfl rfl (Pend_okv rfl (OK_s (EX_s (PS_fieldAddr fa52_1 rfl))) rfl rfl (Pend_okv rfl (OK_s (EX_s (PS_nilCheck rfl))) rfl rfl (Pend_okv rfl (OK_s (EX_s (PS_move rfl))) rfl rfl (Pend_skip (by kernel_rfl) (Pend_skip (by kernel_rfl) (Pend_skip (by kernel_rfl) (Pend_skip (by kernel_rfl) (Pend_skip (by kernel_rfl) (Pend_skip (by kernel_rfl) (Pend_skip (by kernel_rfl) (Pend_skip (by kernel_rfl) Pend_nil)))))))))))))
  refine Plan_chain 14 rfl (by kernel_rfl) ?_
  refine GL_cutToF flY rfl Tryd.underlying50 sz5 rfl rfl (by first | omega | (dsimp only; omega)) (by first | omega | (dsimp only; omega)) (fun _ => .head) ?_
  refine GL_hand rfl ⟨?_, ?_⟩
  · exact (Pend_skip (by kernel_rfl) (Pend_skip (by kernel_rfl) (Pend_skip (by kernel_rfl) (Pend_skip (by kernel_rfl) (Pend_skip (by kernel_rfl) (Pend_skip (by kernel_rfl) (Pend_skip (by kernel_rfl) (Pend_skip (by kernel_rfl) (Pend_skip (by kernel_rfl) (Pend_skip (by kernel_rfl) (Pend_skip (by kernel_rfl) (Pend_skip (by kernel_rfl) (Pend_skip (by kernel_rfl) Pend_nil)))))))))))))
  refine Plan_float 15 rfl rfl (by kernel_rfl) (OK_s (EX_s (PS_assign rfl))) ?_
  refine Plan_end (by kernel_rfl) ?_
  refine GQ_sub (.cons (k := 0) rfl (.cons (k := 4) rfl (.nil _))) ?_
  refine GQ_then ?_
  refine G_seq ?_
  refine G_region ?_
  refine GL_step rfl (PS_move rfl) ?_
  refine GL_step rfl (PS_move rfl) ?_
  refine GL_step rfl (PS_nilCheck rfl) ?_
  refine GL_step rfl (PS_fieldAddr fa52_1 rfl) ?_
  refine GL_step rfl (PS_load rfl tys50 (.tail _ (.head _)) BldV.l1 rfl rfl) ?_
  refine GL_step rfl (PS_copy0 rfl Tryd.underlying50 sz5 rfl rfl) ?_
  refine GL_nil ?_
  refine GQ_sub (.cons (k := 0) rfl (.cons (k := 4) rfl (.nil _))) ?_
  refine GQ_then ?_
  refine G_region ?_
  refine GL_step rfl (PS_move rfl) ?_
  refine GL_step rfl (PS_move rfl) ?_
  refine GL_step rfl (PS_nilCheck rfl) ?_
  refine GL_step rfl (PS_fieldAddr fa52_1 rfl) ?_
  refine GL_unit (PU_store BldV.l1 rfl rfl rfl sz50 rfl (.tail .head)) ?_
  refine GL_nil ?_
  refine GQ_end rfl .nil ?_
  intro w1 hS
  have hS := (hS.perm (Pulls.perm (.cons (.tail .head) (.cons .head .nil)))).headL
  exact ⟨_, ⟨_, rfl, ⟨by intro a h; cases h; rfl, fun _ => by dsimp only at b1k ⊢; omega⟩, rfl, rfl⟩, hS⟩
theorem strings_Builder_Grow_spec (b : Nat) (m : Int) (h0 : 0 ≤ m) (h1 : m ≤ 281474976710656) : Ctr Tryd.prog 48 #[.pointer (some ⟨b, 0, none⟩), .int .i64 m] [Res.box b 52 (BldV.enc ⟨none, ⟨none, 0, 0⟩⟩)] (fun v B => ∃ h', v = .tuple #[] ∧ h'.Z ∧ h'.len = 0 ∧ B = [Res.box b 52 (BldV.enc ⟨some ⟨b, 0, none⟩, h'⟩), Res.own h' 5 1 (([] : Str).flatMap encY)]) := by
  intro w hS0
  refine Ret_body _ _ Tryd.func48 rfl rfl rfl (hS0) ?_
  refine G_seq ?_
  refine G_region ?_
  refine GL_step rfl (PS_move rfl) ?_
  refine GL_callL rfl cf43 (.cons rfl .nil) (.cons .head .nil) (strings_Builder_copyCheck_spec _ _ _ (.inl rfl)) (fun v1 B hv => ?_)
  obtain ⟨rfl, rfl⟩ := hv
  refine GL_nil ?_
  refine GQ_sub (.cons (k := 0) rfl (.cons (k := 1) rfl (.nil _))) ?_
  refine GQ_then ?_
  refine G_seq ?_
  refine G_seq ?_
  refine G_region ?_
  refine GL_step rfl (PS_move rfl) ?_
  refine GL_step rfl (PS_lss rfl rfl) ?_
  refine GL_nil ?_
  refine GQ_sub (.cons (k := 0) rfl (.cons (k := 1) rfl (.cons (k := 7) rfl (.nil _)))) ?_
  refine GQ_then ?_
  refine G_false rfl (by simp; omega) ?_
  refine G_skip ?_
  refine GQ_sub (.cons (k := 0) rfl (.cons (k := 1) rfl (.nil _))) ?_
  refine GQ_then ?_
  refine G_seq ?_
  refine G_planN (N := 13) [0, 1, 3, 7, 15, 0, 32, 96, 224, 480, 1023, 0, 4095] mix (by kernel_rfl) rfl ?_
  refine Plan_float 0 rfl rfl (by kernel_rfl) (OK_s (EX_s (PS_move rfl))) ?_
  refine Plan_float 1 rfl rfl (by kernel_rfl) (OK_s (EX_s (PS_nilCheck rfl))) ?_
  refine Plan_float 2 rfl rfl (by kernel_rfl) (OK_s (EX_s (PS_fieldAddr fa52_1 rfl))) ?_
  refine Plan_float 3 rfl rfl (by kernel_rfl) (OK_s (EX_s (PS_load rfl tys50 (.head _) BldV.l1 rfl rfl))) ?_
  refine Plan_float 4 rfl rfl (by kernel_rfl) (OK_s (EX_s (PS_cap_slice rfl Tryd.underlying50 rfl))) ?_
  refine Plan_float 5 rfl rfl (by kernel_rfl) (OK_s (EX_s (PS_move rfl))) ?_
  refine Plan_float 6 rfl rfl (by kernel_rfl) (OK_s (EX_s (PS_nilCheck rfl))) ?_
  refine Plan_float 7 rfl rfl (by kernel_rfl) (OK_s (EX_s (PS_fieldAddr fa52_1 rfl))) ?_
  refine Plan_float 8 rfl rfl (by kernel_rfl) (OK_s (EX_s (PS_load rfl tys50 (.head _) BldV.l1 rfl rfl))) ?_
  refine Plan_float 9 rfl rfl (by kernel_rfl) (OK_s (EX_s (PS_len_slice rfl Tryd.underlying50 rfl))) ?_
  refine Plan_float 10 rfl rfl (by kernel_rfl) (OK_s (EX_s (PS_sub rfl rfl (IntWalk.i64_in _ (by first | omega | (dsimp only; omega)))))) ?_
  refine Plan_float 11 rfl rfl (by kernel_rfl) (OK_s (EX_s (PS_move rfl))) ?_
  refine Plan_float 12 rfl rfl (by kernel_rfl) (OK_s (EX_s (PS_lss rfl rfl))) ?_
  refine Plan_end (by kernel_rfl) ?_
  refine GQ_sub (.cons (k := 0) rfl (.cons (k := 1) rfl (.cons (k := 21) rfl (.nil _)))) ?_
  refine GQ_then ?_
  refine G_cond rfl (fun c1 => ?_) (fun c1 => ?_)
  · skip
    have c1p := c1
    try simp only [decide_eq_true_eq, decide_eq_false_iff_not, Bool.not_eq_true', Bool.not_eq_false', Bool.or_eq_true, Bool.and_eq_true, Bool.or_eq_false_iff, Bool.and_eq_false_iff, Int.not_lt, Int.not_le] at c1p
    refine G_region ?_
    refine GL_step rfl (PS_move rfl) ?_
    refine GL_step rfl (PS_move rfl) ?_
    refine GL_callL rfl cf54 (.cons rfl (.cons rfl .nil)) (.cons .head .nil) (strings_Builder_grow_spec _ _ (by dsimp only at *; omega) h1) (fun v2 B hv => ?_)
    obtain ⟨y3, rfl, y4, y5, rfl⟩ := hv
    refine GL_nil ?_
    refine GQ_end rfl .nil ?_
    intro w1 hS
    have hS := (hS.perm (Pulls.perm (.cons .head (.cons .head .nil)))).headL
    exact ⟨_, ⟨_, rfl, by assumption, by assumption, rfl⟩, hS⟩
  · skip
    have c1p := c1
    try simp only [decide_eq_true_eq, decide_eq_false_iff_not, Bool.not_eq_true', Bool.not_eq_false', Bool.or_eq_true, Bool.and_eq_true, Bool.or_eq_false_iff, Bool.and_eq_false_iff, Int.not_lt, Int.not_le] at c1p
    refine G_skip ?_
    refine GQ_end rfl .nil ?_
    intro w1 hS
    have hS := hS.own_nil 5 1
    have hS := (hS.perm (Pulls.perm (.cons (.tail .head) (.cons .head .nil)))).headL
    exact ⟨_, ⟨_, rfl, Hd.Z_nil, rfl, rfl⟩, hS⟩
theorem strings_Replace_spec (s : Str) (hs : s.length ≤ 70368744000000) (w : World) : Ret Tryd.prog 42 #[vstr s, vstr [255], vstr [255, 255], .int .i64 (-1)] w fun v w' => v = vstr (Page.escape s) ∧ Keep w w' := by
  have hcl := List.count_le_length (a := (255 : UInt8)) (l := s)
  refine Ret_body [] [] Tryd.func42 rfl rfl rfl (St.start w []) ?_
  refine G_seq ?_
  refine G_region ?_
  refine GL_step rfl (PS_assign rfl) ?_
  refine GL_nil ?_
  refine GQ_sub (.cons (k := 0) rfl (.cons (k := 1) rfl (.cons (k := 2) rfl (.cons (k := 3) rfl (.nil _))))) ?_
  refine GQ_then ?_
  refine G_seq ?_
  refine G_seq ?_
  refine G_region ?_
  refine GL_step rfl (PS_move rfl) ?_
  refine GL_step rfl (PS_move rfl) ?_
  refine GL_step rfl (PS_eql_str rfl rfl) ?_
  refine GL_step rfl (PS_move rfl) ?_
  refine GL_gf (t := 19) rfl rfl rfl (fun q => PS_move rfl) ?_
  refine GL_gf (t := 19) rfl rfl rfl (fun q => PS_eql (cvE rfl (by rw [q]; rfl)) rfl) ?_
  refine GL_step rfl (PS_or rfl rfl (fun h => by rw [h]; rfl)) ?_
  refine GL_nil ?_
  refine GQ_sub (.cons (k := 0) rfl (.cons (k := 1) rfl (.cons (k := 2) rfl (.cons (k := 3) rfl (.cons (k := 22) rfl (.nil _)))))) ?_
  refine GQ_then ?_
  refine G_false rfl (by simp) ?_
  refine G_skip ?_
  refine GQ_sub (.cons (k := 0) rfl (.cons (k := 1) rfl (.cons (k := 2) rfl (.cons (k := 3) rfl (.nil _))))) ?_
  refine GQ_then ?_
  refine G_seq ?_
  refine G_seq ?_
  refine G_region ?_
  refine GL_step rfl (PS_move rfl) ?_
  refine GL_step rfl (PS_move rfl) ?_
  refine GL_pure rfl cf47 (.cons rfl (.cons rfl .nil)) (fun w hS => strings_Count_spec _ 255 w) ?_
  refine GL_step rfl (PS_assign rfl) ?_
  refine GL_nil ?_
  refine GQ_sub (.cons (k := 0) rfl (.cons (k := 1) rfl (.cons (k := 2) rfl (.cons (k := 3) rfl (.cons (k := 9) rfl (.nil _)))))) ?_
  refine GQ_then ?_
  refine G_seq ?_
  refine G_region ?_
  refine GL_step rfl (PS_move rfl) ?_
  refine GL_step rfl (PS_eql rfl rfl) ?_
  refine GL_nil ?_
  refine GQ_sub (.cons (k := 0) rfl (.cons (k := 1) rfl (.cons (k := 2) rfl (.cons (k := 3) rfl (.cons (k := 9) rfl (.cons (k := 28) rfl (.nil _))))))) ?_
  refine GQ_then ?_
  refine G_cond rfl (fun c1 => ?_) (fun c1 => ?_)
  · skip
    have c1p := c1
    try simp only [decide_eq_true_eq, decide_eq_false_iff_not, Bool.not_eq_true', Bool.not_eq_false', Bool.or_eq_true, Bool.and_eq_true, Bool.or_eq_false_iff, Bool.and_eq_false_iff, Int.not_lt, Int.not_le] at c1p
    refine G_seq ?_
    refine G_region ?_
    refine GL_step rfl (PS_move rfl) ?_
    refine GL_step rfl (PS_assign rfl) ?_
    refine GL_nil ?_
    refine GQ_sub (.cons (k := 8) rfl (.nil _)) ?_
    refine GQ_then ?_
    refine G_ret ?_
    refine GQ_then_ret ?_
    refine GQ_ret rfl (.tmp rfl .nil) ?_
    intro w1 hS; refine ⟨?_, hS.toKeep⟩; have e : s.count 255 = 0 := by simp at c1; omega
    rw [Page.escape_none _ e]; rfl
  · skip
    have c1p := c1
    try simp only [decide_eq_true_eq, decide_eq_false_iff_not, Bool.not_eq_true', Bool.not_eq_false', Bool.or_eq_true, Bool.and_eq_true, Bool.or_eq_false_iff, Bool.and_eq_false_iff, Int.not_lt, Int.not_le] at c1p
    refine G_seq ?_
    refine G_region ?_
    refine GL_step rfl (PS_move rfl) ?_
    refine GL_step rfl (PS_lss rfl rfl) ?_
    refine GL_step rfl (PS_move rfl) ?_
    refine GL_gf (t := 32) rfl rfl rfl (fun q => PS_move rfl) ?_
    refine GL_gf (t := 32) rfl rfl rfl (fun q => PS_move rfl) ?_
    refine GL_gf (t := 32) rfl rfl rfl (fun q => PS_lss (cvE rfl (by rw [q]; rfl)) (cvE rfl (by rw [q]; rfl))) ?_
    refine GL_step rfl (PS_or rfl rfl (fun h => by rw [h]; rfl)) ?_
    refine GL_nil ?_
    refine GQ_sub (.cons (k := 0) rfl (.cons (k := 1) rfl (.cons (k := 2) rfl (.cons (k := 3) rfl (.cons (k := 9) rfl (.cons (k := 36) rfl (.nil _))))))) ?_
    refine GQ_then ?_
    refine G_true rfl rfl ?_
    refine G_region ?_
    refine GL_step rfl (PS_move rfl) ?_
    refine GL_step rfl (PS_assign rfl) ?_
    refine GL_nil ?_
    refine GQ_sub (.cons (k := 0) rfl (.cons (k := 1) rfl (.cons (k := 2) rfl (.cons (k := 3) rfl (.nil _))))) ?_
    refine GQ_then ?_
    refine G_seq ?_
    refine G_region ?_
    refine GL_alloc rfl zv52 rfl (fun b1 => ?_)
    refine GL_nilF encY 5 1 ?_
    refine GL_nil ?_
    refine GQ_then ?_
    refine G_seq ?_
    refine G_region ?_
    refine GL_step rfl (PS_move rfl) ?_
    refine GL_step rfl (PS_len_str rfl Tryd.underlying9 rfl) ?_
    refine GL_step rfl (PS_move rfl) ?_
    refine GL_step rfl (PS_move rfl) ?_
    refine GL_step rfl (PS_len_str rfl Tryd.underlying9 rfl) ?_
    refine GL_step rfl (PS_move rfl) ?_
    refine GL_step rfl (PS_len_str rfl Tryd.underlying9 rfl) ?_
    refine GL_step rfl (PS_sub rfl rfl (IntWalk.i64_in _ (by (try simp only [List.length_cons, List.length_nil]); omega))) ?_
    refine GL_step rfl (PS_mul rfl rfl (IntWalk.i64_in _ (by (try simp only [List.length_cons, List.length_nil]); omega))) ?_
    refine GL_step rfl (PS_add rfl rfl (IntWalk.i64_in _ (by (try simp only [List.length_cons, List.length_nil]); omega))) ?_
    refine GL_callL rfl cf48 (.cons rfl (.cons rfl .nil)) (.cons (.tail .head) .nil) (strings_Builder_Grow_spec _ _ (by simp only [List.length_cons, List.length_nil]; omega) (by simp only [List.length_cons, List.length_nil]; omega)) (fun v1 B hv => ?_)
    obtain ⟨y2, rfl, y3, y4, rfl⟩ := hv
    refine GL_nil ?_
    refine GQ_sub (.cons (k := 0) rfl (.cons (k := 1) rfl (.cons (k := 2) rfl (.cons (k := 3) rfl (.cons (k := 10) rfl (.nil _)))))) ?_
    refine GQ_then ?_
    refine G_seq ?_
    refine G_region ?_
    refine GL_step rfl (PS_assign rfl) ?_
    refine GL_nil ?_
    refine GQ_then ?_
    refine G_seq ?_
    refine G_seq ?_
    refine G_region ?_
    refine GL_step rfl (PS_move rfl) ?_
    refine GL_step rfl (PS_len_str rfl Tryd.underlying9 rfl) ?_
    refine GL_step rfl (PS_gtr rfl rfl) ?_
    refine GL_nil ?_
    refine GQ_sub (.cons (k := 0) rfl (.cons (k := 1) rfl (.cons (k := 2) rfl (.cons (k := 3) rfl (.cons (k := 10) rfl (.cons (k := 11) rfl (.cons (k := 51) rfl (.nil _)))))))) ?_
    refine GQ_then ?_
    refine G_true rfl (by simp) ?_
    refine G_seq ?_
    refine G_region ?_
    refine GL_step rfl (PS_move rfl) ?_
    refine GL_step rfl (PS_move rfl) ?_
    refine GL_nil ?_
    refine GQ_sub (.cons (k := 0) rfl (.cons (k := 1) rfl (.cons (k := 2) rfl (.cons (k := 10) rfl (.cons (k := 11) rfl (.cons (k := 52) rfl (.cons (k := 53) rfl (.nil _)))))))) ?_
    refine GQ_then ?_
    refine G_block ?_
    refine G_subF (.cons (k := 11) rfl (.cons (k := 53) rfl (.cons (k := 0) rfl (.cons (k := 1) rfl (.cons (k := 2) rfl (.cons (k := 10) rfl (.cons (k := 52) rfl (.nil _)))))))) ?_
    refine G_pull (.tail .head) ?_
    refine G_pull (.tail .head) ?_
    refine G_loop5_ (fun (k : Int) (start : Int) (x : Str) (p : Option Addr) (h : Hd) => Page.RepI s (s.count 255) k start x ∧ (p = none ∨ p = some ⟨b1, 0, none⟩) ∧ h.Z ∧ h.len = x.length) (fun (k : Int) (start : Int) (x : Str) (p : Option Addr) (h : Hd) => ((s.count 255 : Int) - k).toNat) (fun (k : Int) (start : Int) (x : Str) (p : Option Addr) (h : Hd) => [(11, .int .i64 start), (53, .int .i64 k)]) (fun (k : Int) (start : Int) (x : Str) (p : Option Addr) (h : Hd) => [Res.box b1 52 (BldV.enc ⟨p, h⟩), Res.own h 5 1 (x.flatMap encY)]) (0) (0) ([]) (_) (_) ?_ rfl rfl (fun k start x p h hI1 => ?_)
    · exact ⟨Page.RepI.start rfl, .inr rfl, by assumption, by assumption⟩
    obtain ⟨hI11, hp, hz, hl⟩ := hI1; have hk0 := hI11.k0; have hs0 := hI11.s0; have hs1 := hI11.s1; have hxl := hI11.xl
    refine G_seq ?_
    refine G_region ?_
    refine GL_step rfl (PS_lss rfl rfl) ?_
    refine GL_nil ?_
    refine GQ_then ?_
    refine G_seq ?_
    refine G_cond rfl (fun c2 => ?_) (fun c2 => ?_)
    · skip
      have c2p := c2
      try simp only [decide_eq_true_eq, decide_eq_false_iff_not, Bool.not_eq_true', Bool.not_eq_false', Bool.or_eq_true, Bool.and_eq_true, Bool.or_eq_false_iff, Bool.and_eq_false_iff, Int.not_lt, Int.not_le] at c2p
      obtain ⟨i, hi, hlt, hR⟩ := hI11.idx (by omega)
      rw [← hi] at hR hlt
      refine G_skip ?_
      refine GQ_sub (.cons (k := 0) rfl (.cons (k := 1) rfl (.cons (k := 2) rfl (.cons (k := 10) rfl (.cons (k := 11) rfl (.cons (k := 52) rfl (.cons (k := 53) rfl (.nil _)))))))) ?_
      refine GQ_then ?_
      refine G_seq ?_
      refine G_block ?_
      refine G_seq ?_
      refine G_region ?_
      refine GL_step rfl (PS_move rfl) ?_
      refine GL_step rfl (PS_move rfl) ?_
      refine GL_step rfl (PS_move rfl) ?_
      refine GL_step rfl (PS_subSl Tryd.underlying9 rfl rfl (by (try simp only [List.length_cons, List.length_nil]); omega) (by (try simp only [List.length_cons, List.length_nil]); omega)) ?_
      refine GL_step rfl (PS_move rfl) ?_
      refine GL_pure rfl cf49 (.cons rfl (.cons rfl .nil)) (fun w hS => strings_Index_spec _ 255 w) ?_
      refine GL_step rfl (PS_add rfl rfl (IntWalk.i64_in _ (by (try simp only [List.length_cons, List.length_nil]); omega))) ?_
      refine GL_step rfl (PS_assign rfl) ?_
      refine GL_nil ?_
      refine GQ_sub (.cons (k := 0) rfl (.cons (k := 1) rfl (.cons (k := 2) rfl (.cons (k := 10) rfl (.cons (k := 11) rfl (.cons (k := 12) rfl (.cons (k := 52) rfl (.cons (k := 53) rfl (.nil _))))))))) ?_
      refine GQ_then ?_
      refine G_seq ?_
      refine G_region ?_
      refine GL_step rfl (PS_move rfl) ?_
      refine GL_step rfl (PS_move rfl) ?_
      refine GL_step rfl (PS_move rfl) ?_
      refine GL_step rfl (PS_subS Tryd.underlying9 rfl rfl rfl (by (try simp only [List.length_cons, List.length_nil]); omega) (by (try simp only [List.length_cons, List.length_nil]); omega) (by (try simp only [List.length_cons, List.length_nil]); omega)) ?_
      refine GL_callL rfl cf34 (.cons rfl (.cons rfl .nil)) (.cons .head (.cons .head .nil)) (strings_Builder_WriteString_spec _ _ _ _ (by assumption) (by assumption) (by assumption) _ (by (try simp only [List.length_drop, List.length_take, List.length_append, List.length_cons, List.length_nil]); omega)) (fun v6 B hv => ?_)
      obtain ⟨y7, y8, rfl, y9, y10, y11, rfl⟩ := hv
      refine GL_nil ?_
      refine GQ_sub (.cons (k := 0) rfl (.cons (k := 1) rfl (.cons (k := 2) rfl (.cons (k := 10) rfl (.cons (k := 12) rfl (.cons (k := 52) rfl (.cons (k := 53) rfl (.nil _)))))))) ?_
      refine GQ_then ?_
      refine G_seq ?_
      refine G_region ?_
      refine GL_step rfl (PS_move rfl) ?_
      refine GL_callL rfl cf34 (.cons rfl (.cons rfl .nil)) (.cons .head (.cons .head .nil)) (strings_Builder_WriteString_spec _ _ _ _ (by assumption) (by assumption) (by assumption) _ (by (try simp only [List.length_drop, List.length_take, List.length_append, List.length_cons, List.length_nil]); omega)) (fun v12 B hv => ?_)
      obtain ⟨y13, y14, rfl, y15, y16, y17, rfl⟩ := hv
      refine GL_nil ?_
      refine GQ_sub (.cons (k := 0) rfl (.cons (k := 1) rfl (.cons (k := 2) rfl (.cons (k := 10) rfl (.cons (k := 12) rfl (.cons (k := 52) rfl (.cons (k := 53) rfl (.nil _)))))))) ?_
      refine GQ_then ?_
      refine G_region ?_
      refine GL_step rfl (PS_move rfl) ?_
      refine GL_step rfl (PS_move rfl) ?_
      refine GL_step rfl (PS_len_str rfl Tryd.underlying9 rfl) ?_
      refine GL_step rfl (PS_add rfl rfl (IntWalk.i64_in _ (by (try simp only [List.length_cons, List.length_nil]); omega))) ?_
      refine GL_step rfl (PS_assign rfl) ?_
      refine GL_nil ?_
      refine GQ_sub (.cons (k := 0) rfl (.cons (k := 1) rfl (.cons (k := 2) rfl (.cons (k := 10) rfl (.cons (k := 11) rfl (.cons (k := 52) rfl (.cons (k := 53) rfl (.nil _)))))))) ?_
      refine GQ_block ?_
      refine GQ_then ?_
      refine G_region ?_
      refine GL_step rfl (PS_add rfl rfl (IntWalk.i64_in _ (by (try simp only [List.length_cons, List.length_nil]); omega))) ?_
      refine GL_step rfl (PS_move rfl) ?_
      refine GL_nil ?_
      refine GQ_sub (.cons (k := 0) rfl (.cons (k := 1) rfl (.cons (k := 2) rfl (.cons (k := 10) rfl (.cons (k := 11) rfl (.cons (k := 52) rfl (.cons (k := 53) rfl (.nil _)))))))) ?_
      refine GQ_next5_ (k + 1) _ _ _ _ ?_ ?_ (.cons (k := 11) rfl (.cons (k := 53) rfl (.cons (k := 0) rfl (.cons (k := 1) rfl (.cons (k := 2) rfl (.cons (k := 10) rfl (.cons (k := 52) rfl (.nil _)))))))) (.refl _)
      · exact ⟨hR, by assumption, by assumption, by assumption⟩
      · omega
    · skip
      have c2p := c2
      try simp only [decide_eq_true_eq, decide_eq_false_iff_not, Bool.not_eq_true', Bool.not_eq_false', Bool.or_eq_true, Bool.and_eq_true, Bool.or_eq_false_iff, Bool.and_eq_false_iff, Int.not_lt, Int.not_le] at c2p
      refine G_exit ?_
      refine GQ_then_exit ?_
      refine GQ_then_exit ?_
      refine GQ_block_exit ?_
      refine GQ_sub (.cons (k := 0) rfl (.cons (k := 10) rfl (.cons (k := 11) rfl (.nil _)))) ?_
      refine GQ_then ?_
      refine G_seq ?_
      refine G_region ?_
      refine GL_step rfl (PS_move rfl) ?_
      refine GL_step rfl (PS_move rfl) ?_
      refine GL_step rfl (PS_subSl Tryd.underlying9 rfl rfl (by (try simp only [List.length_cons, List.length_nil]); omega) (by (try simp only [List.length_cons, List.length_nil]); omega)) ?_
      refine GL_callL rfl cf34 (.cons rfl (.cons rfl .nil)) (.cons .head (.cons .head .nil)) (strings_Builder_WriteString_spec _ _ _ _ (by assumption) (by assumption) (by assumption) _ (by (try simp only [List.length_drop, List.length_take, List.length_append, List.length_cons, List.length_nil]); omega)) (fun v18 B hv => ?_)
      obtain ⟨y19, y20, rfl, y21, y22, y23, rfl⟩ := hv
      refine GL_nil ?_
      refine GQ_sub (.cons (k := 10) rfl (.nil _)) ?_
      refine GQ_then ?_
      refine G_seq ?_
      refine G_region ?_
      refine GL_callL rfl cf38 (.cons rfl .nil) (.cons .head (.cons .head .nil)) (strings_Builder_String_spec _ _ _ _ (by assumption) (by assumption) (by (try simp only [List.length_append, List.length_drop]); omega)) (fun v24 B hv => ?_)
      obtain ⟨rfl, rfl⟩ := hv
      refine GL_step rfl (PS_assign rfl) ?_
      refine GL_nil ?_
      refine GQ_sub (.cons (k := 8) rfl (.nil _)) ?_
      refine GQ_then ?_
      refine G_ret ?_
      refine GQ_ret rfl (.tmp rfl .nil) ?_
      intro w1 hS; refine ⟨?_, hS.toKeep⟩; rw [← hI11.done (by omega)]; rfl
theorem strings_ReplaceAll_spec (s : Str) (hs : s.length ≤ 70368744000000) (w : World) : Ret Tryd.prog 32 #[vstr s, vstr [255], vstr [255, 255]] w fun v w' => v = vstr (Page.escape s) ∧ Keep w w' := by
  refine Ret_body [] [] Tryd.func32 rfl rfl rfl (St.start w []) ?_
  refine G_seq ?_
  refine G_region ?_
  refine GL_step rfl (PS_assign rfl) ?_
  refine GL_nil ?_
  refine GQ_sub (.cons (k := 0) rfl (.cons (k := 1) rfl (.cons (k := 2) rfl (.nil _)))) ?_
  refine GQ_then ?_
  refine G_seq ?_
  refine G_region ?_
  refine GL_step rfl (PS_move rfl) ?_
  refine GL_step rfl (PS_move rfl) ?_
  refine GL_step rfl (PS_move rfl) ?_
  refine GL_pure rfl cf42 (.cons rfl (.cons rfl (.cons rfl (.cons rfl .nil)))) (fun w hS => strings_Replace_spec _ (by first | assumption | omega) w) ?_
  refine GL_step rfl (PS_assign rfl) ?_
  refine GL_nil ?_
  refine GQ_sub (.cons (k := 6) rfl (.nil _)) ?_
  refine GQ_then ?_
  refine G_ret ?_
  refine GQ_ret rfl (.tmp rfl .nil) ?_
  intro w1 hS; refine ⟨?_, hS.toKeep⟩; rfl
theorem telnet_Escape_spec (s : Str) (hs : s.length ≤ 70368744000000) (w : World) : Ret Tryd.prog 21 #[vstr s] w fun v w' => v = vstr (Page.escape s) ∧ Keep w w' := by
  refine Ret_body [] [] Tryd.func21 rfl rfl rfl (St.start w []) ?_
  refine G_seq ?_
  refine G_region ?_
  refine GL_step rfl (PS_assign rfl) ?_
  refine GL_nil ?_
  refine GQ_sub (.cons (k := 0) rfl (.nil _)) ?_
  refine GQ_then ?_
  refine G_seq ?_
  refine G_region ?_
  refine GL_step rfl (PS_move rfl) ?_
  refine GL_pure rfl cf32 (.cons rfl (.cons rfl (.cons rfl .nil))) (fun w hS => strings_ReplaceAll_spec _ (by first | assumption | omega) w) ?_
  refine GL_step rfl (PS_assign rfl) ?_
  refine GL_nil ?_
  refine GQ_sub (.cons (k := 2) rfl (.nil _)) ?_
  refine GQ_then ?_
  refine G_ret ?_
  refine GQ_ret rfl (.tmp rfl .nil) ?_
  intro w1 hS; refine ⟨?_, hS.toKeep⟩; rfl
theorem ref_EscapeText_spec (s : Str) (hs : s.length ≤ 70368744000000) (w : World) : Ret Tryd.prog 27 #[vstr s] w fun v w' => v = vstr (Page.escape s) ∧ Keep w w' := by
  refine Ret_body [] [] Tryd.func27 rfl rfl rfl (St.start w []) ?_
  refine G_seq ?_
  refine G_region ?_
  refine GL_step rfl (PS_assign rfl) ?_
  refine GL_nil ?_
  refine GQ_sub (.cons (k := 0) rfl (.nil _)) ?_
  refine GQ_then ?_
  refine G_seq ?_
  refine G_region ?_
  refine GL_step rfl (PS_assign rfl) ?_
  refine GL_nil ?_
  refine GQ_then ?_
  refine G_seq ?_
  refine G_seq ?_
  refine G_region ?_
  refine GL_step rfl (PS_move rfl) ?_
  refine GL_bytes rfl Tryd.underlying9 Tryd.underlying50 Tryd.underlying5 rfl (fun h1 h1l => ?_)
  refine GL_step rfl (PS_len_slice rfl Tryd.underlying50 rfl) ?_
  refine GL_step rfl (PS_move rfl) ?_
  refine GL_nil ?_
  refine GQ_sub (.cons (k := 3) rfl (.cons (k := 7) rfl (.cons (k := 8) rfl (.cons (k := 9) rfl (.nil _))))) ?_
  refine GQ_then ?_
  refine G_block ?_
  refine G_subF (.cons (k := 3) rfl (.cons (k := 9) rfl (.cons (k := 7) rfl (.cons (k := 8) rfl (.nil _))))) ?_
  refine G_nilF encY 5 1 ?_
  refine G_loop3_ (fun (k : Int) (x : Str) (g : Hd) => 0 ≤ k ∧ k ≤ s.length ∧ g.len = x.length ∧ x ++ Page.escape (s.drop k.toNat) = Page.escape s ∧ x.length ≤ 2 * k) (fun (k : Int) (x : Str) (g : Hd) => ((s.length : Int) - k).toNat) (fun (k : Int) (x : Str) (g : Hd) => [(3, g.val), (9, .int .i64 k)]) (fun (k : Int) (x : Str) (g : Hd) => [Res.own g 5 1 (x.flatMap encY)]) (0) ([]) (_) ?_ rfl rfl (fun k x g hI1 => ?_)
  · exact ⟨by omega, by omega, rfl, rfl, by simp⟩
  obtain ⟨hI11, hI12, hI13, hI14, hI15⟩ := hI1
  refine G_seq ?_
  refine G_region ?_
  refine GL_step rfl (PS_lss rfl rfl) ?_
  refine GL_nil ?_
  refine GQ_then ?_
  refine G_seq ?_
  refine G_cond rfl (fun c1 => ?_) (fun c1 => ?_)
  · skip
    have c1p := c1
    try simp only [decide_eq_true_eq, decide_eq_false_iff_not, Bool.not_eq_true', Bool.not_eq_false', Bool.or_eq_true, Bool.and_eq_true, Bool.or_eq_false_iff, Bool.and_eq_false_iff, Int.not_lt, Int.not_le] at c1p
    refine G_skip ?_
    refine GQ_sub (.cons (k := 3) rfl (.cons (k := 7) rfl (.cons (k := 8) rfl (.cons (k := 9) rfl (.nil _))))) ?_
    refine GQ_then ?_
    refine G_seq ?_
    refine G_block ?_
    refine G_seq ?_
    refine G_region ?_
    refine GL_step rfl (PS_idxS is50 (by decide) (Kn.own (.tail _ (.head _))) rfl rfl (by omega) (by omega)) ?_
    refine GL_step rfl (PS_ldY rfl tys5 (Kn.own (.tail _ (.head _))) (by omega)) ?_
    refine GL_step rfl (PS_assign rfl) ?_
    refine GL_nil ?_
    refine GQ_sub (.cons (k := 3) rfl (.cons (k := 5) rfl (.cons (k := 7) rfl (.cons (k := 8) rfl (.cons (k := 9) rfl (.nil _)))))) ?_
    refine GQ_then ?_
    refine G_seq ?_
    refine G_region ?_
    refine GL_step rfl (PS_move rfl) ?_
    refine GL_step rfl (PS_move rfl) ?_
    refine GL_bs1F encY flY rfl Tryd.underlying50 sz5 zv5 rfl (by decide) (by decide) rfl rfl (fun b1 => ?_)
    refine GL_appendF flY rfl Tryd.underlying50 sz5 zv5 rfl by5 (by decide) (by decide) rfl rfl (fun w hS => Src.sliceT Tryd.underlying50 ((Kn.own (.head _)) w hS)) (by (try dsimp only at *); omega) (fun _ => (.tail .head)) (fun h2 h2l h2z => ?_)
    refine GL_step rfl (PS_assign rfl) ?_
    refine GL_nil ?_
    refine GQ_sub (.cons (k := 3) rfl (.cons (k := 5) rfl (.cons (k := 7) rfl (.cons (k := 8) rfl (.cons (k := 9) rfl (.nil _)))))) ?_
    refine GQ_then ?_
    refine G_seq ?_
    refine G_region ?_
    refine GL_step rfl (PS_move rfl) ?_
    refine GL_step rfl (PS_eql rfl rfl) ?_
    refine GL_nil ?_
    refine GQ_sub (.cons (k := 3) rfl (.cons (k := 5) rfl (.cons (k := 7) rfl (.cons (k := 8) rfl (.cons (k := 9) rfl (.cons (k := 18) rfl (.nil _))))))) ?_
    refine GQ_then ?_
    refine G_cond rfl (fun c2 => ?_) (fun c2 => ?_)
    · skip
      have c2p := c2
      try simp only [decide_eq_true_eq, decide_eq_false_iff_not, Bool.not_eq_true', Bool.not_eq_false', Bool.or_eq_true, Bool.and_eq_true, Bool.or_eq_false_iff, Bool.and_eq_false_iff, Int.not_lt, Int.not_le] at c2p
      refine G_region ?_
      refine GL_step rfl (PS_move rfl) ?_
      refine GL_step rfl (PS_move rfl) ?_
      refine GL_bs1F encY flY rfl Tryd.underlying50 sz5 zv5 rfl (by decide) (by decide) rfl rfl (fun b2 => ?_)
      refine GL_appendF flY rfl Tryd.underlying50 sz5 zv5 rfl by5 (by decide) (by decide) rfl rfl (fun w hS => Src.sliceT Tryd.underlying50 ((Kn.own (.head _)) w hS)) (by (try dsimp only at *); omega) (fun _ => (.tail (.tail .head))) (fun h3 h3l h3z => ?_)
      refine GL_step rfl (PS_assign rfl) ?_
      refine GL_nil ?_
      refine GQ_sub (.cons (k := 3) rfl (.cons (k := 7) rfl (.cons (k := 8) rfl (.cons (k := 9) rfl (.nil _))))) ?_
      refine GQ_block ?_
      refine GQ_then ?_
      refine G_region ?_
      refine GL_step rfl (PS_add rfl rfl (IntWalk.i64_in _ (by omega))) ?_
      refine GL_step rfl (PS_move rfl) ?_
      refine GL_nil ?_
      refine GQ_sub (.cons (k := 3) rfl (.cons (k := 7) rfl (.cons (k := 8) rfl (.cons (k := 9) rfl (.nil _))))) ?_
      refine GQ_next3_ (k + 1) _ _ ?_ ?_ (.cons (k := 3) rfl (.cons (k := 9) rfl (.cons (k := 7) rfl (.cons (k := 8) rfl (.nil _))))) (.cons _ (.cons _ (.refl _)))
      · exact ⟨by omega, by omega, by (try dsimp only at *); simp only [List.length_append, List.length_cons, List.length_nil]; omega, Page.esc_next_t hI11 (by omega) c2 hI14, by simp only [List.length_append, List.length_cons, List.length_nil]; omega⟩
      · omega
    · skip
      have c2p := c2
      try simp only [decide_eq_true_eq, decide_eq_false_iff_not, Bool.not_eq_true', Bool.not_eq_false', Bool.or_eq_true, Bool.and_eq_true, Bool.or_eq_false_iff, Bool.and_eq_false_iff, Int.not_lt, Int.not_le] at c2p
      refine G_skip ?_
      refine GQ_sub (.cons (k := 3) rfl (.cons (k := 7) rfl (.cons (k := 8) rfl (.cons (k := 9) rfl (.nil _))))) ?_
      refine GQ_block ?_
      refine GQ_then ?_
      refine G_region ?_
      refine GL_step rfl (PS_add rfl rfl (IntWalk.i64_in _ (by omega))) ?_
      refine GL_step rfl (PS_move rfl) ?_
      refine GL_nil ?_
      refine GQ_sub (.cons (k := 3) rfl (.cons (k := 7) rfl (.cons (k := 8) rfl (.cons (k := 9) rfl (.nil _))))) ?_
      refine GQ_next3_ (k + 1) _ _ ?_ ?_ (.cons (k := 3) rfl (.cons (k := 9) rfl (.cons (k := 7) rfl (.cons (k := 8) rfl (.nil _))))) (.cons _ (.refl _))
      · exact ⟨by omega, by omega, by (try dsimp only at *); simp only [List.length_append, List.length_cons, List.length_nil]; omega, Page.esc_next_f hI11 (by omega) c2 hI14, by simp only [List.length_append, List.length_cons, List.length_nil]; omega⟩
      · omega
  · skip
    have c1p := c1
    try simp only [decide_eq_true_eq, decide_eq_false_iff_not, Bool.not_eq_true', Bool.not_eq_false', Bool.or_eq_true, Bool.and_eq_true, Bool.or_eq_false_iff, Bool.and_eq_false_iff, Int.not_lt, Int.not_le] at c1p
    refine G_exit ?_
    refine GQ_then_exit ?_
    refine GQ_then_exit ?_
    refine GQ_block_exit ?_
    refine GQ_sub (.cons (k := 3) rfl (.nil _)) ?_
    refine GQ_then ?_
    refine G_seq ?_
    refine G_region ?_
    refine GL_step rfl (PS_move rfl) ?_
    refine GL_step rfl (PS_string Tryd.underlying50 Tryd.underlying9 Tryd.underlying5 rfl (Kn.own (.head _))) ?_
    refine GL_step rfl (PS_assign rfl) ?_
    refine GL_nil ?_
    refine GQ_sub (.cons (k := 2) rfl (.nil _)) ?_
    refine GQ_then ?_
    refine G_ret ?_
    refine GQ_ret rfl (.tmp rfl .nil) ?_
    intro w1 hS; refine ⟨?_, hS.toKeep⟩; rw [← Page.esc_done hI14 (by omega)]; rfl
theorem law_feeds_spec  (w : World) : Ret Tryd.prog 28 #[] w fun v w' => v = .bool true ∧ Keep w w' := by
  refine Ret_body [] [] Tryd.func28 rfl rfl rfl (St.start w []) ?_
  refine G_seq ?_
  refine G_region ?_
  refine GL_step rfl (PS_assign rfl) ?_
  refine GL_nil ?_
  refine GQ_sub (.nil _) ?_
  refine GQ_then ?_
  refine G_seq ?_
  refine G_region ?_
  refine GL_step rfl (PS_build pl41 zv41 rfl .nil) ?_
  refine GL_pure rfl cf23 (.cons rfl (.cons rfl .nil)) (fun w hS => telnet_Feed_spec default _ (by decide) w) ?_
  refine GL_step rfl (PS_move rfl) ?_
  refine GL_step rfl (PS_extract rfl rfl) ?_
  refine GL_step rfl (PS_extract rfl rfl) ?_
  refine GL_step rfl (PS_extract rfl rfl) ?_
  refine GL_step rfl (PS_extract rfl rfl) ?_
  refine GL_alloc rfl zv41 rfl (fun b1 => ?_)
  refine GL_unit (PU_store (Lens.id Telnet.fl.len Telnet.fl.one) rfl rfl rfl sz41 rfl .head) ?_
  refine GL_step rfl (PS_assign rfl) ?_
  refine GL_step rfl (PS_assign rfl) ?_
  refine GL_step rfl (PS_assign rfl) ?_
  refine GL_nil ?_
  refine GQ_sub (.cons (k := 1) rfl (.cons (k := 2) rfl (.cons (k := 3) rfl (.cons (k := 4) rfl (.nil _))))) ?_
  refine GQ_then ?_
  refine G_seq ?_
  refine G_region ?_
  refine GL_step rfl (PS_move rfl) ?_
  refine GL_step rfl (PS_eql rfl rfl) ?_
  refine GL_step rfl (PS_move rfl) ?_
  refine GL_gt (t := 14) rfl rfl rfl (fun q => PS_move rfl) ?_
  refine GL_gt (t := 14) rfl rfl rfl (fun q => PS_eql_str (cvE rfl q) rfl) ?_
  refine GL_step rfl (PS_and rfl rfl (fun h => h)) ?_
  refine GL_step rfl (PS_move rfl) ?_
  refine GL_gt (t := 18) rfl rfl rfl (fun q => PS_move rfl) ?_
  refine GL_gt (t := 18) rfl rfl rfl (fun q => PS_eql_str (cvE rfl q) rfl) ?_
  refine GL_step rfl (PS_and rfl rfl (fun h => h)) ?_
  refine GL_step rfl (PS_move rfl) ?_
  refine GL_gt (t := 22) rfl rfl rfl (fun q => PS_fieldAddr fa41_3 rfl) ?_
  refine GL_gt (t := 22) rfl rfl rfl (fun q => PS_indexAddr ia39 (cvE rfl q) rfl (by decide) (by decide)) ?_
  refine GL_gt (t := 22) rfl rfl rfl (fun q => PS_load (cvE rfl q) tys3 (.head _) (Telnet.l3.comp (Lens.arr (n := 3) flI (by decide) (by decide))) rfl rfl) ?_
  refine GL_gt (t := 22) rfl rfl rfl (fun q => PS_eql (cvE rfl q) rfl) ?_
  refine GL_step rfl (PS_and rfl rfl (fun h => h)) ?_
  refine GL_step rfl (PS_assign rfl) ?_
  refine GL_nil ?_
  refine GQ_sub (.cons (k := 0) rfl (.nil _)) ?_
  refine GQ_then ?_
  refine G_ret ?_
  refine GQ_ret rfl (.tmp rfl .nil) ?_
  intro w1 hS; refine ⟨?_, hS.toKeep⟩; kernel_rfl
theorem law_TelnetFeeds_spec (X : Telnet) (u : Str) (hu : u.length ≤ 1048576) (w : World) : Ret Tryd.prog 5 #[.agg X.enc.toArray, vstr u] w fun v w' => v = .bool true ∧ Keep w w' := by
  refine Ret_body [] [] Tryd.func5 rfl rfl rfl (St.start w []) ?_
  refine G_seq ?_
  refine G_region ?_
  refine GL_box rfl rfl rfl (fun b1 => ?_)
  refine GL_step rfl (PS_assign rfl) ?_
  refine GL_nil ?_
  refine GQ_sub (.cons (k := 1) rfl (.cons (k := 2) rfl (.nil _))) ?_
  refine GQ_then ?_
  refine G_seq ?_
  refine G_region ?_
  refine GL_step rfl (PS_loadA rfl tya41 (.head _) (Lens.id Telnet.fl.len Telnet.fl.one) rfl) ?_
  refine GL_step rfl (PS_move rfl) ?_
  refine GL_pure rfl cf23 (.cons rfl (.cons rfl .nil)) (fun w hS => telnet_Feed_spec _ _ (by omega) w) ?_
  refine GL_step rfl (PS_move rfl) ?_
  refine GL_step rfl (PS_extract rfl rfl) ?_
  refine GL_step rfl (PS_extract rfl rfl) ?_
  refine GL_step rfl (PS_extract rfl rfl) ?_
  refine GL_step rfl (PS_extract rfl rfl) ?_
  refine GL_alloc rfl zv41 rfl (fun b2 => ?_)
  refine GL_unit (PU_store (Lens.id Telnet.fl.len Telnet.fl.one) rfl rfl rfl sz41 rfl .head) ?_
  refine GL_step rfl (PS_assign rfl) ?_
  refine GL_step rfl (PS_assign rfl) ?_
  refine GL_step rfl (PS_assign rfl) ?_
  refine GL_nil ?_
  refine GQ_sub (.cons (k := 1) rfl (.cons (k := 2) rfl (.cons (k := 5) rfl (.cons (k := 6) rfl (.cons (k := 7) rfl (.cons (k := 8) rfl (.nil _))))))) ?_
  refine GQ_then ?_
  refine G_seq ?_
  refine G_region ?_
  refine GL_step rfl (PS_loadA rfl tya41 (.tail _ (.head _)) (Lens.id Telnet.fl.len Telnet.fl.one) rfl) ?_
  refine GL_step rfl (PS_move rfl) ?_
  refine GL_pure rfl cf24 (.cons rfl (.cons rfl .nil)) (fun w hS => ref_FeedBytes_spec _ _ (by omega) w) ?_
  refine GL_step rfl (PS_move rfl) ?_
  refine GL_step rfl (PS_extract rfl rfl) ?_
  refine GL_step rfl (PS_extract rfl rfl) ?_
  refine GL_step rfl (PS_extract rfl rfl) ?_
  refine GL_step rfl (PS_extract rfl rfl) ?_
  refine GL_alloc rfl zv41 rfl (fun b3 => ?_)
  refine GL_unit (PU_store (Lens.id Telnet.fl.len Telnet.fl.one) rfl rfl rfl sz41 rfl .head) ?_
  refine GL_step rfl (PS_assign rfl) ?_
  refine GL_step rfl (PS_assign rfl) ?_
  refine GL_step rfl (PS_assign rfl) ?_
  refine GL_nil ?_
  refine GQ_sub (.cons (k := 1) rfl (.cons (k := 2) rfl (.cons (k := 5) rfl (.cons (k := 6) rfl (.cons (k := 7) rfl (.cons (k := 8) rfl (.cons (k := 9) rfl (.cons (k := 10) rfl (.cons (k := 11) rfl (.cons (k := 12) rfl (.nil _))))))))))) ?_
  refine GQ_then ?_
  refine G_seq ?_
  refine G_planN (N := 36) [0, 0, 3, 7, 15, 15, 63, 127, 255, 511, 511, 2047, 4095, 8191, 16383, 16383, 65535, 131071, 262143, 524287, 1048575, 524287, 4194303, 8388607, 16777215, 33554431, 67108863, 134217727, 67108863, 536870911, 1073741823, 2147483647, 4294967295, 8589934591, 17179869183, 34359738367] mix (by kernel_rfl) rfl ?_
  refine Plan_float 0 rfl rfl (by kernel_rfl) (OK_s (EX_s (PS_loadA rfl tya41 (.tail _ (.head _)) (Lens.id Telnet.fl.len Telnet.fl.one) rfl))) ?_
  refine Plan_float 1 rfl rfl (by kernel_rfl) (OK_s (EX_s (PS_loadA rfl tya41 (.head _) (Lens.id Telnet.fl.len Telnet.fl.one) rfl))) ?_
  refine Plan_float 2 rfl rfl (by kernel_rfl) (OK_s (EX_s (PS_eql_agg eq41 (by decide) (by kernel_rfl) rfl rfl))) ?_
  refine Plan_float 3 rfl rfl (by kernel_rfl) (OK_s (EX_s (PS_move rfl))) ?_
  refine Plan_float 4 rfl rfl (by kernel_rfl) (OK_gt (t := 32) rfl rfl (fun q => EX_s (PS_move rfl))) ?_
  refine Plan_float 5 rfl rfl (by kernel_rfl) (OK_gt (t := 32) rfl rfl (fun q => EX_s (PS_move rfl))) ?_
  refine Plan_float 6 rfl rfl (by kernel_rfl) (OK_gt (t := 32) rfl rfl (fun q => EX_s (PS_eql_str (cvE rfl q) (cvE rfl q)))) ?_
  refine Plan_float 7 rfl rfl (by kernel_rfl) (OK_s (EX_s (PS_and rfl rfl (fun h => h)))) ?_
  refine Plan_float 8 rfl rfl (by kernel_rfl) (OK_s (EX_s (PS_move rfl))) ?_
  refine Plan_float 9 rfl rfl (by kernel_rfl) (OK_gt (t := 37) rfl rfl (fun q => EX_s (PS_move rfl))) ?_
  refine Plan_float 10 rfl rfl (by kernel_rfl) (OK_gt (t := 37) rfl rfl (fun q => EX_s (PS_move rfl))) ?_
  refine Plan_float 11 rfl rfl (by kernel_rfl) (OK_gt (t := 37) rfl rfl (fun q => EX_s (PS_eql_str (cvE rfl q) (cvE rfl q)))) ?_
  refine Plan_float 12 rfl rfl (by kernel_rfl) (OK_s (EX_s (PS_and rfl rfl (fun h => h)))) ?_
  refine Plan_float 13 rfl rfl (by kernel_rfl) (OK_s (EX_s (PS_move rfl))) ?_
  refine Plan_float 14 rfl rfl (by kernel_rfl) (OK_gt (t := 42) rfl rfl (fun q => EX_s (PS_move rfl))) ?_
  refine Plan_float 15 rfl rfl (by kernel_rfl) (OK_gt (t := 42) rfl rfl (fun q => EX_s (PS_move rfl))) ?_
  refine Plan_float 16 rfl rfl (by kernel_rfl) (OK_gt (t := 42) rfl rfl (fun q => EX_s (PS_eql (cvE rfl q) (cvE rfl q)))) ?_
  refine Plan_float 17 rfl rfl (by kernel_rfl) (OK_s (EX_s (PS_and rfl rfl (fun h => h)))) ?_
  refine Plan_float 18 rfl rfl (by kernel_rfl) (OK_s (EX_s (PS_move rfl))) ?_
  refine Plan_float 19 rfl rfl (by kernel_rfl) (OK_gt (t := 47) rfl rfl (fun q => EX_s (PS_loadA rfl tya41 (.tail _ (.tail _ (.head _))) (Lens.id Telnet.fl.len Telnet.fl.one) rfl))) ?_
  refine Plan_float 20 rfl rfl (by kernel_rfl) (OK_gt (t := 47) rfl rfl (fun q => EX_c (PC_of cf25 (.cons (cvE rfl q) .nil) (fun w hS => telnet_Good_spec _ w)))) ?_
  refine Plan_float 21 rfl rfl (by kernel_rfl) (OK_gt (t := 47) rfl rfl (fun q => EX_s (PS_loadA rfl tya41 (.tail _ (.tail _ (.head _))) (Lens.id Telnet.fl.len Telnet.fl.one) rfl))) ?_
  refine Plan_float 22 rfl rfl (by kernel_rfl) (OK_gt (t := 47) rfl rfl (fun q => EX_c (PC_of cf26 (.cons (cvE rfl q) .nil) (fun w hS => ref_GoodTelnet_spec _ w)))) ?_
  refine Plan_float 23 rfl rfl (by kernel_rfl) (OK_gt (t := 47) rfl rfl (fun q => EX_s (PS_eql_bool Tryd.underlying4 (cvE rfl q) (cvE rfl q)))) ?_
  refine Plan_float 24 rfl rfl (by kernel_rfl) (OK_s (EX_s (PS_and rfl rfl (fun h => h)))) ?_
  refine Plan_float 25 rfl rfl (by kernel_rfl) (OK_s (EX_s (PS_move rfl))) ?_
  refine Plan_float 26 rfl rfl (by kernel_rfl) (OK_gt (t := 54) rfl rfl (fun q => EX_s (PS_move rfl))) ?_
  refine Plan_float 27 rfl rfl (by kernel_rfl) (OK_gt (t := 54) rfl rfl (fun q => by have q1 := q; (try simp at q1); exact EX_c (PC_of cf21 (.cons (cvE rfl q) .nil) (fun w hS => telnet_Escape_spec _ (by omega) w)))) ?_
  refine Plan_float 28 rfl rfl (by kernel_rfl) (OK_gt (t := 54) rfl rfl (fun q => EX_s (PS_move rfl))) ?_
  refine Plan_float 29 rfl rfl (by kernel_rfl) (OK_gt (t := 54) rfl rfl (fun q => by have q1 := q; (try simp at q1); exact EX_c (PC_of cf27 (.cons (cvE rfl q) .nil) (fun w hS => ref_EscapeText_spec _ (by omega) w)))) ?_
  refine Plan_float 30 rfl rfl (by kernel_rfl) (OK_gt (t := 54) rfl rfl (fun q => EX_s (PS_eql_str (cvE rfl q) (cvE rfl q)))) ?_
  refine Plan_float 31 rfl rfl (by kernel_rfl) (OK_s (EX_s (PS_and rfl rfl (fun h => h)))) ?_
  refine Plan_float 32 rfl rfl (by kernel_rfl) (OK_s (EX_s (PS_move rfl))) ?_
  refine Plan_float 33 rfl rfl (by kernel_rfl) (OK_gt (t := 61) rfl rfl (fun q => EX_c (PC_of cf28 .nil (fun w hS => law_feeds_spec w)))) ?_
  refine Plan_float 34 rfl rfl (by kernel_rfl) (OK_s (EX_s (PS_and rfl rfl (fun h => h)))) ?_
  refine Plan_float 35 rfl rfl (by kernel_rfl) (OK_s (EX_s (PS_assign rfl))) ?_
  refine Plan_end (by kernel_rfl) ?_
  refine GQ_sub (.cons (k := 4) rfl (.nil _)) ?_
  refine GQ_then ?_
  refine G_ret ?_
  refine GQ_ret rfl (.tmp rfl .nil) ?_
  intro w1 hS; refine ⟨?_, hS.toKeep⟩; exact congrArg Value.bool (by rw [Telnet.refGood_eq]; simp)
mutual
def cellsD {H : Type} : DataW H → List Value
  | .lit (.int k n) => [.int k n]
  | .lit (.string bs) => [.string ⟨bs.toArray⟩]
  | .lit (.bool b) => [.bool b]
  | .agg ps => cellsDs ps
  | _ => []
def cellsDs {H : Type} : List (DataW H) → List Value
  | [] => []
  | d :: r => cellsD d ++ cellsDs r
end
/-- A world in which the listed variables hold what is listed. -/
noncomputable def laidWorld (os : Os) : World := { World.holding Tryd.prog os ⟨#[], #[], []⟩ with heap := (((World.holding Tryd.prog os ⟨#[], #[], []⟩).heap.modify 2 fun o => match o with | .cells _ t frozen => .cells (cellsD (Rows.laid_unicode_utf8_acceptRanges : DataW Unit)).toArray t frozen | o => o).modify 1 fun o => match o with | .cells _ t frozen => .cells (cellsD (Rows.laid_unicode_utf8_first : DataW Unit)).toArray t frozen | o => o) }
set_option maxRecDepth 100000 in
theorem laid_met (os : Os) : laidMet Tryd.prog Rows.telnetFeedsUptoRow.laid ((laidWorld os).forCall (fun _ _ => 0) ⟨#[], #[.agg (Telnet.enc (default : Telnet)).toArray, vstr []], []⟩).memory :=
  laidMet_of_run' 8 (by kernel_rfl) (by kernel_rfl)
set_option maxRecDepth 100000 in
theorem reads (os : Os) {H : Type} (enc : TypeId × Value → H) : ∃ places, DataW.whole enc Tryd.prog ((laidWorld os).forCall (fun _ _ => 0) ⟨#[], #[.agg (Telnet.enc (default : Telnet)).toArray, vstr []], []⟩).memory Tryd.f5.params.toList Rows.telnetFeedsSpec.vars false (#[.agg (Telnet.enc (default : Telnet)).toArray, vstr []] : Array Value).toList 8 = some ([.agg [.lit (.int .i64 0), .lit (.int .i64 0), .lit (.string []), .agg (List.replicate 3 (.lit (.int .i64 0))), .agg (List.replicate 3 (.lit (.int .i64 0))), .lit (.int .i64 0)], .lit (.string [])], [], places) := ⟨[], by kernel_rfl⟩
set_option maxRecDepth 100000 in
theorem telnetFeeds_lifted (os : Os) (started : os.Started) (H : Type) (enc : TypeId × Value → H) (F : Stop.Interp) :
    ReturnsInHanded {} Tryd.checked os 5 .any ((Rows.OpenSpec.upto Rows.telnetFeedsSpec).preRow enc Tryd.prog Tryd.f5 Rows.telnetFeedsUptoRow.domain false Rows.telnetFeedsUptoRow.laid) (((Rows.OpenSpec.upto Rows.telnetFeedsSpec).at F).post enc Tryd.prog Tryd.f5 false true false false) := by
  obtain ⟨places, hx⟩ := reads os enc
  refine returnsInHanded_of_row (C := Tryd.checked) (s := (Rows.OpenSpec.upto Rows.telnetFeedsSpec)) own started (by kernel_rfl) Tryd.func5
    (witness_row_at (enc := enc) (C := Tryd.checked) false (laidWorld os) #[.agg (Telnet.enc (default : Telnet)).toArray, vstr []] rfl (by kernel_rfl) (by kernel_rfl) (by kernel_rfl)
      (OpenSpec.preRow_of_cond 8 hx (by kernel_rfl) (fun k hk => by cases hk; kernel_rfl) (by kernel_rfl) (laid_met os))) ?_
  intro W base args ds gs before hval hW _ hcond hsz hL _ _
  have hu : Rows.uptoBulkAll (ds ++ gs) ≤ 1048576 := of_decide_eq_true (hcond _ rfl)
  refine law_post (B := 4) laidOut (by kernel_rfl) Tryd.underlying4 (by kernel_rfl) rfl (fun ds h => by rw [Tryd.params5] at h; match ds, h with | [d1, d2], _ => rfl) hW ?_
  obtain ⟨p, q, hA, hV, _, _, _⟩ := hW
  rw [Tryd.params5] at hA
  obtain ⟨v0, vs0, d0, ds0, p0, q0, hv0, rfl, rfl, hd0, hA⟩ := trodAll_cons hA
  obtain ⟨v1, vs1, d1, ds1, p1, q1, hv1, rfl, rfl, hd1, hA⟩ := trodAll_cons hA
  obtain ⟨hvn, rfl, rfl⟩ := trodAll_nil hA
  obtain rfl : args = #[v0, v1] := by cases args; simp_all
  obtain ⟨X, rfl, w0⟩ := open_ag (P := Tryd.prog) (t := 41) (by rw [Tryd.underlying41]) (hval 0 _ _ rfl rfl) dc41 hd0
  obtain ⟨u, rfl, rfl, rfl, w1⟩ := open_str Tryd.underlying9 (hval 1 _ _ rfl rfl) hd1
  simp only [List.cons_append, List.nil_append, Rows.uptoBulkAll, Rows.uptoBulk, Array.length_toList] at hu
  exact law_TelnetFeeds_spec _ _ (by omega) W
theorem telnetFeeds_said : Rows.TelnetFeedsUptoSaid :=
  OpenClaim.holds_of_cond 5 Tryd.f5 rfl rfl rfl rfl rfl rfl rfl ⟨rfl, rfl, rfl, rfl, rfl⟩ rfl rfl rfl rfl rfl (by kernel_rfl) Tryd.func5 (by kernel_rfl)
    (of_decide_eq_true (by kernel_rfl)) (by unfold Func.isWrapper; first | (rw [if_pos (by decide +kernel)]; kernel_rfl) | (rw [if_neg (by decide +kernel)]; exact ⟨rfl, rfl⟩))
    (fun os started H enc _ F => by rw [OpenClaim.pre_eq_preRow]; exact telnetFeeds_lifted os started H enc F)
theorem plainArgs (f : FuncId) (fn : Func) (hf : Tryd.pinned.checked.prog.funcNamed "inglenook/inglenooklaw.TelnetFeeds" = some f) (hfn : Tryd.pinned.checked.prog.funcs[f]? = some fn) :
    false = Tryd.pinned.checked.prog.looks [] ∧ ∀ (j : Nat) t, fn.params[j]? = some t → Tryd.pinned.checked.prog.wantsStandIn t = false := by
  obtain rfl : f = 5 := Option.some.inj ((show Tryd.prog.funcNamed "inglenook/inglenooklaw.TelnetFeeds" = some 5 by kernel_rfl).symm.trans hf) |>.symm
  obtain rfl : fn = Tryd.f5 := (Option.some.inj (Tryd.func5.symm.trans hfn)).symm
  refine ⟨by kernel_rfl, fun j t ht => ?_⟩
  rw [Tryd.params5] at ht
  have hm : t ∈ [41, 9] := by simpa using Array.mem_of_getElem? ht
  have hall : ([41, 9].all fun u => !Tryd.prog.wantsStandIn u) = true := by kernel_rfl
  exact (show Tryd.prog.wantsStandIn t = false by simpa using List.all_eq_true.1 hall t hm)
theorem telnetFeeds_holds : Rows.TelnetFeedsUptoCardSaid :=
  Claim7.holds_tied_plain_at .later [] _ _ _ _ telnetFeeds_said (fun _ h => by cases h) (by kernel_rfl) (fun _ h => by cases h) telnetFeedsUpto_row_tie rfl ⟨rfl, rfl⟩ (by kernel_rfl) rfl plainArgs (by kernel_rfl)
end Go.Proofs.YtiimccommiokjaaDoor
